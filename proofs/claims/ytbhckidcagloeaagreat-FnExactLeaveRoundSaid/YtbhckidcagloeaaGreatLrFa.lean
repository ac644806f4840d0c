/- What the functions that the laws reach compute, as functions over plain data; each one's equation with the program is checked by the kernel. Conditions: none. -/
import Derived.Test.YtbhckidcagloeaaGreatTm4
import Derived.Test.YtbhckidcagloeaaGreatProg
namespace Go.Proofs.YtbhckidcagloeaaGreat
open Go Go.Tm
set_option linter.unusedVariables false
set_option maxRecDepth 100000
def e3:Tys:=(.cons (.int .i64) .nil)
abbrev D3:Type:=(Int×Unit)
def e5:Tys:=(.cons (.int .u8) .nil)
abbrev D5:Type:=(Int×Unit)
def e9:Tys:=(.cons .str .nil)
abbrev D9:Type:=(ByteArray×Unit)
def e243:Tys:=(.cons (.int .i64) (.cons (.int .i64) .nil))
abbrev D243:Type:=(Int×(Int×Unit))
def e191:Tys:=(.cons .str (.cons (.int .i64) (.cons (.int .i64) (.cons (.int .i64) (.cons (.sl e243) .nil)))))
abbrev D191:Type:=(ByteArray×(Int×(Int×(Int×(List D243×Unit)))))
def e24:Tys:=(.cons (.int .i64) (.cons (.sl e191) .nil))
abbrev D24:Type:=(Int×(List D191×Unit))
def e29:Tys:=(.cons (.int .i64) (.cons (.int .i64) (.cons (.sl e9) .nil)))
abbrev D29:Type:=(Int×(Int×(List D9×Unit)))
def e32:Tys:=(.cons (.int .i64) (.cons (.sl e9) (.cons (.sl e3) .nil)))
abbrev D32:Type:=(Int×(List D9×(List D3×Unit)))
def e127:Tys:=(.cons .str (.cons (.int .i64) .nil))
abbrev D127:Type:=(ByteArray×(Int×Unit))
def e137:Tys:=(.cons (.int .i64) (.cons .str (.cons .str (.cons (.int .i64) (.cons (.int .i64) .nil)))))
abbrev D137:Type:=(Int×(ByteArray×(ByteArray×(Int×(Int×Unit)))))
def e130:Tys:=(.cons (.int .i64) (.cons (.int .i64) (.cons (.int .i64) (.cons .str (.cons (.int .i64) (.cons (.int .i64) (.cons (.sl e9) (.cons (.int .i64) (.cons (.sl e9) (.cons (.sl e3) (.cons (.sl e137) (.cons .bool (.cons (.sl e127) (.cons .str .nil))))))))))))))
abbrev D130:Type:=(Int×(Int×(Int×(ByteArray×(Int×(Int×(List D9×(Int×(List D9×(List D3×(List D137×(Bool×(List D127×(ByteArray×Unit))))))))))))))
def e132:Tys:=(.cons (.int .i64) (.cons (.int .i64) (.cons .str .nil)))
abbrev D132:Type:=(Int×(Int×(ByteArray×Unit)))
def e134:Tys:=(.cons (.int .i64) (.cons (.int .i64) (.cons .str .nil)))
abbrev D134:Type:=(Int×(Int×(ByteArray×Unit)))
def e140:Tys:=(.cons (.int .i64) (.cons (.sl e130) (.cons (.int .i64) (.cons (.int .i64) (.cons (.sl e9) .nil)))))
abbrev D140:Type:=(Int×(List D130×(Int×(Int×(List D9×Unit)))))
def e38:Tys:=(.cons .str (.cons (.int .i64) (.cons (.int .i64) (.cons (.sl e191) (.cons (.sl e127) (.cons (.sl e130) (.cons (.int .i64) (.cons (.int .i64) (.cons (.int .i64) (.cons (.int .i64) (.cons (.sl e9) (.cons (.int .i64) (.cons (.sl e9) (.cons (.sl e3) (.cons (.int .i64) (.cons (.sl e132) (.cons (.sl e134) (.cons (.sl e3) (.cons (.sl e137) (.cons (.sl e140) .nil))))))))))))))))))))
abbrev D38:Type:=(ByteArray×(Int×(Int×(List D191×(List D127×(List D130×(Int×(Int×(Int×(Int×(List D9×(Int×(List D9×(List D3×(Int×(List D132×(List D134×(List D3×(List D137×(List D140×Unit))))))))))))))))))))
def e229:Tys:=(.cons (.int .i64) (.cons (.int .i64) .nil))
abbrev D229:Type:=(Int×(Int×Unit))
def e207:Tys:=(.cons .str (.cons (.int .i64) (.cons (.int .i64) (.cons (.int .i64) (.cons (.sl e229) .nil)))))
abbrev D207:Type:=(ByteArray×(Int×(Int×(Int×(List D229×Unit)))))
def e42:Tys:=(.cons (.int .i64) (.cons (.sl e207) .nil))
abbrev D42:Type:=(Int×(List D207×Unit))
def e45:Tys:=(.cons (.int .i64) (.cons (.int .i64) (.cons (.sl e9) .nil)))
abbrev D45:Type:=(Int×(Int×(List D9×Unit)))
def e46:Tys:=(.cons (.int .i64) (.cons (.sl e9) (.cons (.sl e3) .nil)))
abbrev D46:Type:=(Int×(List D9×(List D3×Unit)))
def e163:Tys:=(.cons .str (.cons (.int .i64) .nil))
abbrev D163:Type:=(ByteArray×(Int×Unit))
def e169:Tys:=(.cons (.int .i64) (.cons .str (.cons .str (.cons (.int .i64) (.cons (.int .i64) .nil)))))
abbrev D169:Type:=(Int×(ByteArray×(ByteArray×(Int×(Int×Unit)))))
def e154:Tys:=(.cons (.int .i64) (.cons (.int .i64) (.cons (.int .i64) (.cons .str (.cons (.int .i64) (.cons (.int .i64) (.cons (.sl e9) (.cons (.int .i64) (.cons (.sl e9) (.cons (.sl e3) (.cons (.sl e169) (.cons .bool (.cons (.sl e163) (.cons .str .nil))))))))))))))
abbrev D154:Type:=(Int×(Int×(Int×(ByteArray×(Int×(Int×(List D9×(Int×(List D9×(List D3×(List D169×(Bool×(List D163×(ByteArray×Unit))))))))))))))
def e105:Tys:=(.cons (.int .i64) (.cons (.int .i64) (.cons .str .nil)))
abbrev D105:Type:=(Int×(Int×(ByteArray×Unit)))
def e107:Tys:=(.cons (.int .i64) (.cons (.int .i64) (.cons .str .nil)))
abbrev D107:Type:=(Int×(Int×(ByteArray×Unit)))
def e146:Tys:=(.cons (.int .i64) (.cons (.sl e154) (.cons (.int .i64) (.cons (.int .i64) (.cons (.sl e9) .nil)))))
abbrev D146:Type:=(Int×(List D154×(Int×(Int×(List D9×Unit)))))
def e52:Tys:=(.cons .str (.cons (.int .i64) (.cons (.int .i64) (.cons (.sl e207) (.cons (.sl e163) (.cons (.sl e154) (.cons (.int .i64) (.cons (.int .i64) (.cons (.int .i64) (.cons (.int .i64) (.cons (.sl e9) (.cons (.int .i64) (.cons (.sl e9) (.cons (.sl e3) (.cons (.int .i64) (.cons (.sl e105) (.cons (.sl e107) (.cons (.sl e3) (.cons (.sl e169) (.cons (.sl e146) .nil))))))))))))))))))))
abbrev D52:Type:=(ByteArray×(Int×(Int×(List D207×(List D163×(List D154×(Int×(Int×(Int×(Int×(List D9×(Int×(List D9×(List D3×(Int×(List D105×(List D107×(List D3×(List D169×(List D146×Unit))))))))))))))))))))
def e109:Tys:=(.cons (.int .i64) (.cons .str (.cons (.int .i64) (.cons (.sl e154) (.cons (.int .i64) (.cons (.int .i64) (.cons .str (.cons (.int .i64) (.cons (.int .i64) (.cons .str (.cons (.int .i64) (.cons (.int .i64) (.cons (.sl e9) (.cons (.int .i64) (.cons (.sl e9) (.cons (.sl e3) .nil))))))))))))))))
abbrev D109:Type:=(Int×(ByteArray×(Int×(List D154×(Int×(Int×(ByteArray×(Int×(Int×(ByteArray×(Int×(Int×(List D9×(Int×(List D9×(List D3×Unit))))))))))))))))
def e112:Tys:=(.cons (.int .i64) (.cons (.int .i64) (.cons (.int .i64) (.cons (.int .i64) (.cons .str .nil)))))
abbrev D112:Type:=(Int×(Int×(Int×(Int×(ByteArray×Unit)))))
def e91:Tys:=(.cons (.sl e109) (.cons (.sl e112) .nil))
abbrev D91:Type:=(List D109×(List D112×Unit))
def m0:List Md:= [.sh,.sh,.sh,.sh,(.own [])]
def m1:List Md:= [.sh,(.own []),(.own [])]
def m2:List Md:= [.sh,.sh,.sh,.sh,.sh,.sh,(.own []),.sh,(.own []),(.own []),(.own []),.sh,(.own [])]
def m3:List Md:= [.sh,(.own m2),.sh,.sh,(.own [])]
def m4:List Md:= [.sh,.sh,.sh,(.own m0),(.own []),(.own m2),.sh,.sh,.sh,.sh,(.own []),.sh,(.own []),(.own []),.sh,(.own []),(.own []),(.own []),(.own []),(.own m3)]
def m5:List Md:= [.sh,.sh,.sh,(.own m2),.sh,.sh,.sh,.sh,.sh,.sh,.sh,.sh,(.own []),.sh,(.own []),(.own [])]
def m6:List Md:= [.sh,.sh,.sh,.sh,.sh,.sh,.sh,.sh,.sh,.sh,.sh,.sh,.sh,.sh,.sh,(.own []),(.own []),(.own []),.sh,(.own m3)]
def TTL:List (Nat×TI):= [(3,⟨1,8,.int .i64,[(.int .i64 (0:Int))],[],[],none⟩),(4,⟨1,1,.bool,[(.bool false)],[],[],none⟩),(5,⟨1,1,.int .u8,[(.int .u8 (0:Int))],[],[],none⟩),(9,⟨1,16,.str,[(.str ⟨#[]⟩)],[],[],none⟩),(22,⟨1,24,.slice 191,[.nils],[],[],none⟩),(24,⟨2,32,.struct,[(.int .i64 (0:Int)),.nils],[(0,1),(1,1)],[false,false],none⟩),(25,⟨1,24,.slice 127,[.nils],[],[],none⟩),(26,⟨1,24,.slice 130,[.nils],[],[],none⟩),(27,⟨1,24,.slice 9,[.nils],[],[],none⟩),(29,⟨3,40,.struct,[(.int .i64 (0:Int)),(.int .i64 (0:Int)),.nils],[(0,1),(1,1),(2,1)],[false,false,false],none⟩),(30,⟨1,24,.slice 3,[.nils],[],[],none⟩),(32,⟨3,56,.struct,[(.int .i64 (0:Int)),.nils,.nils],[(0,1),(1,1),(2,1)],[false,false,false],none⟩),(33,⟨1,24,.slice 132,[.nils],[],[],none⟩),(34,⟨1,24,.slice 134,[.nils],[],[],none⟩),(35,⟨1,24,.slice 137,[.nils],[],[],none⟩),(36,⟨1,24,.slice 140,[.nils],[],[],none⟩),(38,⟨20,344,.struct,[(.str ⟨#[]⟩),(.int .i64 (0:Int)),(.int .i64 (0:Int)),.nils,.nils,.nils,(.int .i64 (0:Int)),(.int .i64 (0:Int)),(.int .i64 (0:Int)),(.int .i64 (0:Int)),.nils,(.int .i64 (0:Int)),.nils,.nils,(.int .i64 (0:Int)),.nils,.nils,.nils,.nils,.nils],[(0,1),(1,1),(2,2),(4,1),(5,1),(6,1),(7,1),(8,3),(11,3),(14,1),(15,1),(16,1),(17,1),(18,1),(19,1)],[false,false,true,false,false,false,false,true,true,false,false,false,false,false,false],none⟩),(40,⟨1,24,.slice 207,[.nils],[],[],none⟩),(42,⟨2,32,.struct,[(.int .i64 (0:Int)),.nils],[(0,1),(1,1)],[false,false],none⟩),(43,⟨1,24,.slice 163,[.nils],[],[],none⟩),(44,⟨1,24,.slice 154,[.nils],[],[],none⟩),(45,⟨3,40,.struct,[(.int .i64 (0:Int)),(.int .i64 (0:Int)),.nils],[(0,1),(1,1),(2,1)],[false,false,false],none⟩),(46,⟨3,56,.struct,[(.int .i64 (0:Int)),.nils,.nils],[(0,1),(1,1),(2,1)],[false,false,false],none⟩),(47,⟨1,24,.slice 105,[.nils],[],[],none⟩),(48,⟨1,24,.slice 107,[.nils],[],[],none⟩),(49,⟨1,24,.slice 169,[.nils],[],[],none⟩),(50,⟨1,24,.slice 146,[.nils],[],[],none⟩),(52,⟨20,344,.struct,[(.str ⟨#[]⟩),(.int .i64 (0:Int)),(.int .i64 (0:Int)),.nils,.nils,.nils,(.int .i64 (0:Int)),(.int .i64 (0:Int)),(.int .i64 (0:Int)),(.int .i64 (0:Int)),.nils,(.int .i64 (0:Int)),.nils,.nils,(.int .i64 (0:Int)),.nils,.nils,.nils,.nils,.nils],[(0,1),(1,1),(2,2),(4,1),(5,1),(6,1),(7,1),(8,3),(11,3),(14,1),(15,1),(16,1),(17,1),(18,1),(19,1)],[false,false,true,false,false,false,false,true,true,false,false,false,false,false,false],none⟩),(53,⟨1,24,.slice 109,[.nils],[],[],none⟩),(54,⟨1,24,.slice 112,[.nils],[],[],none⟩),(91,⟨2,48,.struct,[.nils,.nils],[(0,1),(1,1)],[false,false],none⟩),(105,⟨3,32,.struct,[(.int .i64 (0:Int)),(.int .i64 (0:Int)),(.str ⟨#[]⟩)],[(0,1),(1,1),(2,1)],[false,false,false],(some [.int .i64,.int .i64,.str])⟩),(107,⟨3,32,.struct,[(.int .i64 (0:Int)),(.int .i64 (0:Int)),(.str ⟨#[]⟩)],[(0,1),(1,1),(2,1)],[false,false,false],(some [.int .i64,.int .i64,.str])⟩),(109,⟨16,216,.struct,[(.int .i64 (0:Int)),(.str ⟨#[]⟩),(.int .i64 (0:Int)),.nils,(.int .i64 (0:Int)),(.int .i64 (0:Int)),(.str ⟨#[]⟩),(.int .i64 (0:Int)),(.int .i64 (0:Int)),(.str ⟨#[]⟩),(.int .i64 (0:Int)),(.int .i64 (0:Int)),.nils,(.int .i64 (0:Int)),.nils,.nils],[(0,1),(1,1),(2,1),(3,1),(4,3),(7,3),(10,3),(13,3)],[false,false,false,false,true,true,true,true],none⟩),(112,⟨5,48,.struct,[(.int .i64 (0:Int)),(.int .i64 (0:Int)),(.int .i64 (0:Int)),(.int .i64 (0:Int)),(.str ⟨#[]⟩)],[(0,1),(1,1),(2,1),(3,1),(4,1)],[false,false,false,false,false],(some [.int .i64,.int .i64,.int .i64,.int .i64,.str])⟩),(127,⟨2,24,.struct,[(.str ⟨#[]⟩),(.int .i64 (0:Int))],[(0,1),(1,1)],[false,false],(some [.str,.int .i64])⟩),(130,⟨14,208,.struct,[(.int .i64 (0:Int)),(.int .i64 (0:Int)),(.int .i64 (0:Int)),(.str ⟨#[]⟩),(.int .i64 (0:Int)),(.int .i64 (0:Int)),.nils,(.int .i64 (0:Int)),.nils,.nils,.nils,(.bool false),.nils,(.str ⟨#[]⟩)],[(0,1),(1,1),(2,1),(3,1),(4,3),(7,3),(10,1),(11,1),(12,1),(13,1)],[false,false,false,false,true,true,false,false,false,false],none⟩),(132,⟨3,32,.struct,[(.int .i64 (0:Int)),(.int .i64 (0:Int)),(.str ⟨#[]⟩)],[(0,1),(1,1),(2,1)],[false,false,false],(some [.int .i64,.int .i64,.str])⟩),(134,⟨3,32,.struct,[(.int .i64 (0:Int)),(.int .i64 (0:Int)),(.str ⟨#[]⟩)],[(0,1),(1,1),(2,1)],[false,false,false],(some [.int .i64,.int .i64,.str])⟩),(137,⟨5,56,.struct,[(.int .i64 (0:Int)),(.str ⟨#[]⟩),(.str ⟨#[]⟩),(.int .i64 (0:Int)),(.int .i64 (0:Int))],[(0,1),(1,1),(2,1),(3,1),(4,1)],[false,false,false,false,false],(some [.int .i64,.str,.str,.int .i64,.int .i64])⟩),(140,⟨5,72,.struct,[(.int .i64 (0:Int)),.nils,(.int .i64 (0:Int)),(.int .i64 (0:Int)),.nils],[(0,1),(1,1),(2,3)],[false,false,true],none⟩),(146,⟨5,72,.struct,[(.int .i64 (0:Int)),.nils,(.int .i64 (0:Int)),(.int .i64 (0:Int)),.nils],[(0,1),(1,1),(2,3)],[false,false,true],none⟩),(154,⟨14,208,.struct,[(.int .i64 (0:Int)),(.int .i64 (0:Int)),(.int .i64 (0:Int)),(.str ⟨#[]⟩),(.int .i64 (0:Int)),(.int .i64 (0:Int)),.nils,(.int .i64 (0:Int)),.nils,.nils,.nils,(.bool false),.nils,(.str ⟨#[]⟩)],[(0,1),(1,1),(2,1),(3,1),(4,3),(7,3),(10,1),(11,1),(12,1),(13,1)],[false,false,false,false,true,true,false,false,false,false],none⟩),(163,⟨2,24,.struct,[(.str ⟨#[]⟩),(.int .i64 (0:Int))],[(0,1),(1,1)],[false,false],(some [.str,.int .i64])⟩),(169,⟨5,56,.struct,[(.int .i64 (0:Int)),(.str ⟨#[]⟩),(.str ⟨#[]⟩),(.int .i64 (0:Int)),(.int .i64 (0:Int))],[(0,1),(1,1),(2,1),(3,1),(4,1)],[false,false,false,false,false],(some [.int .i64,.str,.str,.int .i64,.int .i64])⟩),(187,⟨1,24,.slice 5,[.nils],[],[],none⟩),(189,⟨1,24,.slice 243,[.nils],[],[],none⟩),(191,⟨5,64,.struct,[(.str ⟨#[]⟩),(.int .i64 (0:Int)),(.int .i64 (0:Int)),(.int .i64 (0:Int)),.nils],[(0,1),(1,1),(2,1),(3,1),(4,1)],[false,false,false,false,false],none⟩),(205,⟨1,24,.slice 229,[.nils],[],[],none⟩),(207,⟨5,64,.struct,[(.str ⟨#[]⟩),(.int .i64 (0:Int)),(.int .i64 (0:Int)),(.int .i64 (0:Int)),.nils],[(0,1),(1,1),(2,1),(3,1),(4,1)],[false,false,false,false,false],none⟩),(229,⟨2,16,.struct,[(.int .i64 (0:Int)),(.int .i64 (0:Int))],[(0,1),(1,1)],[false,false],(some [.int .i64,.int .i64])⟩),(243,⟨2,16,.struct,[(.int .i64 (0:Int)),(.int .i64 (0:Int))],[(0,1),(1,1)],[false,false],(some [.int .i64,.int .i64])⟩)]
theorem tt_ok:TTL.map (fun p=>tiOf Tryz.prog p.1)=TTL.map (fun p=>some p.2):=by kernel_rfl
def TT:Nat→Option TI:=lookT TTL
def EE:Nat→Tys:=fun n=>(bif Nat.ble n 109 then (bif Nat.ble n 38 then (bif Nat.ble n 9 then (bif Nat.ble n 3 then (bif Nat.beq n 3 then e3 else .nil) else (bif Nat.ble n 5 then (bif Nat.beq n 5 then e5 else .nil) else (bif Nat.beq n 9 then e9 else .nil))) else (bif Nat.ble n 29 then (bif Nat.ble n 24 then (bif Nat.beq n 24 then e24 else .nil) else (bif Nat.beq n 29 then e29 else .nil)) else (bif Nat.ble n 32 then (bif Nat.beq n 32 then e32 else .nil) else (bif Nat.beq n 38 then e38 else .nil)))) else (bif Nat.ble n 52 then (bif Nat.ble n 45 then (bif Nat.ble n 42 then (bif Nat.beq n 42 then e42 else .nil) else (bif Nat.beq n 45 then e45 else .nil)) else (bif Nat.ble n 46 then (bif Nat.beq n 46 then e46 else .nil) else (bif Nat.beq n 52 then e52 else .nil))) else (bif Nat.ble n 105 then (bif Nat.ble n 91 then (bif Nat.beq n 91 then e91 else .nil) else (bif Nat.beq n 105 then e105 else .nil)) else (bif Nat.ble n 107 then (bif Nat.beq n 107 then e107 else .nil) else (bif Nat.beq n 109 then e109 else .nil))))) else (bif Nat.ble n 140 then (bif Nat.ble n 130 then (bif Nat.ble n 112 then (bif Nat.beq n 112 then e112 else .nil) else (bif Nat.ble n 127 then (bif Nat.beq n 127 then e127 else .nil) else (bif Nat.beq n 130 then e130 else .nil))) else (bif Nat.ble n 134 then (bif Nat.ble n 132 then (bif Nat.beq n 132 then e132 else .nil) else (bif Nat.beq n 134 then e134 else .nil)) else (bif Nat.ble n 137 then (bif Nat.beq n 137 then e137 else .nil) else (bif Nat.beq n 140 then e140 else .nil)))) else (bif Nat.ble n 169 then (bif Nat.ble n 154 then (bif Nat.ble n 146 then (bif Nat.beq n 146 then e146 else .nil) else (bif Nat.beq n 154 then e154 else .nil)) else (bif Nat.ble n 163 then (bif Nat.beq n 163 then e163 else .nil) else (bif Nat.beq n 169 then e169 else .nil))) else (bif Nat.ble n 207 then (bif Nat.ble n 191 then (bif Nat.beq n 191 then e191 else .nil) else (bif Nat.beq n 207 then e207 else .nil)) else (bif Nat.ble n 229 then (bif Nat.beq n 229 then e229 else .nil) else (bif Nat.beq n 243 then e243 else .nil))))))
def lk {α:Type _}:List (Nat×α)→Nat→Option α
 | [],_=>none
 |(k,v)::r,n=>bif Nat.beq n k then some v else lk r n
def li (a:Nat):Nat→List Nat
 |0=> []
 |n+1=>a::li (a+1) n
def at2 (l:List (Nat×List (Nat×List Md))) (r i:Nat):List Md:=match lk l r with
 |none=> []
 |some z=>match lk z i with
  |none=> []
  |some m=>m
noncomputable def cx (nt:Nat) (con:List (Nat×Con)) (site:List (Nat×List (Nat×List Md))) (lp jn:List (Nat×Ann)):Ctx:=⟨nt,TT,EE,lk con,at2 site,lk lp,lk jn⟩
def i184:List Grp:= [⟨.c,(.cons (.sl e243) .nil),[]⟩,⟨.c,(.cons (.int .i64) .nil),[]⟩]
def o184:List Grp:= [⟨.c,(.cons (.int .i64) .nil),[]⟩]
noncomputable def F184:((List D243×Unit)×((Int×Unit)×Unit))→Option (((Int×Unit)×Unit)):=fun x0=>bif iLt (iSub .i64 x0.2.1.1 (List.length x0.1.1:Int)) (0:Int) then some (((-1:Int),()),()) else some ((iSub .i64 x0.2.1.1 (List.length x0.1.1:Int),()),())
noncomputable def c184:Con:=⟨i184,o184,F184⟩
def i143:List Grp:= [⟨.agg,e191,[]⟩,⟨.c,(.cons (.int .i64) .nil),[]⟩]
def o143:List Grp:= [⟨.c,(.cons (.int .i64) .nil),[]⟩]
noncomputable def F143:(D191×((Int×Unit)×Unit))→Option (((Int×Unit)×Unit)):=fun x0=>bif iLt (iSub .i64 x0.2.1.1 (ByteArray.size x0.1.1:Int)) (0:Int) then some (((-1:Int),()),()) else (F184 ((x0.1.2.2.2.2.1,()),((iSub .i64 x0.2.1.1 (ByteArray.size x0.1.1:Int),()),()))).bind fun y1=>bif iLt y1.1.1 (0:Int) then some (((-1:Int),()),()) else some (y1.1,())
noncomputable def c143:Con:=⟨i143,o143,F143⟩
def i78:List Grp:= [⟨.c,(.cons (.sl e191) .nil),[]⟩,⟨.c,(.cons (.int .i64) .nil),[]⟩]
def o78:List Grp:= [⟨.c,(.cons (.int .i64) .nil),[]⟩]
noncomputable def F78.b0 (x0:((List D191×Unit)×((Int×Unit)×Unit))):(v1:(Int×(Int×Unit)))→Option (Sum (Int×(Int×Unit)) (Sum (Int×(Int×Unit)) (((Int×Unit)×Unit)))):=fun v1=>bif iLt v1.2.1 (List.length x0.1.1:Int) then (getI x0.1.1 v1.2.1).bind fun x2=>(F143 (x2,((v1.1,()),()))).bind fun y3=>bif iLt y3.1.1 (0:Int) then some (.inr (.inr (((-1:Int),()),()))) else some (.inl (y3.1.1,(iAdd .i64 v1.2.1 (1:Int),()))) else some (.inr (.inl (v1.1,(v1.2.1,()))))
noncomputable def F78:((List D191×Unit)×((Int×Unit)×Unit))→Option (((Int×Unit)×Unit)):=fun x0=>bif iLt (iSub .i64 x0.2.1.1 (List.length x0.1.1:Int)) (0:Int) then some (((-1:Int),()),()) else (loopF (F78.b0 x0) (iSub .i64 x0.2.1.1 (List.length x0.1.1:Int),((0:Int),()))).bind fun r5=>Sum.elim (fun v4=>some ((v4.1,()),())) some r5
noncomputable def c78:Con:=⟨i78,o78,F78⟩
def i17:List Grp:= [⟨.agg,e24,[]⟩,⟨.c,(.cons (.int .i64) .nil),[]⟩]
def o17:List Grp:= [⟨.c,(.cons (.int .i64) .nil),[]⟩]
noncomputable def F17:(D24×((Int×Unit)×Unit))→Option (((Int×Unit)×Unit)):=fun x0=>(F78 ((x0.1.2.1,()),(x0.2.1,()))).bind fun y1=>bif iLt y1.1.1 (0:Int) then some (((-1:Int),()),()) else some (y1.1,())
noncomputable def c17:Con:=⟨i17,o17,F17⟩
def i79:List Grp:= [⟨.agg,e127,[]⟩,⟨.c,(.cons (.int .i64) .nil),[]⟩]
def o79:List Grp:= [⟨.c,(.cons (.int .i64) .nil),[]⟩]
noncomputable def F79:(D127×((Int×Unit)×Unit))→Option (((Int×Unit)×Unit)):=fun x0=>bif iLt (iSub .i64 x0.2.1.1 (ByteArray.size x0.1.1:Int)) (0:Int) then some (((-1:Int),()),()) else some ((iSub .i64 x0.2.1.1 (ByteArray.size x0.1.1:Int),()),())
noncomputable def c79:Con:=⟨i79,o79,F79⟩
def i18:List Grp:= [⟨.c,(.cons (.sl e127) .nil),[]⟩,⟨.c,(.cons (.int .i64) .nil),[]⟩]
def o18:List Grp:= [⟨.c,(.cons (.int .i64) .nil),[]⟩]
noncomputable def F18.b0 (x0:((List D127×Unit)×((Int×Unit)×Unit))):(v1:(Int×(Int×Unit)))→Option (Sum (Int×(Int×Unit)) (Sum (Int×(Int×Unit)) (((Int×Unit)×Unit)))):=fun v1=>bif iLt v1.2.1 (List.length x0.1.1:Int) then (getI x0.1.1 v1.2.1).bind fun x2=>(F79 (x2,((v1.1,()),()))).bind fun y3=>bif iLt y3.1.1 (0:Int) then some (.inr (.inr (((-1:Int),()),()))) else some (.inl (y3.1.1,(iAdd .i64 v1.2.1 (1:Int),()))) else some (.inr (.inl (v1.1,(v1.2.1,()))))
noncomputable def F18:((List D127×Unit)×((Int×Unit)×Unit))→Option (((Int×Unit)×Unit)):=fun x0=>bif iLt (iSub .i64 x0.2.1.1 (List.length x0.1.1:Int)) (0:Int) then some (((-1:Int),()),()) else (loopF (F18.b0 x0) (iSub .i64 x0.2.1.1 (List.length x0.1.1:Int),((0:Int),()))).bind fun r5=>Sum.elim (fun v4=>some ((v4.1,()),())) some r5
noncomputable def c18:Con:=⟨i18,o18,F18⟩
def i81:List Grp:= [⟨.c,(.cons (.sl e9) .nil),[]⟩,⟨.c,(.cons (.int .i64) .nil),[]⟩]
def o81:List Grp:= [⟨.c,(.cons (.int .i64) .nil),[]⟩]
noncomputable def F81.b0 (x0:((List D9×Unit)×((Int×Unit)×Unit))):(v1:(Int×(Int×Unit)))→Option (Sum (Int×(Int×Unit)) (Sum (Int×(Int×Unit)) (((Int×Unit)×Unit)))):=fun v1=>bif iLt v1.2.1 (List.length x0.1.1:Int) then (getI x0.1.1 v1.2.1).bind fun x2=>bif iLt (iSub .i64 v1.1 (ByteArray.size x2.1:Int)) (0:Int) then some (.inr (.inr (((-1:Int),()),()))) else some (.inl (iSub .i64 v1.1 (ByteArray.size x2.1:Int),(iAdd .i64 v1.2.1 (1:Int),()))) else some (.inr (.inl (v1.1,(v1.2.1,()))))
noncomputable def F81:((List D9×Unit)×((Int×Unit)×Unit))→Option (((Int×Unit)×Unit)):=fun x0=>bif iLt (iSub .i64 x0.2.1.1 (List.length x0.1.1:Int)) (0:Int) then some (((-1:Int),()),()) else (loopF (F81.b0 x0) (iSub .i64 x0.2.1.1 (List.length x0.1.1:Int),((0:Int),()))).bind fun r4=>Sum.elim (fun v3=>some ((v3.1,()),())) some r4
noncomputable def c81:Con:=⟨i81,o81,F81⟩
def i20:List Grp:= [⟨.agg,e29,[]⟩,⟨.c,(.cons (.int .i64) .nil),[]⟩]
def o20:List Grp:= [⟨.c,(.cons (.int .i64) .nil),[]⟩]
noncomputable def F20:(D29×((Int×Unit)×Unit))→Option (((Int×Unit)×Unit)):=fun x0=>(F81 ((x0.1.2.2.1,()),(x0.2.1,()))).bind fun y1=>bif iLt y1.1.1 (0:Int) then some (((-1:Int),()),()) else some (y1.1,())
noncomputable def c20:Con:=⟨i20,o20,F20⟩
def i24:List Grp:= [⟨.c,(.cons (.sl e3) .nil),[]⟩,⟨.c,(.cons (.int .i64) .nil),[]⟩]
def o24:List Grp:= [⟨.c,(.cons (.int .i64) .nil),[]⟩]
noncomputable def F24:((List D3×Unit)×((Int×Unit)×Unit))→Option (((Int×Unit)×Unit)):=fun x0=>bif iLt (iSub .i64 x0.2.1.1 (List.length x0.1.1:Int)) (0:Int) then some (((-1:Int),()),()) else some ((iSub .i64 x0.2.1.1 (List.length x0.1.1:Int),()),())
noncomputable def c24:Con:=⟨i24,o24,F24⟩
def i21:List Grp:= [⟨.agg,e32,[]⟩,⟨.c,(.cons (.int .i64) .nil),[]⟩]
def o21:List Grp:= [⟨.c,(.cons (.int .i64) .nil),[]⟩]
noncomputable def F21:(D32×((Int×Unit)×Unit))→Option (((Int×Unit)×Unit)):=fun x0=>(F81 ((x0.1.2.1,()),(x0.2.1,()))).bind fun y1=>bif iLt y1.1.1 (0:Int) then some (((-1:Int),()),()) else (F24 ((x0.1.2.2.1,()),(y1.1,()))).bind fun y2=>bif iLt y2.1.1 (0:Int) then some (((-1:Int),()),()) else some (y2.1,())
noncomputable def c21:Con:=⟨i21,o21,F21⟩
def i84:List Grp:= [⟨.agg,e137,[]⟩,⟨.c,(.cons (.int .i64) .nil),[]⟩]
def o84:List Grp:= [⟨.c,(.cons (.int .i64) .nil),[]⟩]
noncomputable def F84:(D137×((Int×Unit)×Unit))→Option (((Int×Unit)×Unit)):=fun x0=>bif iLt (iSub .i64 x0.2.1.1 (ByteArray.size x0.1.2.1:Int)) (0:Int) then some (((-1:Int),()),()) else bif iLt (iSub .i64 (iSub .i64 x0.2.1.1 (ByteArray.size x0.1.2.1:Int)) (ByteArray.size x0.1.2.2.1:Int)) (0:Int) then some (((-1:Int),()),()) else some ((iSub .i64 (iSub .i64 x0.2.1.1 (ByteArray.size x0.1.2.1:Int)) (ByteArray.size x0.1.2.2.1:Int),()),())
noncomputable def c84:Con:=⟨i84,o84,F84⟩
def i25:List Grp:= [⟨.c,(.cons (.sl e137) .nil),[]⟩,⟨.c,(.cons (.int .i64) .nil),[]⟩]
def o25:List Grp:= [⟨.c,(.cons (.int .i64) .nil),[]⟩]
noncomputable def F25.b0 (x0:((List D137×Unit)×((Int×Unit)×Unit))):(v1:(Int×(Int×Unit)))→Option (Sum (Int×(Int×Unit)) (Sum (Int×(Int×Unit)) (((Int×Unit)×Unit)))):=fun v1=>bif iLt v1.2.1 (List.length x0.1.1:Int) then (getI x0.1.1 v1.2.1).bind fun x2=>(F84 (x2,((v1.1,()),()))).bind fun y3=>bif iLt y3.1.1 (0:Int) then some (.inr (.inr (((-1:Int),()),()))) else some (.inl (y3.1.1,(iAdd .i64 v1.2.1 (1:Int),()))) else some (.inr (.inl (v1.1,(v1.2.1,()))))
noncomputable def F25:((List D137×Unit)×((Int×Unit)×Unit))→Option (((Int×Unit)×Unit)):=fun x0=>bif iLt (iSub .i64 x0.2.1.1 (List.length x0.1.1:Int)) (0:Int) then some (((-1:Int),()),()) else (loopF (F25.b0 x0) (iSub .i64 x0.2.1.1 (List.length x0.1.1:Int),((0:Int),()))).bind fun r5=>Sum.elim (fun v4=>some ((v4.1,()),())) some r5
noncomputable def c25:Con:=⟨i25,o25,F25⟩
def i80:List Grp:= [⟨.agg,e130,[]⟩,⟨.c,(.cons (.int .i64) .nil),[]⟩]
def o80:List Grp:= [⟨.c,(.cons (.int .i64) .nil),[]⟩]
noncomputable def F80:(D130×((Int×Unit)×Unit))→Option (((Int×Unit)×Unit)):=fun x0=>bif iLt (iSub .i64 x0.2.1.1 (ByteArray.size x0.1.2.2.2.1:Int)) (0:Int) then some (((-1:Int),()),()) else (F20 ((x0.1.2.2.2.2.1,(x0.1.2.2.2.2.2.1,(x0.1.2.2.2.2.2.2.1,()))),((iSub .i64 x0.2.1.1 (ByteArray.size x0.1.2.2.2.1:Int),()),()))).bind fun y1=>bif iLt y1.1.1 (0:Int) then some (((-1:Int),()),()) else (F21 ((x0.1.2.2.2.2.2.2.2.1,(x0.1.2.2.2.2.2.2.2.2.1,(x0.1.2.2.2.2.2.2.2.2.2.1,()))),(y1.1,()))).bind fun y2=>bif iLt y2.1.1 (0:Int) then some (((-1:Int),()),()) else (F25 ((x0.1.2.2.2.2.2.2.2.2.2.2.1,()),(y2.1,()))).bind fun y3=>bif iLt y3.1.1 (0:Int) then some (((-1:Int),()),()) else (F18 ((x0.1.2.2.2.2.2.2.2.2.2.2.2.2.1,()),(y3.1,()))).bind fun y4=>bif iLt y4.1.1 (0:Int) then some (((-1:Int),()),()) else bif iLt (iSub .i64 y4.1.1 (ByteArray.size x0.1.2.2.2.2.2.2.2.2.2.2.2.2.2.1:Int)) (0:Int) then some (((-1:Int),()),()) else some ((iSub .i64 y4.1.1 (ByteArray.size x0.1.2.2.2.2.2.2.2.2.2.2.2.2.2.1:Int),()),())
noncomputable def c80:Con:=⟨i80,o80,F80⟩
def i19:List Grp:= [⟨.c,(.cons (.sl e130) .nil),[]⟩,⟨.c,(.cons (.int .i64) .nil),[]⟩]
def o19:List Grp:= [⟨.c,(.cons (.int .i64) .nil),[]⟩]
noncomputable def F19.b0 (x0:((List D130×Unit)×((Int×Unit)×Unit))):(v1:(Int×(Int×Unit)))→Option (Sum (Int×(Int×Unit)) (Sum (Int×(Int×Unit)) (((Int×Unit)×Unit)))):=fun v1=>bif iLt v1.2.1 (List.length x0.1.1:Int) then (getI x0.1.1 v1.2.1).bind fun x2=>(F80 (x2,((v1.1,()),()))).bind fun y3=>bif iLt y3.1.1 (0:Int) then some (.inr (.inr (((-1:Int),()),()))) else some (.inl (y3.1.1,(iAdd .i64 v1.2.1 (1:Int),()))) else some (.inr (.inl (v1.1,(v1.2.1,()))))
noncomputable def F19:((List D130×Unit)×((Int×Unit)×Unit))→Option (((Int×Unit)×Unit)):=fun x0=>bif iLt (iSub .i64 x0.2.1.1 (List.length x0.1.1:Int)) (0:Int) then some (((-1:Int),()),()) else (loopF (F19.b0 x0) (iSub .i64 x0.2.1.1 (List.length x0.1.1:Int),((0:Int),()))).bind fun r5=>Sum.elim (fun v4=>some ((v4.1,()),())) some r5
noncomputable def c19:Con:=⟨i19,o19,F19⟩
def i82:List Grp:= [⟨.agg,e132,[]⟩,⟨.c,(.cons (.int .i64) .nil),[]⟩]
def o82:List Grp:= [⟨.c,(.cons (.int .i64) .nil),[]⟩]
noncomputable def F82:(D132×((Int×Unit)×Unit))→Option (((Int×Unit)×Unit)):=fun x0=>bif iLt (iSub .i64 x0.2.1.1 (ByteArray.size x0.1.2.2.1:Int)) (0:Int) then some (((-1:Int),()),()) else some ((iSub .i64 x0.2.1.1 (ByteArray.size x0.1.2.2.1:Int),()),())
noncomputable def c82:Con:=⟨i82,o82,F82⟩
def i22:List Grp:= [⟨.c,(.cons (.sl e132) .nil),[]⟩,⟨.c,(.cons (.int .i64) .nil),[]⟩]
def o22:List Grp:= [⟨.c,(.cons (.int .i64) .nil),[]⟩]
noncomputable def F22.b0 (x0:((List D132×Unit)×((Int×Unit)×Unit))):(v1:(Int×(Int×Unit)))→Option (Sum (Int×(Int×Unit)) (Sum (Int×(Int×Unit)) (((Int×Unit)×Unit)))):=fun v1=>bif iLt v1.2.1 (List.length x0.1.1:Int) then (getI x0.1.1 v1.2.1).bind fun x2=>(F82 (x2,((v1.1,()),()))).bind fun y3=>bif iLt y3.1.1 (0:Int) then some (.inr (.inr (((-1:Int),()),()))) else some (.inl (y3.1.1,(iAdd .i64 v1.2.1 (1:Int),()))) else some (.inr (.inl (v1.1,(v1.2.1,()))))
noncomputable def F22:((List D132×Unit)×((Int×Unit)×Unit))→Option (((Int×Unit)×Unit)):=fun x0=>bif iLt (iSub .i64 x0.2.1.1 (List.length x0.1.1:Int)) (0:Int) then some (((-1:Int),()),()) else (loopF (F22.b0 x0) (iSub .i64 x0.2.1.1 (List.length x0.1.1:Int),((0:Int),()))).bind fun r5=>Sum.elim (fun v4=>some ((v4.1,()),())) some r5
noncomputable def c22:Con:=⟨i22,o22,F22⟩
def i83:List Grp:= [⟨.agg,e132,[]⟩,⟨.c,(.cons (.int .i64) .nil),[]⟩]
def o83:List Grp:= [⟨.c,(.cons (.int .i64) .nil),[]⟩]
noncomputable def F83:(D132×((Int×Unit)×Unit))→Option (((Int×Unit)×Unit)):=fun x0=>bif iLt (iSub .i64 x0.2.1.1 (ByteArray.size x0.1.2.2.1:Int)) (0:Int) then some (((-1:Int),()),()) else some ((iSub .i64 x0.2.1.1 (ByteArray.size x0.1.2.2.1:Int),()),())
noncomputable def c83:Con:=⟨i83,o83,F83⟩
def i23:List Grp:= [⟨.c,(.cons (.sl e134) .nil),[]⟩,⟨.c,(.cons (.int .i64) .nil),[]⟩]
def o23:List Grp:= [⟨.c,(.cons (.int .i64) .nil),[]⟩]
noncomputable def F23.b0 (x0:((List D134×Unit)×((Int×Unit)×Unit))):(v1:(Int×(Int×Unit)))→Option (Sum (Int×(Int×Unit)) (Sum (Int×(Int×Unit)) (((Int×Unit)×Unit)))):=fun v1=>bif iLt v1.2.1 (List.length x0.1.1:Int) then (getI x0.1.1 v1.2.1).bind fun x2=>(F83 (x2,((v1.1,()),()))).bind fun y3=>bif iLt y3.1.1 (0:Int) then some (.inr (.inr (((-1:Int),()),()))) else some (.inl (y3.1.1,(iAdd .i64 v1.2.1 (1:Int),()))) else some (.inr (.inl (v1.1,(v1.2.1,()))))
noncomputable def F23:((List D134×Unit)×((Int×Unit)×Unit))→Option (((Int×Unit)×Unit)):=fun x0=>bif iLt (iSub .i64 x0.2.1.1 (List.length x0.1.1:Int)) (0:Int) then some (((-1:Int),()),()) else (loopF (F23.b0 x0) (iSub .i64 x0.2.1.1 (List.length x0.1.1:Int),((0:Int),()))).bind fun r5=>Sum.elim (fun v4=>some ((v4.1,()),())) some r5
noncomputable def c23:Con:=⟨i23,o23,F23⟩
def i85:List Grp:= [⟨.agg,e140,[]⟩,⟨.c,(.cons (.int .i64) .nil),[]⟩]
def o85:List Grp:= [⟨.c,(.cons (.int .i64) .nil),[]⟩]
noncomputable def F85:(D140×((Int×Unit)×Unit))→Option (((Int×Unit)×Unit)):=fun x0=>(F19 ((x0.1.2.1,()),(x0.2.1,()))).bind fun y1=>bif iLt y1.1.1 (0:Int) then some (((-1:Int),()),()) else (F20 ((x0.1.2.2.1,(x0.1.2.2.2.1,(x0.1.2.2.2.2.1,()))),(y1.1,()))).bind fun y2=>bif iLt y2.1.1 (0:Int) then some (((-1:Int),()),()) else some (y2.1,())
noncomputable def c85:Con:=⟨i85,o85,F85⟩
def i26:List Grp:= [⟨.c,(.cons (.sl e140) .nil),[]⟩,⟨.c,(.cons (.int .i64) .nil),[]⟩]
def o26:List Grp:= [⟨.c,(.cons (.int .i64) .nil),[]⟩]
noncomputable def F26.b0 (x0:((List D140×Unit)×((Int×Unit)×Unit))):(v1:(Int×(Int×Unit)))→Option (Sum (Int×(Int×Unit)) (Sum (Int×(Int×Unit)) (((Int×Unit)×Unit)))):=fun v1=>bif iLt v1.2.1 (List.length x0.1.1:Int) then (getI x0.1.1 v1.2.1).bind fun x2=>(F85 (x2,((v1.1,()),()))).bind fun y3=>bif iLt y3.1.1 (0:Int) then some (.inr (.inr (((-1:Int),()),()))) else some (.inl (y3.1.1,(iAdd .i64 v1.2.1 (1:Int),()))) else some (.inr (.inl (v1.1,(v1.2.1,()))))
noncomputable def F26:((List D140×Unit)×((Int×Unit)×Unit))→Option (((Int×Unit)×Unit)):=fun x0=>bif iLt (iSub .i64 x0.2.1.1 (List.length x0.1.1:Int)) (0:Int) then some (((-1:Int),()),()) else (loopF (F26.b0 x0) (iSub .i64 x0.2.1.1 (List.length x0.1.1:Int),((0:Int),()))).bind fun r5=>Sum.elim (fun v4=>some ((v4.1,()),())) some r5
noncomputable def c26:Con:=⟨i26,o26,F26⟩
def i4:List Grp:= [⟨.agg,e38,[]⟩,⟨.c,(.cons (.int .i64) .nil),[]⟩]
def o4:List Grp:= [⟨.c,(.cons (.int .i64) .nil),[]⟩]
noncomputable def F4:(D38×((Int×Unit)×Unit))→Option (((Int×Unit)×Unit)):=fun x0=>bif iLt (iSub .i64 x0.2.1.1 (ByteArray.size x0.1.1:Int)) (0:Int) then some (((-1:Int),()),()) else (F17 ((x0.1.2.2.1,(x0.1.2.2.2.1,())),((iSub .i64 x0.2.1.1 (ByteArray.size x0.1.1:Int),()),()))).bind fun y1=>bif iLt y1.1.1 (0:Int) then some (((-1:Int),()),()) else (F18 ((x0.1.2.2.2.2.1,()),(y1.1,()))).bind fun y2=>bif iLt y2.1.1 (0:Int) then some (((-1:Int),()),()) else (F19 ((x0.1.2.2.2.2.2.1,()),(y2.1,()))).bind fun y3=>bif iLt y3.1.1 (0:Int) then some (((-1:Int),()),()) else (F20 ((x0.1.2.2.2.2.2.2.2.2.1,(x0.1.2.2.2.2.2.2.2.2.2.1,(x0.1.2.2.2.2.2.2.2.2.2.2.1,()))),(y3.1,()))).bind fun y4=>bif iLt y4.1.1 (0:Int) then some (((-1:Int),()),()) else (F21 ((x0.1.2.2.2.2.2.2.2.2.2.2.2.1,(x0.1.2.2.2.2.2.2.2.2.2.2.2.2.1,(x0.1.2.2.2.2.2.2.2.2.2.2.2.2.2.1,()))),(y4.1,()))).bind fun y5=>bif iLt y5.1.1 (0:Int) then some (((-1:Int),()),()) else (F22 ((x0.1.2.2.2.2.2.2.2.2.2.2.2.2.2.2.2.1,()),(y5.1,()))).bind fun y6=>bif iLt y6.1.1 (0:Int) then some (((-1:Int),()),()) else (F23 ((x0.1.2.2.2.2.2.2.2.2.2.2.2.2.2.2.2.2.1,()),(y6.1,()))).bind fun y7=>bif iLt y7.1.1 (0:Int) then some (((-1:Int),()),()) else (F24 ((x0.1.2.2.2.2.2.2.2.2.2.2.2.2.2.2.2.2.2.1,()),(y7.1,()))).bind fun y8=>bif iLt y8.1.1 (0:Int) then some (((-1:Int),()),()) else (F25 ((x0.1.2.2.2.2.2.2.2.2.2.2.2.2.2.2.2.2.2.2.1,()),(y8.1,()))).bind fun y9=>bif iLt y9.1.1 (0:Int) then some (((-1:Int),()),()) else (F26 ((x0.1.2.2.2.2.2.2.2.2.2.2.2.2.2.2.2.2.2.2.2.1,()),(y9.1,()))).bind fun y10=>bif iLt y10.1.1 (0:Int) then some (((-1:Int),()),()) else some (y10.1,())
noncomputable def c4:Con:=⟨i4,o4,F4⟩
def i216:List Grp:= [⟨.agg,e243,[]⟩]
def o216:List Grp:= [⟨.agg,e243,[]⟩]
noncomputable def F216:(D243×Unit)→Option ((D243×Unit)):=fun x0=>some (x0.1,())
noncomputable def c216:Con:=⟨i216,o216,F216⟩
def i194:List Grp:= [⟨.c,(.cons (.sl e243) .nil),[]⟩]
def o194:List Grp:= [⟨.c,(.cons (.sl e229) .nil),[(.own [])]⟩]
noncomputable def F194.b0 (x0:((List D243×Unit)×Unit)):(v1:(Int×(List (D229)×Unit)))→Option (Sum (Int×(List (D229)×Unit)) (Sum (Int×(List (D229)×Unit)) (((List D229×Unit)×Unit)))):=fun v1=>bif iLt v1.1 (List.length x0.1.1:Int) then (getI x0.1.1 v1.1).bind fun x2=>(F216 (x2,())).bind fun y3=>(getI v1.2.1 v1.1).bind fun _=>(getN v1.2.1 (Int.toNat v1.1)).bind fun x4=>(some (List.set v1.2.1 (Int.toNat v1.1) (y3.1.1,(y3.1.2.1,())))).bind fun z5=>some (.inl (iAdd .i64 v1.1 (1:Int),(z5,()))) else some (.inr (.inl (v1.1,(v1.2.1,()))))
noncomputable def F194:((List D243×Unit)×Unit)→Option (((List D229×Unit)×Unit)):=fun x0=>bif mkOk (List.length x0.1.1:Int) (List.length x0.1.1:Int) 16 then (loopF (F194.b0 x0) ((0:Int),(List.replicate (Int.toNat (List.length x0.1.1:Int)) ((0:Int),((0:Int),())),()))).bind fun r7=>Sum.elim (fun v6=>some ((v6.2.1,()),())) some r7 else none
noncomputable def c194:Con:=⟨i194,o194,F194⟩
def i159:List Grp:= [⟨.agg,e191,[]⟩]
def o159:List Grp:= [⟨.agg,e207,m0⟩]
noncomputable def F159:(D191×Unit)→Option ((D207×Unit)):=fun x0=>(F194 ((x0.1.2.2.2.2.1,()),())).bind fun y1=>some ((x0.1.1,(x0.1.2.1,(x0.1.2.2.1,(x0.1.2.2.2.1,(y1.1.1,()))))),())
noncomputable def c159:Con:=⟨i159,o159,F159⟩
def i103:List Grp:= [⟨.c,(.cons (.sl e191) .nil),[]⟩]
def o103:List Grp:= [⟨.c,(.cons (.sl e207) .nil),[(.own m0)]⟩]
noncomputable def F103.b0 (x0:((List D191×Unit)×Unit)):(v1:(Int×(List (D207)×Unit)))→Option (Sum (Int×(List (D207)×Unit)) (Sum (Int×(List (D207)×Unit)) (((List D207×Unit)×Unit)))):=fun v1=>bif iLt v1.1 (List.length x0.1.1:Int) then (getI x0.1.1 v1.1).bind fun x2=>(F159 (x2,())).bind fun y3=>(getI v1.2.1 v1.1).bind fun _=>(getN v1.2.1 (Int.toNat v1.1)).bind fun x4=>(some (List.set v1.2.1 (Int.toNat v1.1) (y3.1.1,(y3.1.2.1,(y3.1.2.2.1,(y3.1.2.2.2.1,(y3.1.2.2.2.2.1,()))))))).bind fun z5=>some (.inl (iAdd .i64 v1.1 (1:Int),(z5,()))) else some (.inr (.inl (v1.1,(v1.2.1,()))))
noncomputable def F103:((List D191×Unit)×Unit)→Option (((List D207×Unit)×Unit)):=fun x0=>bif mkOk (List.length x0.1.1:Int) (List.length x0.1.1:Int) 64 then (loopF (F103.b0 x0) ((0:Int),(List.replicate (Int.toNat (List.length x0.1.1:Int)) (⟨#[]⟩,((0:Int),((0:Int),((0:Int),([],()))))),()))).bind fun r7=>Sum.elim (fun v6=>some ((v6.2.1,()),())) some r7 else none
noncomputable def c103:Con:=⟨i103,o103,F103⟩
def i30:List Grp:= [⟨.agg,e24,[]⟩]
def o30:List Grp:= [⟨.agg,e42,[.sh,(.own m0)]⟩]
noncomputable def F30:(D24×Unit)→Option ((D42×Unit)):=fun x0=>(F103 ((x0.1.2.1,()),())).bind fun y1=>some ((x0.1.1,(y1.1.1,())),())
noncomputable def c30:Con:=⟨i30,o30,F30⟩
def i104:List Grp:= [⟨.agg,e127,[]⟩]
def o104:List Grp:= [⟨.agg,e127,[]⟩]
noncomputable def F104:(D127×Unit)→Option ((D127×Unit)):=fun x0=>some (x0.1,())
noncomputable def c104:Con:=⟨i104,o104,F104⟩
def i31:List Grp:= [⟨.c,(.cons (.sl e127) .nil),[]⟩]
def o31:List Grp:= [⟨.c,(.cons (.sl e163) .nil),[(.own [])]⟩]
noncomputable def F31.b0 (x0:((List D127×Unit)×Unit)):(v1:(Int×(List (D163)×Unit)))→Option (Sum (Int×(List (D163)×Unit)) (Sum (Int×(List (D163)×Unit)) (((List D163×Unit)×Unit)))):=fun v1=>bif iLt v1.1 (List.length x0.1.1:Int) then (getI x0.1.1 v1.1).bind fun x2=>(F104 (x2,())).bind fun y3=>(getI v1.2.1 v1.1).bind fun _=>(getN v1.2.1 (Int.toNat v1.1)).bind fun x4=>(some (List.set v1.2.1 (Int.toNat v1.1) (y3.1.1,(y3.1.2.1,())))).bind fun z5=>some (.inl (iAdd .i64 v1.1 (1:Int),(z5,()))) else some (.inr (.inl (v1.1,(v1.2.1,()))))
noncomputable def F31:((List D127×Unit)×Unit)→Option (((List D163×Unit)×Unit)):=fun x0=>bif mkOk (List.length x0.1.1:Int) (List.length x0.1.1:Int) 24 then (loopF (F31.b0 x0) ((0:Int),(List.replicate (Int.toNat (List.length x0.1.1:Int)) (⟨#[]⟩,((0:Int),())),()))).bind fun r7=>Sum.elim (fun v6=>some ((v6.2.1,()),())) some r7 else none
noncomputable def c31:Con:=⟨i31,o31,F31⟩
def i106:List Grp:= [⟨.c,(.cons (.sl e9) .nil),[]⟩]
def o106:List Grp:= [⟨.c,(.cons (.sl e9) .nil),[(.own [])]⟩]
noncomputable def F106.b0 (x0:((List D9×Unit)×Unit)):(v1:(Int×(List (D9)×Unit)))→Option (Sum (Int×(List (D9)×Unit)) (Sum (Int×(List (D9)×Unit)) (((List D9×Unit)×Unit)))):=fun v1=>bif iLt v1.1 (List.length x0.1.1:Int) then (getI x0.1.1 v1.1).bind fun x2=>(getI v1.2.1 v1.1).bind fun _=>(getN v1.2.1 (Int.toNat v1.1)).bind fun x3=>(some (List.set v1.2.1 (Int.toNat v1.1) (x2.1,()))).bind fun z4=>some (.inl (iAdd .i64 v1.1 (1:Int),(z4,()))) else some (.inr (.inl (v1.1,(v1.2.1,()))))
noncomputable def F106:((List D9×Unit)×Unit)→Option (((List D9×Unit)×Unit)):=fun x0=>bif mkOk (List.length x0.1.1:Int) (List.length x0.1.1:Int) 16 then (loopF (F106.b0 x0) ((0:Int),(List.replicate (Int.toNat (List.length x0.1.1:Int)) (⟨#[]⟩,()),()))).bind fun r6=>Sum.elim (fun v5=>some ((v5.2.1,()),())) some r6 else none
noncomputable def c106:Con:=⟨i106,o106,F106⟩
def i33:List Grp:= [⟨.agg,e29,[]⟩]
def o33:List Grp:= [⟨.agg,e29,[.sh,.sh,(.own [])]⟩]
noncomputable def F33:(D29×Unit)→Option ((D29×Unit)):=fun x0=>(F106 ((x0.1.2.2.1,()),())).bind fun y1=>some ((x0.1.1,(x0.1.2.1,(y1.1.1,()))),())
noncomputable def c33:Con:=⟨i33,o33,F33⟩
def i37:List Grp:= [⟨.c,(.cons (.sl e3) .nil),[]⟩]
def o37:List Grp:= [⟨.c,(.cons (.sl e3) .nil),[(.own [])]⟩]
noncomputable def F37.b0 (x0:((List D3×Unit)×Unit)):(v1:(Int×(List (D3)×Unit)))→Option (Sum (Int×(List (D3)×Unit)) (Sum (Int×(List (D3)×Unit)) (((List D3×Unit)×Unit)))):=fun v1=>bif iLt v1.1 (List.length x0.1.1:Int) then (getI x0.1.1 v1.1).bind fun x2=>(getI v1.2.1 v1.1).bind fun _=>(getN v1.2.1 (Int.toNat v1.1)).bind fun x3=>(some (List.set v1.2.1 (Int.toNat v1.1) (x2.1,()))).bind fun z4=>some (.inl (iAdd .i64 v1.1 (1:Int),(z4,()))) else some (.inr (.inl (v1.1,(v1.2.1,()))))
noncomputable def F37:((List D3×Unit)×Unit)→Option (((List D3×Unit)×Unit)):=fun x0=>bif mkOk (List.length x0.1.1:Int) (List.length x0.1.1:Int) 8 then (loopF (F37.b0 x0) ((0:Int),(List.replicate (Int.toNat (List.length x0.1.1:Int)) ((0:Int),()),()))).bind fun r6=>Sum.elim (fun v5=>some ((v5.2.1,()),())) some r6 else none
noncomputable def c37:Con:=⟨i37,o37,F37⟩
def i34:List Grp:= [⟨.agg,e32,[]⟩]
def o34:List Grp:= [⟨.agg,e32,m1⟩]
noncomputable def F34:(D32×Unit)→Option ((D32×Unit)):=fun x0=>(F106 ((x0.1.2.1,()),())).bind fun y1=>(F37 ((x0.1.2.2.1,()),())).bind fun y2=>some ((x0.1.1,(y1.1.1,(y2.1.1,()))),())
noncomputable def c34:Con:=⟨i34,o34,F34⟩
def i109:List Grp:= [⟨.agg,e137,[]⟩]
def o109:List Grp:= [⟨.agg,e137,[]⟩]
noncomputable def F109:(D137×Unit)→Option ((D137×Unit)):=fun x0=>some (x0.1,())
noncomputable def c109:Con:=⟨i109,o109,F109⟩
def i38:List Grp:= [⟨.c,(.cons (.sl e137) .nil),[]⟩]
def o38:List Grp:= [⟨.c,(.cons (.sl e169) .nil),[(.own [])]⟩]
noncomputable def F38.b0 (x0:((List D137×Unit)×Unit)):(v1:(Int×(List (D169)×Unit)))→Option (Sum (Int×(List (D169)×Unit)) (Sum (Int×(List (D169)×Unit)) (((List D169×Unit)×Unit)))):=fun v1=>bif iLt v1.1 (List.length x0.1.1:Int) then (getI x0.1.1 v1.1).bind fun x2=>(F109 (x2,())).bind fun y3=>(getI v1.2.1 v1.1).bind fun _=>(getN v1.2.1 (Int.toNat v1.1)).bind fun x4=>(some (List.set v1.2.1 (Int.toNat v1.1) (y3.1.1,(y3.1.2.1,(y3.1.2.2.1,(y3.1.2.2.2.1,(y3.1.2.2.2.2.1,()))))))).bind fun z5=>some (.inl (iAdd .i64 v1.1 (1:Int),(z5,()))) else some (.inr (.inl (v1.1,(v1.2.1,()))))
noncomputable def F38:((List D137×Unit)×Unit)→Option (((List D169×Unit)×Unit)):=fun x0=>bif mkOk (List.length x0.1.1:Int) (List.length x0.1.1:Int) 56 then (loopF (F38.b0 x0) ((0:Int),(List.replicate (Int.toNat (List.length x0.1.1:Int)) ((0:Int),(⟨#[]⟩,(⟨#[]⟩,((0:Int),((0:Int),()))))),()))).bind fun r7=>Sum.elim (fun v6=>some ((v6.2.1,()),())) some r7 else none
noncomputable def c38:Con:=⟨i38,o38,F38⟩
def i105:List Grp:= [⟨.agg,e130,[]⟩]
def o105:List Grp:= [⟨.agg,e154,m2⟩]
noncomputable def F105:(D130×Unit)→Option ((D154×Unit)):=fun x0=>(F33 ((x0.1.2.2.2.2.1,(x0.1.2.2.2.2.2.1,(x0.1.2.2.2.2.2.2.1,()))),())).bind fun y1=>(F34 ((x0.1.2.2.2.2.2.2.2.1,(x0.1.2.2.2.2.2.2.2.2.1,(x0.1.2.2.2.2.2.2.2.2.2.1,()))),())).bind fun y2=>(F38 ((x0.1.2.2.2.2.2.2.2.2.2.2.1,()),())).bind fun y3=>(F31 ((x0.1.2.2.2.2.2.2.2.2.2.2.2.2.1,()),())).bind fun y4=>some ((x0.1.1,(x0.1.2.1,(x0.1.2.2.1,(x0.1.2.2.2.1,(y1.1.1,(y1.1.2.1,(y1.1.2.2.1,(y2.1.1,(y2.1.2.1,(y2.1.2.2.1,(y3.1.1,(x0.1.2.2.2.2.2.2.2.2.2.2.2.1,(y4.1.1,(x0.1.2.2.2.2.2.2.2.2.2.2.2.2.2.1,())))))))))))))),())
noncomputable def c105:Con:=⟨i105,o105,F105⟩
def i32:List Grp:= [⟨.c,(.cons (.sl e130) .nil),[]⟩]
def o32:List Grp:= [⟨.c,(.cons (.sl e154) .nil),[(.own m2)]⟩]
noncomputable def F32.b0 (x0:((List D130×Unit)×Unit)):(v1:(Int×(List (D154)×Unit)))→Option (Sum (Int×(List (D154)×Unit)) (Sum (Int×(List (D154)×Unit)) (((List D154×Unit)×Unit)))):=fun v1=>bif iLt v1.1 (List.length x0.1.1:Int) then (getI x0.1.1 v1.1).bind fun x2=>(F105 (x2,())).bind fun y3=>(getI v1.2.1 v1.1).bind fun _=>(getN v1.2.1 (Int.toNat v1.1)).bind fun x4=>(some (List.set v1.2.1 (Int.toNat v1.1) (y3.1.1,(y3.1.2.1,(y3.1.2.2.1,(y3.1.2.2.2.1,(y3.1.2.2.2.2.1,(y3.1.2.2.2.2.2.1,(y3.1.2.2.2.2.2.2.1,(y3.1.2.2.2.2.2.2.2.1,(y3.1.2.2.2.2.2.2.2.2.1,(y3.1.2.2.2.2.2.2.2.2.2.1,(y3.1.2.2.2.2.2.2.2.2.2.2.1,(y3.1.2.2.2.2.2.2.2.2.2.2.2.1,(y3.1.2.2.2.2.2.2.2.2.2.2.2.2.1,(y3.1.2.2.2.2.2.2.2.2.2.2.2.2.2.1,())))))))))))))))).bind fun z5=>some (.inl (iAdd .i64 v1.1 (1:Int),(z5,()))) else some (.inr (.inl (v1.1,(v1.2.1,()))))
noncomputable def F32:((List D130×Unit)×Unit)→Option (((List D154×Unit)×Unit)):=fun x0=>bif mkOk (List.length x0.1.1:Int) (List.length x0.1.1:Int) 208 then (loopF (F32.b0 x0) ((0:Int),(List.replicate (Int.toNat (List.length x0.1.1:Int)) ((0:Int),((0:Int),((0:Int),(⟨#[]⟩,((0:Int),((0:Int),([],((0:Int),([],([],([],(false,([],(⟨#[]⟩,())))))))))))))),()))).bind fun r7=>Sum.elim (fun v6=>some ((v6.2.1,()),())) some r7 else none
noncomputable def c32:Con:=⟨i32,o32,F32⟩
def i107:List Grp:= [⟨.agg,e132,[]⟩]
def o107:List Grp:= [⟨.agg,e132,[]⟩]
noncomputable def F107:(D132×Unit)→Option ((D132×Unit)):=fun x0=>some (x0.1,())
noncomputable def c107:Con:=⟨i107,o107,F107⟩
def i35:List Grp:= [⟨.c,(.cons (.sl e132) .nil),[]⟩]
def o35:List Grp:= [⟨.c,(.cons (.sl e105) .nil),[(.own [])]⟩]
noncomputable def F35.b0 (x0:((List D132×Unit)×Unit)):(v1:(Int×(List (D105)×Unit)))→Option (Sum (Int×(List (D105)×Unit)) (Sum (Int×(List (D105)×Unit)) (((List D105×Unit)×Unit)))):=fun v1=>bif iLt v1.1 (List.length x0.1.1:Int) then (getI x0.1.1 v1.1).bind fun x2=>(F107 (x2,())).bind fun y3=>(getI v1.2.1 v1.1).bind fun _=>(getN v1.2.1 (Int.toNat v1.1)).bind fun x4=>(some (List.set v1.2.1 (Int.toNat v1.1) (y3.1.1,(y3.1.2.1,(y3.1.2.2.1,()))))).bind fun z5=>some (.inl (iAdd .i64 v1.1 (1:Int),(z5,()))) else some (.inr (.inl (v1.1,(v1.2.1,()))))
noncomputable def F35:((List D132×Unit)×Unit)→Option (((List D105×Unit)×Unit)):=fun x0=>bif mkOk (List.length x0.1.1:Int) (List.length x0.1.1:Int) 32 then (loopF (F35.b0 x0) ((0:Int),(List.replicate (Int.toNat (List.length x0.1.1:Int)) ((0:Int),((0:Int),(⟨#[]⟩,()))),()))).bind fun r7=>Sum.elim (fun v6=>some ((v6.2.1,()),())) some r7 else none
noncomputable def c35:Con:=⟨i35,o35,F35⟩
def i108:List Grp:= [⟨.agg,e132,[]⟩]
def o108:List Grp:= [⟨.agg,e132,[]⟩]
noncomputable def F108:(D132×Unit)→Option ((D132×Unit)):=fun x0=>some (x0.1,())
noncomputable def c108:Con:=⟨i108,o108,F108⟩
def i36:List Grp:= [⟨.c,(.cons (.sl e134) .nil),[]⟩]
def o36:List Grp:= [⟨.c,(.cons (.sl e107) .nil),[(.own [])]⟩]
noncomputable def F36.b0 (x0:((List D134×Unit)×Unit)):(v1:(Int×(List (D107)×Unit)))→Option (Sum (Int×(List (D107)×Unit)) (Sum (Int×(List (D107)×Unit)) (((List D107×Unit)×Unit)))):=fun v1=>bif iLt v1.1 (List.length x0.1.1:Int) then (getI x0.1.1 v1.1).bind fun x2=>(F108 (x2,())).bind fun y3=>(getI v1.2.1 v1.1).bind fun _=>(getN v1.2.1 (Int.toNat v1.1)).bind fun x4=>(some (List.set v1.2.1 (Int.toNat v1.1) (y3.1.1,(y3.1.2.1,(y3.1.2.2.1,()))))).bind fun z5=>some (.inl (iAdd .i64 v1.1 (1:Int),(z5,()))) else some (.inr (.inl (v1.1,(v1.2.1,()))))
noncomputable def F36:((List D134×Unit)×Unit)→Option (((List D107×Unit)×Unit)):=fun x0=>bif mkOk (List.length x0.1.1:Int) (List.length x0.1.1:Int) 32 then (loopF (F36.b0 x0) ((0:Int),(List.replicate (Int.toNat (List.length x0.1.1:Int)) ((0:Int),((0:Int),(⟨#[]⟩,()))),()))).bind fun r7=>Sum.elim (fun v6=>some ((v6.2.1,()),())) some r7 else none
noncomputable def c36:Con:=⟨i36,o36,F36⟩
def i110:List Grp:= [⟨.agg,e140,[]⟩]
def o110:List Grp:= [⟨.agg,e146,m3⟩]
noncomputable def F110:(D140×Unit)→Option ((D146×Unit)):=fun x0=>(F32 ((x0.1.2.1,()),())).bind fun y1=>(F33 ((x0.1.2.2.1,(x0.1.2.2.2.1,(x0.1.2.2.2.2.1,()))),())).bind fun y2=>some ((x0.1.1,(y1.1.1,(y2.1.1,(y2.1.2.1,(y2.1.2.2.1,()))))),())
noncomputable def c110:Con:=⟨i110,o110,F110⟩
def i39:List Grp:= [⟨.c,(.cons (.sl e140) .nil),[]⟩]
def o39:List Grp:= [⟨.c,(.cons (.sl e146) .nil),[(.own m3)]⟩]
noncomputable def F39.b0 (x0:((List D140×Unit)×Unit)):(v1:(Int×(List (D146)×Unit)))→Option (Sum (Int×(List (D146)×Unit)) (Sum (Int×(List (D146)×Unit)) (((List D146×Unit)×Unit)))):=fun v1=>bif iLt v1.1 (List.length x0.1.1:Int) then (getI x0.1.1 v1.1).bind fun x2=>(F110 (x2,())).bind fun y3=>(getI v1.2.1 v1.1).bind fun _=>(getN v1.2.1 (Int.toNat v1.1)).bind fun x4=>(some (List.set v1.2.1 (Int.toNat v1.1) (y3.1.1,(y3.1.2.1,(y3.1.2.2.1,(y3.1.2.2.2.1,(y3.1.2.2.2.2.1,()))))))).bind fun z5=>some (.inl (iAdd .i64 v1.1 (1:Int),(z5,()))) else some (.inr (.inl (v1.1,(v1.2.1,()))))
noncomputable def F39:((List D140×Unit)×Unit)→Option (((List D146×Unit)×Unit)):=fun x0=>bif mkOk (List.length x0.1.1:Int) (List.length x0.1.1:Int) 72 then (loopF (F39.b0 x0) ((0:Int),(List.replicate (Int.toNat (List.length x0.1.1:Int)) ((0:Int),([],((0:Int),((0:Int),([],()))))),()))).bind fun r7=>Sum.elim (fun v6=>some ((v6.2.1,()),())) some r7 else none
noncomputable def c39:Con:=⟨i39,o39,F39⟩
def i6:List Grp:= [⟨.agg,e38,[]⟩]
def o6:List Grp:= [⟨.agg,e52,m4⟩]
noncomputable def F6:(D38×Unit)→Option ((D52×Unit)):=fun x0=>(F30 ((x0.1.2.2.1,(x0.1.2.2.2.1,())),())).bind fun y1=>(F31 ((x0.1.2.2.2.2.1,()),())).bind fun y2=>(F32 ((x0.1.2.2.2.2.2.1,()),())).bind fun y3=>(F33 ((x0.1.2.2.2.2.2.2.2.2.1,(x0.1.2.2.2.2.2.2.2.2.2.1,(x0.1.2.2.2.2.2.2.2.2.2.2.1,()))),())).bind fun y4=>(F34 ((x0.1.2.2.2.2.2.2.2.2.2.2.2.1,(x0.1.2.2.2.2.2.2.2.2.2.2.2.2.1,(x0.1.2.2.2.2.2.2.2.2.2.2.2.2.2.1,()))),())).bind fun y5=>(F35 ((x0.1.2.2.2.2.2.2.2.2.2.2.2.2.2.2.2.1,()),())).bind fun y6=>(F36 ((x0.1.2.2.2.2.2.2.2.2.2.2.2.2.2.2.2.2.1,()),())).bind fun y7=>(F37 ((x0.1.2.2.2.2.2.2.2.2.2.2.2.2.2.2.2.2.2.1,()),())).bind fun y8=>(F38 ((x0.1.2.2.2.2.2.2.2.2.2.2.2.2.2.2.2.2.2.2.1,()),())).bind fun y9=>(F39 ((x0.1.2.2.2.2.2.2.2.2.2.2.2.2.2.2.2.2.2.2.2.1,()),())).bind fun y10=>some ((x0.1.1,(x0.1.2.1,(y1.1.1,(y1.1.2.1,(y2.1.1,(y3.1.1,(x0.1.2.2.2.2.2.2.1,(x0.1.2.2.2.2.2.2.2.1,(y4.1.1,(y4.1.2.1,(y4.1.2.2.1,(y5.1.1,(y5.1.2.1,(y5.1.2.2.1,(x0.1.2.2.2.2.2.2.2.2.2.2.2.2.2.2.1,(y6.1.1,(y7.1.1,(y8.1.1,(y9.1.1,(y10.1.1,())))))))))))))))))))),())
noncomputable def c6:Con:=⟨i6,o6,F6⟩
def i144:List Grp:= [⟨.c,(.cons (.sl e207) .nil),[]⟩]
def o144:List Grp:= [⟨.c,(.cons (.sl e207) .nil),[(.own m0)]⟩]
noncomputable def F144.b0 (x0:((List D207×Unit)×Unit)):(v1:(List (D207)×(Int×Unit)))→Option (Sum (List (D207)×(Int×Unit)) (Sum (List (D207)×(Int×Unit)) (((List D207×Unit)×Unit)))):=fun v1=>bif iLt v1.2.1 (List.length x0.1.1:Int) then (getI x0.1.1 v1.2.1).bind fun x2=>bif room (List.length ([]:List (D229))+List.length x2.2.2.2.2.1) 16 then bif room (List.length v1.1+List.length ([(x2.1,(x2.2.1,(x2.2.2.1,(x2.2.2.2.1,(lapp ([]:List (D229)) x2.2.2.2.2.1,())))))]:List (D207))) 64 then some (.inl (lapp v1.1 ([(x2.1,(x2.2.1,(x2.2.2.1,(x2.2.2.2.1,(lapp ([]:List (D229)) x2.2.2.2.2.1,())))))]:List (D207)),(iAdd .i64 v1.2.1 (1:Int),()))) else none else none else some (.inr (.inl (v1.1,(v1.2.1,()))))
noncomputable def F144:((List D207×Unit)×Unit)→Option (((List D207×Unit)×Unit)):=fun x0=>(loopF (F144.b0 x0) (([]:List (D207)),((0:Int),()))).bind fun r4=>Sum.elim (fun v3=>some ((v3.1,()),())) some r4
noncomputable def c144:Con:=⟨i144,o144,F144⟩
def i86:List Grp:= [⟨.agg,e42,[]⟩]
def o86:List Grp:= [⟨.agg,e42,[.sh,(.own m0)]⟩]
noncomputable def F86:(D42×Unit)→Option ((D42×Unit)):=fun x0=>(F144 ((x0.1.2.1,()),())).bind fun y1=>some ((x0.1.1,(y1.1.1,())),())
noncomputable def c86:Con:=⟨i86,o86,F86⟩
def i88:List Grp:= [⟨.agg,e29,[]⟩]
def o88:List Grp:= [⟨.agg,e29,[.sh,.sh,(.own [])]⟩]
noncomputable def F88:(D29×Unit)→Option ((D29×Unit)):=fun x0=>bif room (List.length ([]:List (D9))+List.length x0.1.2.2.1) 16 then some ((x0.1.1,(x0.1.2.1,(lapp ([]:List (D9)) x0.1.2.2.1,()))),()) else none
noncomputable def c88:Con:=⟨i88,o88,F88⟩
def i89:List Grp:= [⟨.agg,e32,[]⟩]
def o89:List Grp:= [⟨.agg,e32,m1⟩]
noncomputable def F89:(D32×Unit)→Option ((D32×Unit)):=fun x0=>bif room (List.length ([]:List (D9))+List.length x0.1.2.1) 16 then bif room (List.length ([]:List (D3))+List.length x0.1.2.2.1) 8 then some ((x0.1.1,(lapp ([]:List (D9)) x0.1.2.1,(lapp ([]:List (D3)) x0.1.2.2.1,()))),()) else none else none
noncomputable def c89:Con:=⟨i89,o89,F89⟩
def i145:List Grp:= [⟨.agg,e154,[]⟩]
def o145:List Grp:= [⟨.agg,e154,m2⟩]
noncomputable def F145:(D154×Unit)→Option ((D154×Unit)):=fun x0=>(F88 ((x0.1.2.2.2.2.1,(x0.1.2.2.2.2.2.1,(x0.1.2.2.2.2.2.2.1,()))),())).bind fun y1=>(F89 ((x0.1.2.2.2.2.2.2.2.1,(x0.1.2.2.2.2.2.2.2.2.1,(x0.1.2.2.2.2.2.2.2.2.2.1,()))),())).bind fun y2=>bif room (List.length ([]:List (D169))+List.length x0.1.2.2.2.2.2.2.2.2.2.2.1) 56 then bif room (List.length ([]:List (D163))+List.length x0.1.2.2.2.2.2.2.2.2.2.2.2.2.1) 24 then some ((x0.1.1,(x0.1.2.1,(x0.1.2.2.1,(x0.1.2.2.2.1,(y1.1.1,(y1.1.2.1,(y1.1.2.2.1,(y2.1.1,(y2.1.2.1,(y2.1.2.2.1,(lapp ([]:List (D169)) x0.1.2.2.2.2.2.2.2.2.2.2.1,(x0.1.2.2.2.2.2.2.2.2.2.2.2.1,(lapp ([]:List (D163)) x0.1.2.2.2.2.2.2.2.2.2.2.2.2.1,(x0.1.2.2.2.2.2.2.2.2.2.2.2.2.2.1,())))))))))))))),()) else none else none
noncomputable def c145:Con:=⟨i145,o145,F145⟩
def i87:List Grp:= [⟨.c,(.cons (.sl e154) .nil),[]⟩]
def o87:List Grp:= [⟨.c,(.cons (.sl e154) .nil),[(.own m2)]⟩]
noncomputable def F87.b0 (x0:((List D154×Unit)×Unit)):(v1:(List (D154)×(Int×Unit)))→Option (Sum (List (D154)×(Int×Unit)) (Sum (List (D154)×(Int×Unit)) (((List D154×Unit)×Unit)))):=fun v1=>bif iLt v1.2.1 (List.length x0.1.1:Int) then (getI x0.1.1 v1.2.1).bind fun x2=>(F145 (x2,())).bind fun y3=>bif room (List.length v1.1+List.length ([y3.1]:List (D154))) 208 then some (.inl (lapp v1.1 ([y3.1]:List (D154)),(iAdd .i64 v1.2.1 (1:Int),()))) else none else some (.inr (.inl (v1.1,(v1.2.1,()))))
noncomputable def F87:((List D154×Unit)×Unit)→Option (((List D154×Unit)×Unit)):=fun x0=>(loopF (F87.b0 x0) (([]:List (D154)),((0:Int),()))).bind fun r5=>Sum.elim (fun v4=>some ((v4.1,()),())) some r5
noncomputable def c87:Con:=⟨i87,o87,F87⟩
def i90:List Grp:= [⟨.agg,e146,[]⟩]
def o90:List Grp:= [⟨.agg,e146,m3⟩]
noncomputable def F90:(D146×Unit)→Option ((D146×Unit)):=fun x0=>(F87 ((x0.1.2.1,()),())).bind fun y1=>(F88 ((x0.1.2.2.1,(x0.1.2.2.2.1,(x0.1.2.2.2.2.1,()))),())).bind fun y2=>some ((x0.1.1,(y1.1.1,(y2.1.1,(y2.1.2.1,(y2.1.2.2.1,()))))),())
noncomputable def c90:Con:=⟨i90,o90,F90⟩
def i27:List Grp:= [⟨.agg,e52,[]⟩]
def o27:List Grp:= [⟨.agg,e52,m4⟩]
noncomputable def F27.b0 (x0:(D52×Unit)):(v5:(Int×(List (D146)×Unit)))→Option (Sum (Int×(List (D146)×Unit)) (Sum (Int×(List (D146)×Unit)) ((D52×Unit)))):=fun v5=>bif iLt v5.1 (List.length x0.1.2.2.2.2.2.2.2.2.2.2.2.2.2.2.2.2.2.2.2.1:Int) then (getI x0.1.2.2.2.2.2.2.2.2.2.2.2.2.2.2.2.2.2.2.2.1 v5.1).bind fun x6=>(F90 (x6,())).bind fun y7=>bif room (List.length v5.2.1+List.length ([y7.1]:List (D146))) 72 then some (.inl (iAdd .i64 v5.1 (1:Int),(lapp v5.2.1 ([y7.1]:List (D146)),()))) else none else some (.inr (.inl (v5.1,(v5.2.1,()))))
noncomputable def F27:(D52×Unit)→Option ((D52×Unit)):=fun x0=>(F86 ((x0.1.2.2.1,(x0.1.2.2.2.1,())),())).bind fun y1=>bif room (List.length ([]:List (D163))+List.length x0.1.2.2.2.2.1) 24 then (F87 ((x0.1.2.2.2.2.2.1,()),())).bind fun y2=>(F88 ((x0.1.2.2.2.2.2.2.2.2.1,(x0.1.2.2.2.2.2.2.2.2.2.1,(x0.1.2.2.2.2.2.2.2.2.2.2.1,()))),())).bind fun y3=>(F89 ((x0.1.2.2.2.2.2.2.2.2.2.2.2.1,(x0.1.2.2.2.2.2.2.2.2.2.2.2.2.1,(x0.1.2.2.2.2.2.2.2.2.2.2.2.2.2.1,()))),())).bind fun y4=>bif room (List.length ([]:List (D105))+List.length x0.1.2.2.2.2.2.2.2.2.2.2.2.2.2.2.2.1) 32 then bif room (List.length ([]:List (D107))+List.length x0.1.2.2.2.2.2.2.2.2.2.2.2.2.2.2.2.2.1) 32 then bif room (List.length ([]:List (D3))+List.length x0.1.2.2.2.2.2.2.2.2.2.2.2.2.2.2.2.2.2.1) 8 then bif room (List.length ([]:List (D169))+List.length x0.1.2.2.2.2.2.2.2.2.2.2.2.2.2.2.2.2.2.2.1) 56 then (loopF (F27.b0 x0) ((0:Int),(([]:List (D146)),()))).bind fun r9=>Sum.elim (fun v8=>some ((x0.1.1,(x0.1.2.1,(y1.1.1,(y1.1.2.1,(lapp ([]:List (D163)) x0.1.2.2.2.2.1,(y2.1.1,(x0.1.2.2.2.2.2.2.1,(x0.1.2.2.2.2.2.2.2.1,(y3.1.1,(y3.1.2.1,(y3.1.2.2.1,(y4.1.1,(y4.1.2.1,(y4.1.2.2.1,(x0.1.2.2.2.2.2.2.2.2.2.2.2.2.2.2.1,(lapp ([]:List (D105)) x0.1.2.2.2.2.2.2.2.2.2.2.2.2.2.2.2.1,(lapp ([]:List (D107)) x0.1.2.2.2.2.2.2.2.2.2.2.2.2.2.2.2.2.1,(lapp ([]:List (D3)) x0.1.2.2.2.2.2.2.2.2.2.2.2.2.2.2.2.2.2.1,(lapp ([]:List (D169)) x0.1.2.2.2.2.2.2.2.2.2.2.2.2.2.2.2.2.2.2.1,(v8.2.1,())))))))))))))))))))),())) some r9 else none else none else none else none else none
noncomputable def c27:Con:=⟨i27,o27,F27⟩
def i96:List Grp:= [⟨.c,(.cons (.int .i64) .nil),[]⟩,⟨.c,(.cons (.int .i64) .nil),[]⟩,⟨.c,(.cons (.int .i64) .nil),[]⟩]
def o96:List Grp:= [⟨.c,(.cons .bool .nil),[]⟩]
noncomputable def F96:((Int×Unit)×((Int×Unit)×((Int×Unit)×Unit)))→Option (((Bool×Unit)×Unit)):=fun x0=>bif iLe x0.2.1.1 x0.1.1 then some ((iLe x0.1.1 x0.2.2.1.1,()),()) else some ((false,()),())
noncomputable def c96:Con:=⟨i96,o96,F96⟩
def i91:List Grp:= [⟨.c,(.cons .str .nil),[]⟩]
def o91:List Grp:= [⟨.c,(.cons .bool .nil),[]⟩]
noncomputable def F91.b0 (x0:((ByteArray×Unit)×Unit)):(v1:(Int×Unit))→Option (Sum (Int×Unit) (Sum (Int×Unit) (((Bool×Unit)×Unit)))):=fun v1=>bif iLt v1.1 (ByteArray.size x0.1.1:Int) then (getI (ByteArray.data x0.1.1).toList v1.1).bind fun b2=>(F96 ((IntKind.wrap .i64 (UInt8.toNat b2:Int),()),(((97:Int),()),(((122:Int),()),())))).bind fun y3=>bif (!y3.1.1) then (getI (ByteArray.data x0.1.1).toList v1.1).bind fun b4=>(F96 ((IntKind.wrap .i64 (UInt8.toNat b4:Int),()),(((48:Int),()),(((57:Int),()),())))).bind fun y5=>bif (!y5.1.1) then some (.inr (.inr ((false,()),()))) else some (.inl (iAdd .i64 v1.1 (1:Int),())) else some (.inl (iAdd .i64 v1.1 (1:Int),())) else some (.inr (.inl (v1.1,())))
noncomputable def F91:((ByteArray×Unit)×Unit)→Option (((Bool×Unit)×Unit)):=fun x0=>(loopF (F91.b0 x0) ((0:Int),())).bind fun r7=>Sum.elim (fun v6=>(F96 (((ByteArray.size x0.1.1:Int),()),(((1:Int),()),(((8:Int),()),())))).bind fun y8=>some (y8.1,())) some r7
noncomputable def c91:Con:=⟨i91,o91,F91⟩
def i185:List Grp:= [⟨.agg,e207,[]⟩]
def o185:List Grp:= [⟨.c,(.cons .bool .nil),[]⟩]
noncomputable def F185.b0 (x0:(D207×Unit)):(v5:(Int×Unit))→Option (Sum (Int×Unit) (Sum (Int×Unit) (((Bool×Unit)×Unit)))):=fun v5=>bif iLt v5.1 (List.length x0.1.2.2.2.2.1:Int) then (getI x0.1.2.2.2.2.1 v5.1).bind fun x6=>(F96 ((x6.1,()),(((1:Int),()),(((1000000:Int),()),())))).bind fun y7=>bif (!y7.1.1) then some (.inr (.inr ((false,()),()))) else (F96 ((x6.2.1,()),(((0:Int),()),(((1000:Int),()),())))).bind fun y8=>bif (!y8.1.1) then some (.inr (.inr ((false,()),()))) else bif iLt (0:Int) v5.1 then (getI x0.1.2.2.2.2.1 (iSub .i64 v5.1 (1:Int))).bind fun x9=>bif iLe x6.2.1 x9.2.1 then some (.inr (.inr ((false,()),()))) else some (.inl (iAdd .i64 v5.1 (1:Int),())) else some (.inl (iAdd .i64 v5.1 (1:Int),())) else some (.inr (.inl (v5.1,())))
noncomputable def F185:(D207×Unit)→Option (((Bool×Unit)×Unit)):=fun x0=>(F91 ((x0.1.1,()),())).bind fun y1=>bif (!y1.1.1) then some ((false,()),()) else (F96 ((x0.1.2.1,()),(((0:Int),()),(((1000000:Int),()),())))).bind fun y2=>bif (!y2.1.1) then some ((false,()),()) else (F96 ((x0.1.2.2.1,()),(((0:Int),()),(((10000:Int),()),())))).bind fun y3=>bif (!y3.1.1) then some ((false,()),()) else (F96 ((x0.1.2.2.2.1,()),(((0:Int),()),(((1000000:Int),()),())))).bind fun y4=>bif (!y4.1.1) then some ((false,()),()) else bif iLt (4:Int) (List.length x0.1.2.2.2.2.1:Int) then some ((false,()),()) else (loopF (F185.b0 x0) ((0:Int),())).bind fun r11=>Sum.elim (fun v10=>some ((true,()),())) some r11
noncomputable def c185:Con:=⟨i185,o185,F185⟩
def i209:List Grp:= [⟨.agg,e207,[]⟩]
def o209:List Grp:= [⟨.c,(.cons (.int .i64) .nil),[]⟩]
noncomputable def F209.b0 (x0:(D207×Unit)):(v1:(Int×(Int×Unit)))→Option (Sum (Int×(Int×Unit)) (Sum (Int×(Int×Unit)) (((Int×Unit)×Unit)))):=fun v1=>bif iLt v1.2.1 (List.length x0.1.2.2.2.2.1:Int) then (getI x0.1.2.2.2.2.1 v1.2.1).bind fun x2=>some (.inl (iAdd .i64 v1.1 x2.1,(iAdd .i64 v1.2.1 (1:Int),()))) else some (.inr (.inl (v1.1,(v1.2.1,()))))
noncomputable def F209:(D207×Unit)→Option (((Int×Unit)×Unit)):=fun x0=>(loopF (F209.b0 x0) (iAdd .i64 x0.1.2.1 x0.1.2.2.2.1,((0:Int),()))).bind fun r4=>Sum.elim (fun v3=>some ((v3.1,()),())) some r4
noncomputable def c209:Con:=⟨i209,o209,F209⟩
def i186:List Grp:= [⟨.c,(.cons (.sl e207) .nil),[]⟩]
def o186:List Grp:= [⟨.c,(.cons (.int .i64) .nil),[]⟩]
noncomputable def F186.b0 (x0:((List D207×Unit)×Unit)):(v1:(Int×(Int×Unit)))→Option (Sum (Int×(Int×Unit)) (Sum (Int×(Int×Unit)) (((Int×Unit)×Unit)))):=fun v1=>bif iLt v1.2.1 (List.length x0.1.1:Int) then (getI x0.1.1 v1.2.1).bind fun x2=>(F209 (x2,())).bind fun y3=>some (.inl (iAdd .i64 v1.1 y3.1.1,(iAdd .i64 v1.2.1 (1:Int),()))) else some (.inr (.inl (v1.1,(v1.2.1,()))))
noncomputable def F186:((List D207×Unit)×Unit)→Option (((Int×Unit)×Unit)):=fun x0=>(loopF (F186.b0 x0) ((0:Int),((0:Int),()))).bind fun r5=>Sum.elim (fun v4=>some ((v4.1,()),())) some r5
noncomputable def c186:Con:=⟨i186,o186,F186⟩
def i146:List Grp:= [⟨.c,(.cons (.sl e207) .nil),[]⟩]
def o146:List Grp:= [⟨.c,(.cons .bool .nil),[]⟩]
noncomputable def F146.b0 (x0:((List D207×Unit)×Unit)):(v1:(Int×Unit))→Option (Sum (Int×Unit) (Sum (Int×Unit) (((Bool×Unit)×Unit)))):=fun v1=>bif iLt v1.1 (List.length x0.1.1:Int) then (getI x0.1.1 v1.1).bind fun x2=>(F185 (x2,())).bind fun y3=>bif (!y3.1.1) then some (.inr (.inr ((false,()),()))) else bif iLt (0:Int) v1.1 then (getI x0.1.1 (iSub .i64 v1.1 (1:Int))).bind fun x4=>(getI x0.1.1 v1.1).bind fun x5=>bif !sLt x4.1 x5.1 then some (.inr (.inr ((false,()),()))) else some (.inl (iAdd .i64 v1.1 (1:Int),())) else some (.inl (iAdd .i64 v1.1 (1:Int),())) else some (.inr (.inl (v1.1,())))
noncomputable def F146:((List D207×Unit)×Unit)→Option (((Bool×Unit)×Unit)):=fun x0=>(loopF (F146.b0 x0) ((0:Int),())).bind fun r7=>Sum.elim (fun v6=>bif iLe (List.length x0.1.1:Int) (12:Int) then (F186 (x0.1,())).bind fun y8=>some ((iLe y8.1.1 (1000000:Int),()),()) else some ((false,()),())) some r7
noncomputable def c146:Con:=⟨i146,o146,F146⟩
def i92:List Grp:= [⟨.agg,e42,[]⟩]
def o92:List Grp:= [⟨.c,(.cons .bool .nil),[]⟩]
noncomputable def F92:(D42×Unit)→Option (((Bool×Unit)×Unit)):=fun x0=>(F96 ((x0.1.1,()),(((0:Int),()),(((900:Int),()),())))).bind fun y1=>bif y1.1.1 then (F146 ((x0.1.2.1,()),())).bind fun y2=>some (y2.1,()) else some ((false,()),())
noncomputable def c92:Con:=⟨i92,o92,F92⟩
def i147:List Grp:= [⟨.agg,e137,[]⟩]
def o147:List Grp:= [⟨.c,(.cons .bool .nil),[]⟩]
noncomputable def F147:(D137×Unit)→Option (((Bool×Unit)×Unit)):=fun x0=>(F91 ((x0.1.2.1,()),())).bind fun y1=>bif (!y1.1.1) then some ((false,()),()) else (F96 ((x0.1.2.2.2.1,()),(((1:Int),()),(((1000000:Int),()),())))).bind fun y2=>bif (!y2.1.1) then some ((false,()),()) else (F96 ((x0.1.2.2.2.2.1,()),(((0:Int),()),(((10000:Int),()),())))).bind fun y3=>bif (!y3.1.1) then some ((false,()),()) else bif iEq x0.1.1 (1:Int) then (F91 ((x0.1.2.2.1,()),())).bind fun y4=>some (y4.1,()) else (F96 ((x0.1.1,()),(((2:Int),()),(((3:Int),()),())))).bind fun y5=>bif y5.1.1 then some ((sEq x0.1.2.2.1 ⟨#[]⟩,()),()) else some ((false,()),())
noncomputable def c147:Con:=⟨i147,o147,F147⟩
def i148:List Grp:= [⟨.agg,e137,[]⟩,⟨.agg,e137,[]⟩]
def o148:List Grp:= [⟨.c,(.cons .bool .nil),[]⟩]
noncomputable def F148:(D137×(D137×Unit))→Option (((Bool×Unit)×Unit)):=fun x0=>bif !sEq x0.1.2.1 x0.2.1.2.1 then some ((sLt x0.1.2.1 x0.2.1.2.1,()),()) else bif !iEq x0.1.2.2.2.2.1 x0.2.1.2.2.2.2.1 then some ((iLt x0.1.2.2.2.2.1 x0.2.1.2.2.2.2.1,()),()) else bif !iEq x0.1.1 x0.2.1.1 then some ((iLt x0.1.1 x0.2.1.1,()),()) else bif !sEq x0.1.2.2.1 x0.2.1.2.2.1 then some ((sLt x0.1.2.2.1 x0.2.1.2.2.1,()),()) else some ((iLt x0.1.2.2.2.1 x0.2.1.2.2.2.1,()),())
noncomputable def c148:Con:=⟨i148,o148,F148⟩
def i93:List Grp:= [⟨.c,(.cons (.sl e169) .nil),[]⟩]
def o93:List Grp:= [⟨.c,(.cons .bool .nil),[]⟩]
noncomputable def F93.b0 (x0:((List D169×Unit)×Unit)):(v1:(Int×Unit))→Option (Sum (Int×Unit) (Sum (Int×Unit) (((Bool×Unit)×Unit)))):=fun v1=>bif iLt v1.1 (List.length x0.1.1:Int) then (getI x0.1.1 v1.1).bind fun x2=>(F147 (x2,())).bind fun y3=>bif (!y3.1.1) then some (.inr (.inr ((false,()),()))) else bif iLt (0:Int) v1.1 then (getI x0.1.1 (iSub .i64 v1.1 (1:Int))).bind fun x4=>(getI x0.1.1 v1.1).bind fun x5=>(F148 (x4,(x5,()))).bind fun y6=>bif (!y6.1.1) then some (.inr (.inr ((false,()),()))) else some (.inl (iAdd .i64 v1.1 (1:Int),())) else some (.inl (iAdd .i64 v1.1 (1:Int),())) else some (.inr (.inl (v1.1,())))
noncomputable def F93:((List D169×Unit)×Unit)→Option (((Bool×Unit)×Unit)):=fun x0=>(loopF (F93.b0 x0) ((0:Int),())).bind fun r8=>Sum.elim (fun v7=>some ((iLe (List.length x0.1.1:Int) (20:Int),()),())) some r8
noncomputable def c93:Con:=⟨i93,o93,F93⟩
def i94:List Grp:= [⟨.c,(.cons (.sl e163) .nil),[]⟩]
def o94:List Grp:= [⟨.c,(.cons .bool .nil),[]⟩]
noncomputable def F94.b0 (x0:((List D163×Unit)×Unit)):(v1:(Int×Unit))→Option (Sum (Int×Unit) (Sum (Int×Unit) (((Bool×Unit)×Unit)))):=fun v1=>bif iLt v1.1 (List.length x0.1.1:Int) then (getI x0.1.1 v1.1).bind fun x2=>(F91 ((x2.1,()),())).bind fun y3=>bif (!y3.1.1) then some (.inr (.inr ((false,()),()))) else (getI x0.1.1 v1.1).bind fun x4=>(F96 ((x4.2.1,()),(((1:Int),()),(((1000000:Int),()),())))).bind fun y5=>bif (!y5.1.1) then some (.inr (.inr ((false,()),()))) else bif iLt (0:Int) v1.1 then (getI x0.1.1 (iSub .i64 v1.1 (1:Int))).bind fun x6=>(getI x0.1.1 v1.1).bind fun x7=>bif !sLt x6.1 x7.1 then some (.inr (.inr ((false,()),()))) else some (.inl (iAdd .i64 v1.1 (1:Int),())) else some (.inl (iAdd .i64 v1.1 (1:Int),())) else some (.inr (.inl (v1.1,())))
noncomputable def F94:((List D163×Unit)×Unit)→Option (((Bool×Unit)×Unit)):=fun x0=>(loopF (F94.b0 x0) ((0:Int),())).bind fun r9=>Sum.elim (fun v8=>(F96 (((List.length x0.1.1:Int),()),(((1:Int),()),(((12:Int),()),())))).bind fun y10=>some (y10.1,())) some r9
noncomputable def c94:Con:=⟨i94,o94,F94⟩
def i150:List Grp:= [⟨.agg,e29,[]⟩]
def o150:List Grp:= [⟨.c,(.cons .bool .nil),[]⟩]
noncomputable def F150:(D29×Unit)→Option (((Bool×Unit)×Unit)):=fun x0=>bif iEq x0.1.1 (0:Int) then bif iEq x0.1.2.1 (-1:Int) then some ((iEq (List.length x0.1.2.2.1:Int) (0:Int),()),()) else some ((false,()),()) else some ((false,()),())
noncomputable def c150:Con:=⟨i150,o150,F150⟩
def i189:List Grp:= [⟨.c,(.cons (.sl e9) .nil),[]⟩]
def o189:List Grp:= [⟨.c,(.cons .bool .nil),[]⟩]
noncomputable def F189.b0 (x0:((List D9×Unit)×Unit)):(v1:(Int×Unit))→Option (Sum (Int×Unit) (Sum (Int×Unit) (((Bool×Unit)×Unit)))):=fun v1=>bif iLt v1.1 (List.length x0.1.1:Int) then (getI x0.1.1 v1.1).bind fun x2=>(F91 (x2,())).bind fun y3=>bif (!y3.1.1) then some (.inr (.inr ((false,()),()))) else bif iLt (0:Int) v1.1 then (getI x0.1.1 (iSub .i64 v1.1 (1:Int))).bind fun x4=>(getI x0.1.1 v1.1).bind fun x5=>bif !sLt x4.1 x5.1 then some (.inr (.inr ((false,()),()))) else some (.inl (iAdd .i64 v1.1 (1:Int),())) else some (.inl (iAdd .i64 v1.1 (1:Int),())) else some (.inr (.inl (v1.1,())))
noncomputable def F189:((List D9×Unit)×Unit)→Option (((Bool×Unit)×Unit)):=fun x0=>(loopF (F189.b0 x0) ((0:Int),())).bind fun r7=>Sum.elim (fun v6=>some ((iLe (List.length x0.1.1:Int) (20:Int),()),())) some r7
noncomputable def c189:Con:=⟨i189,o189,F189⟩
def i187:List Grp:= [⟨.agg,e154,[]⟩]
def o187:List Grp:= [⟨.c,(.cons .bool .nil),[]⟩]
noncomputable def F187:(D154×Unit)→Option (((Bool×Unit)×Unit)):=fun x0=>(F150 ((x0.1.2.2.2.2.1,(x0.1.2.2.2.2.2.1,(x0.1.2.2.2.2.2.2.1,()))),())).bind fun y1=>bif y1.1.1 then some ((true,()),()) else (F96 ((x0.1.2.2.2.2.1,()),(((1:Int),()),((iSub .i64 x0.1.2.2.1 (1:Int),()),())))).bind fun y2=>bif y2.1.1 then (F96 ((x0.1.2.2.2.2.2.1,()),(((0:Int),()),((iSub .i64 x0.1.1 (1:Int),()),())))).bind fun y3=>bif y3.1.1 then (F189 ((x0.1.2.2.2.2.2.2.1,()),())).bind fun y4=>some (y4.1,()) else some ((false,()),()) else some ((false,()),())
noncomputable def c187:Con:=⟨i187,o187,F187⟩
def i154:List Grp:= [⟨.agg,e32,[]⟩]
def o154:List Grp:= [⟨.c,(.cons .bool .nil),[]⟩]
noncomputable def F154:(D32×Unit)→Option (((Bool×Unit)×Unit)):=fun x0=>bif iEq x0.1.1 (0:Int) then bif iEq (List.length x0.1.2.1:Int) (0:Int) then some ((iEq (List.length x0.1.2.2.1:Int) (0:Int),()),()) else some ((false,()),()) else some ((false,()),())
noncomputable def c154:Con:=⟨i154,o154,F154⟩
def i188:List Grp:= [⟨.agg,e154,[]⟩]
def o188:List Grp:= [⟨.c,(.cons .bool .nil),[]⟩]
noncomputable def F188.b0 (x0:(D154×Unit)):(v4:(Int×Unit))→Option (Sum (Int×Unit) (Sum (Int×Unit) (((Bool×Unit)×Unit)))):=fun v4=>bif iLt v4.1 (List.length x0.1.2.2.2.2.2.2.2.2.2.1:Int) then (getI x0.1.2.2.2.2.2.2.2.2.2.1 v4.1).bind fun x5=>(F96 (x5,(((0:Int),()),((iSub .i64 x0.1.2.2.2.2.2.2.2.1 (1:Int),()),())))).bind fun y6=>bif (!y6.1.1) then some (.inr (.inr ((false,()),()))) else some (.inl (iAdd .i64 v4.1 (1:Int),())) else some (.inr (.inl (v4.1,())))
noncomputable def F188:(D154×Unit)→Option (((Bool×Unit)×Unit)):=fun x0=>(F154 ((x0.1.2.2.2.2.2.2.2.1,(x0.1.2.2.2.2.2.2.2.2.1,(x0.1.2.2.2.2.2.2.2.2.2.1,()))),())).bind fun y1=>bif y1.1.1 then some ((true,()),()) else (F96 ((x0.1.2.2.2.2.2.2.2.1,()),(((1:Int),()),((iSub .i64 x0.1.2.2.1 (1:Int),()),())))).bind fun y2=>bif (!y2.1.1) then some ((false,()),()) else (F189 ((x0.1.2.2.2.2.2.2.2.2.1,()),())).bind fun y3=>bif (!y3.1.1) then some ((false,()),()) else bif !iEq (List.length x0.1.2.2.2.2.2.2.2.2.2.1:Int) (List.length x0.1.2.2.2.2.2.2.2.2.1:Int) then some ((false,()),()) else (loopF (F188.b0 x0) ((0:Int),())).bind fun r8=>Sum.elim (fun v7=>some ((true,()),())) some r8
noncomputable def c188:Con:=⟨i188,o188,F188⟩
def i149:List Grp:= [⟨.agg,e154,[]⟩]
def o149:List Grp:= [⟨.c,(.cons .bool .nil),[]⟩]
noncomputable def F149.b0 (x0:(D154×Unit)):(v7:(Int×Unit))→Option (Sum (Int×Unit) (Sum (Int×Unit) (((Bool×Unit)×Unit)))):=fun v7=>bif iLt v7.1 (List.length x0.1.2.2.2.2.2.2.2.2.2.2.1:Int) then (getI x0.1.2.2.2.2.2.2.2.2.2.2.1 v7.1).bind fun x8=>(F147 (x8,())).bind fun y9=>bif (!y9.1.1) then some (.inr (.inr ((false,()),()))) else some (.inl (iAdd .i64 v7.1 (1:Int),())) else some (.inr (.inl (v7.1,())))
noncomputable def F149:(D154×Unit)→Option (((Bool×Unit)×Unit)):=fun x0=>(F96 ((x0.1.1,()),(((0:Int),()),(((100000:Int),()),())))).bind fun y1=>bif (!y1.1.1) then some ((false,()),()) else (F96 ((x0.1.2.1,()),(((0:Int),()),(((900:Int),()),())))).bind fun y2=>bif (!y2.1.1) then some ((false,()),()) else (F96 ((x0.1.2.2.1,()),(((1:Int),()),(((10000:Int),()),())))).bind fun y3=>bif (!y3.1.1) then some ((false,()),()) else (F91 ((x0.1.2.2.2.1,()),())).bind fun y4=>bif (!y4.1.1) then some ((false,()),()) else (F187 (x0.1,())).bind fun y5=>bif (!y5.1.1) then some ((false,()),()) else (F188 (x0.1,())).bind fun y6=>bif (!y6.1.1) then some ((false,()),()) else bif iLt (4:Int) (List.length x0.1.2.2.2.2.2.2.2.2.2.2.1:Int) then some ((false,()),()) else (loopF (F149.b0 x0) ((0:Int),())).bind fun r11=>Sum.elim (fun v10=>bif (!x0.1.2.2.2.2.2.2.2.2.2.2.2.1) then bif iEq (List.length x0.1.2.2.2.2.2.2.2.2.2.2.2.2.1:Int) (0:Int) then some ((sEq x0.1.2.2.2.2.2.2.2.2.2.2.2.2.2.1 ⟨#[]⟩,()),()) else some ((false,()),()) else (F94 ((x0.1.2.2.2.2.2.2.2.2.2.2.2.2.1,()),())).bind fun y12=>bif y12.1.1 then some ((iEq (ByteArray.size x0.1.2.2.2.2.2.2.2.2.2.2.2.2.2.1:Int) (32:Int),()),()) else some ((false,()),())) some r11
noncomputable def c149:Con:=⟨i149,o149,F149⟩
def i151:List Grp:= [⟨.c,(.cons (.sl e154) .nil),[]⟩,⟨.c,(.cons (.int .i64) .nil),[]⟩]
def o151:List Grp:= [⟨.c,(.cons (.int .i64) .nil),[]⟩]
noncomputable def F151.b0 (x0:((List D154×Unit)×((Int×Unit)×Unit))):(v1:(Int×Unit))→Option (Sum (Int×Unit) (Sum (Int×Unit) (((Int×Unit)×Unit)))):=fun v1=>bif iLt v1.1 (List.length x0.1.1:Int) then (getI x0.1.1 v1.1).bind fun x2=>bif iEq x2.1 x0.2.1.1 then some (.inr (.inr ((v1.1,()),()))) else some (.inl (iAdd .i64 v1.1 (1:Int),())) else some (.inr (.inl (v1.1,())))
noncomputable def F151:((List D154×Unit)×((Int×Unit)×Unit))→Option (((Int×Unit)×Unit)):=fun x0=>(loopF (F151.b0 x0) ((0:Int),())).bind fun r4=>Sum.elim (fun v3=>some (((-1:Int),()),())) some r4
noncomputable def c151:Con:=⟨i151,o151,F151⟩
def i95:List Grp:= [⟨.c,(.cons (.sl e154) .nil),[]⟩]
def o95:List Grp:= [⟨.c,(.cons .bool .nil),[]⟩]
noncomputable def F95.b0 (x0:((List D154×Unit)×Unit)):(v1:(Int×Unit))→Option (Sum (Int×Unit) (Sum (Int×Unit) (((Bool×Unit)×Unit)))):=fun v1=>bif iLt v1.1 (List.length x0.1.1:Int) then (getI x0.1.1 v1.1).bind fun x2=>Option.bind ((F149 (x2,())).bind fun y3=>bif (!y3.1.1) then some (.inr (.inr (.inr ((false,()),())))) else (getI x0.1.1 (0:Int)).bind fun x4=>bif !iEq x2.2.1 x4.2.1 then some (.inr (.inr (.inr ((false,()),())))) else bif iLt (0:Int) v1.1 then (getI x0.1.1 (iSub .i64 v1.1 (1:Int))).bind fun x5=>bif iLe x2.1 x5.1 then some (.inr (.inr (.inr ((false,()),())))) else some (.inl ()) else some (.inl ())) fun r7=>Sum.elim (fun v6=>(F150 ((x2.2.2.2.2.1,(x2.2.2.2.2.2.1,(x2.2.2.2.2.2.2.1,()))),())).bind fun y8=>bif (!y8.1.1) then bif cutHi v1.1 (List.length x0.1.1) then (F151 ((List.take ((Int.toNat v1.1) - 0) (List.drop 0 x0.1.1),()),((x2.2.2.2.2.2.1,()),()))).bind fun y9=>bif iLt y9.1.1 (0:Int) then some (.inr (.inr ((false,()),()))) else (getI x0.1.1 y9.1.1).bind fun x10=>bif !iEq x10.2.2.1 x2.2.2.2.2.1 then some (.inr (.inr ((false,()),()))) else some (.inl (iAdd .i64 v1.1 (1:Int),())) else none else some (.inl (iAdd .i64 v1.1 (1:Int),()))) some r7 else some (.inr (.inl (v1.1,())))
noncomputable def F95:((List D154×Unit)×Unit)→Option (((Bool×Unit)×Unit)):=fun x0=>(loopF (F95.b0 x0) ((0:Int),())).bind fun r12=>Sum.elim (fun v11=>some ((iLe (List.length x0.1.1:Int) (400:Int),()),())) some r12
noncomputable def c95:Con:=⟨i95,o95,F95⟩
def i99:List Grp:= [⟨.c,(.cons (.sl e163) .nil),[]⟩,⟨.c,(.cons .str .nil),[]⟩]
def o99:List Grp:= [⟨.c,(.cons .bool .nil),[]⟩]
noncomputable def F99.b0 (x0:((List D163×Unit)×((ByteArray×Unit)×Unit))):(v1:(Int×Unit))→Option (Sum (Int×Unit) (Sum (Int×Unit) (((Bool×Unit)×Unit)))):=fun v1=>bif iLt v1.1 (List.length x0.1.1:Int) then (getI x0.1.1 v1.1).bind fun x2=>bif sEq x2.1 x0.2.1.1 then some (.inr (.inr ((true,()),()))) else some (.inl (iAdd .i64 v1.1 (1:Int),())) else some (.inr (.inl (v1.1,())))
noncomputable def F99:((List D163×Unit)×((ByteArray×Unit)×Unit))→Option (((Bool×Unit)×Unit)):=fun x0=>(loopF (F99.b0 x0) ((0:Int),())).bind fun r4=>Sum.elim (fun v3=>some ((false,()),())) some r4
noncomputable def c99:Con:=⟨i99,o99,F99⟩
def i152:List Grp:= [⟨.c,(.cons (.sl e163) .nil),[]⟩,⟨.c,(.cons (.sl e9) .nil),[]⟩]
def o152:List Grp:= [⟨.c,(.cons .bool .nil),[]⟩]
noncomputable def F152.b0 (x0:((List D163×Unit)×((List D9×Unit)×Unit))):(v1:(Int×Unit))→Option (Sum (Int×Unit) (Sum (Int×Unit) (((Bool×Unit)×Unit)))):=fun v1=>bif iLt v1.1 (List.length x0.2.1.1:Int) then (getI x0.2.1.1 v1.1).bind fun x2=>(F99 (x0.1,(x2,()))).bind fun y3=>bif (!y3.1.1) then some (.inr (.inr ((false,()),()))) else some (.inl (iAdd .i64 v1.1 (1:Int),())) else some (.inr (.inl (v1.1,())))
noncomputable def F152:((List D163×Unit)×((List D9×Unit)×Unit))→Option (((Bool×Unit)×Unit)):=fun x0=>(loopF (F152.b0 x0) ((0:Int),())).bind fun r5=>Sum.elim (fun v4=>(F189 (x0.2.1,())).bind fun y6=>some (y6.1,())) some r5
noncomputable def c152:Con:=⟨i152,o152,F152⟩
def i210:List Grp:= [⟨.c,(.cons (.sl e9) .nil),[]⟩,⟨.c,(.cons .str .nil),[]⟩]
def o210:List Grp:= [⟨.c,(.cons .bool .nil),[]⟩]
noncomputable def F210.b0 (x0:((List D9×Unit)×((ByteArray×Unit)×Unit))):(v1:(Int×Unit))→Option (Sum (Int×Unit) (Sum (Int×Unit) (((Bool×Unit)×Unit)))):=fun v1=>bif iLt v1.1 (List.length x0.1.1:Int) then (getI x0.1.1 v1.1).bind fun x2=>bif sEq x2.1 x0.2.1.1 then some (.inr (.inr ((true,()),()))) else some (.inl (iAdd .i64 v1.1 (1:Int),())) else some (.inr (.inl (v1.1,())))
noncomputable def F210:((List D9×Unit)×((ByteArray×Unit)×Unit))→Option (((Bool×Unit)×Unit)):=fun x0=>(loopF (F210.b0 x0) ((0:Int),())).bind fun r4=>Sum.elim (fun v3=>some ((false,()),())) some r4
noncomputable def c210:Con:=⟨i210,o210,F210⟩
def i190:List Grp:= [⟨.c,(.cons (.sl e163) .nil),[]⟩,⟨.c,(.cons (.sl e9) .nil),[]⟩]
def o190:List Grp:= [⟨.c,(.cons (.int .i64) .nil),[]⟩]
noncomputable def F190.b0 (x0:((List D163×Unit)×((List D9×Unit)×Unit))):(v1:(Int×(Int×Unit)))→Option (Sum (Int×(Int×Unit)) (Sum (Int×(Int×Unit)) (((Int×Unit)×Unit)))):=fun v1=>bif iLt v1.2.1 (List.length x0.1.1:Int) then (getI x0.1.1 v1.2.1).bind fun x2=>(F210 (x0.2.1,((x2.1,()),()))).bind fun y3=>bif y3.1.1 then (getI x0.1.1 v1.2.1).bind fun x4=>some (.inl (iAdd .i64 v1.1 x4.2.1,(iAdd .i64 v1.2.1 (1:Int),()))) else some (.inl (v1.1,(iAdd .i64 v1.2.1 (1:Int),()))) else some (.inr (.inl (v1.1,(v1.2.1,()))))
noncomputable def F190:((List D163×Unit)×((List D9×Unit)×Unit))→Option (((Int×Unit)×Unit)):=fun x0=>(loopF (F190.b0 x0) ((0:Int),((0:Int),()))).bind fun r6=>Sum.elim (fun v5=>some ((v5.1,()),())) some r6
noncomputable def c190:Con:=⟨i190,o190,F190⟩
def i191:List Grp:= [⟨.c,(.cons (.sl e163) .nil),[]⟩]
def o191:List Grp:= [⟨.c,(.cons (.int .i64) .nil),[]⟩]
noncomputable def F191.b0 (x0:((List D163×Unit)×Unit)):(v1:(Int×(Int×Unit)))→Option (Sum (Int×(Int×Unit)) (Sum (Int×(Int×Unit)) (((Int×Unit)×Unit)))):=fun v1=>bif iLt v1.2.1 (List.length x0.1.1:Int) then (getI x0.1.1 v1.2.1).bind fun x2=>some (.inl (iAdd .i64 v1.1 x2.2.1,(iAdd .i64 v1.2.1 (1:Int),()))) else some (.inr (.inl (v1.1,(v1.2.1,()))))
noncomputable def F191:((List D163×Unit)×Unit)→Option (((Int×Unit)×Unit)):=fun x0=>(loopF (F191.b0 x0) ((0:Int),((0:Int),()))).bind fun r4=>Sum.elim (fun v3=>some ((v3.1,()),())) some r4
noncomputable def c191:Con:=⟨i191,o191,F191⟩
def i153:List Grp:= [⟨.c,(.cons (.sl e163) .nil),[]⟩,⟨.c,(.cons (.sl e9) .nil),[]⟩]
def o153:List Grp:= [⟨.c,(.cons .bool .nil),[]⟩]
noncomputable def F153:((List D163×Unit)×((List D9×Unit)×Unit))→Option (((Bool×Unit)×Unit)):=fun x0=>(F190 (x0.1,(x0.2.1,()))).bind fun y1=>(F191 (x0.1,())).bind fun y2=>some ((iLt (iMul .i64 (2:Int) y2.1.1) (iMul .i64 (3:Int) y1.1.1),()),())
noncomputable def c153:Con:=⟨i153,o153,F153⟩
def i97:List Grp:= [⟨.c,(.cons (.sl e163) .nil),[]⟩,⟨.agg,e29,[]⟩]
def o97:List Grp:= [⟨.c,(.cons .bool .nil),[]⟩]
noncomputable def F97:((List D163×Unit)×(D29×Unit))→Option (((Bool×Unit)×Unit)):=fun x0=>(F150 (x0.2.1,())).bind fun y1=>bif y1.1.1 then some ((true,()),()) else (F96 ((x0.2.1.1,()),(((1:Int),()),(((10000:Int),()),())))).bind fun y2=>bif y2.1.1 then (F96 ((x0.2.1.2.1,()),(((0:Int),()),(((100000:Int),()),())))).bind fun y3=>bif y3.1.1 then (F152 (x0.1,((x0.2.1.2.2.1,()),()))).bind fun y4=>bif y4.1.1 then (F153 (x0.1,((x0.2.1.2.2.1,()),()))).bind fun y5=>some (y5.1,()) else some ((false,()),()) else some ((false,()),()) else some ((false,()),())
noncomputable def c97:Con:=⟨i97,o97,F97⟩
def i98:List Grp:= [⟨.c,(.cons (.sl e163) .nil),[]⟩,⟨.agg,e32,[]⟩]
def o98:List Grp:= [⟨.c,(.cons .bool .nil),[]⟩]
noncomputable def F98.b0 (x0:((List D163×Unit)×(D32×Unit))):(v5:(Int×Unit))→Option (Sum (Int×Unit) (Sum (Int×Unit) (((Bool×Unit)×Unit)))):=fun v5=>bif iLt v5.1 (List.length x0.2.1.2.2.1:Int) then (getI x0.2.1.2.2.1 v5.1).bind fun x6=>(F96 (x6,(((0:Int),()),((iSub .i64 x0.2.1.1 (1:Int),()),())))).bind fun y7=>bif (!y7.1.1) then some (.inr (.inr ((false,()),()))) else some (.inl (iAdd .i64 v5.1 (1:Int),())) else some (.inr (.inl (v5.1,())))
noncomputable def F98:((List D163×Unit)×(D32×Unit))→Option (((Bool×Unit)×Unit)):=fun x0=>(F154 (x0.2.1,())).bind fun y1=>bif y1.1.1 then some ((true,()),()) else (F96 ((x0.2.1.1,()),(((1:Int),()),(((10000:Int),()),())))).bind fun y2=>bif (!y2.1.1) then some ((false,()),()) else (F152 (x0.1,((x0.2.1.2.1,()),()))).bind fun y3=>bif (!y3.1.1) then some ((false,()),()) else (F153 (x0.1,((x0.2.1.2.1,()),()))).bind fun y4=>bif (!y4.1.1) then some ((false,()),()) else bif !iEq (List.length x0.2.1.2.2.1:Int) (List.length x0.2.1.2.1:Int) then some ((false,()),()) else (loopF (F98.b0 x0) ((0:Int),())).bind fun r9=>Sum.elim (fun v8=>some ((true,()),())) some r9
noncomputable def c98:Con:=⟨i98,o98,F98⟩
def i28:List Grp:= [⟨.agg,e52,[]⟩]
def o28:List Grp:= [⟨.c,(.cons .bool .nil),[]⟩]
noncomputable def F28:(D52×Unit)→Option (((Bool×Unit)×Unit)):=fun x0=>Option.bind ((F91 ((x0.1.1,()),())).bind fun y1=>bif (!y1.1.1) then some (.inr ((false,()),())) else (F92 ((x0.1.2.2.1,(x0.1.2.2.2.1,())),())).bind fun y2=>bif (!y2.1.1) then some (.inr ((false,()),())) else bif !iEq x0.1.2.2.1 x0.1.2.1 then some (.inr ((false,()),())) else (F93 ((x0.1.2.2.2.2.2.2.2.2.2.2.2.2.2.2.2.2.2.2.1,()),())).bind fun y3=>bif (!y3.1.1) then some (.inr ((false,()),())) else bif iLt (0:Int) (List.length x0.1.2.2.2.2.1:Int) then (F94 ((x0.1.2.2.2.2.1,()),())).bind fun y4=>bif (!y4.1.1) then some (.inr ((false,()),())) else (F95 ((x0.1.2.2.2.2.2.1,()),())).bind fun y5=>bif (!y5.1.1) then some (.inr ((false,()),())) else bif iLt (0:Int) (List.length x0.1.2.2.2.2.2.1:Int) then (getI x0.1.2.2.2.2.2.1 (0:Int)).bind fun x6=>bif !iEq x6.2.1 x0.1.2.1 then some (.inr ((false,()),())) else some (.inl ()) else some (.inl ()) else (F95 ((x0.1.2.2.2.2.2.1,()),())).bind fun y7=>bif (!y7.1.1) then some (.inr ((false,()),())) else bif iLt (0:Int) (List.length x0.1.2.2.2.2.2.1:Int) then (getI x0.1.2.2.2.2.2.1 (0:Int)).bind fun x8=>bif !iEq x8.2.1 x0.1.2.1 then some (.inr ((false,()),())) else some (.inl ()) else some (.inl ())) fun r10=>Sum.elim (fun v9=>(F96 ((x0.1.2.2.2.2.2.2.1,()),(((1:Int),()),(((10000:Int),()),())))).bind fun y11=>bif y11.1.1 then bif iLt x0.1.2.2.2.2.2.2.2.2.1 x0.1.2.2.2.2.2.2.1 then bif iLt x0.1.2.2.2.2.2.2.2.2.2.2.2.1 x0.1.2.2.2.2.2.2.1 then (F96 ((x0.1.2.2.2.2.2.2.2.1,()),(((0:Int),()),(((10000:Int),()),())))).bind fun y12=>bif y12.1.1 then (F96 ((x0.1.2.2.2.2.2.2.2.2.2.2.2.2.2.2.1,()),(((0:Int),()),(((10000:Int),()),())))).bind fun y13=>bif y13.1.1 then (F97 ((x0.1.2.2.2.2.1,()),((x0.1.2.2.2.2.2.2.2.2.1,(x0.1.2.2.2.2.2.2.2.2.2.1,(x0.1.2.2.2.2.2.2.2.2.2.2.1,()))),()))).bind fun y14=>bif y14.1.1 then (F98 ((x0.1.2.2.2.2.1,()),((x0.1.2.2.2.2.2.2.2.2.2.2.2.1,(x0.1.2.2.2.2.2.2.2.2.2.2.2.2.1,(x0.1.2.2.2.2.2.2.2.2.2.2.2.2.2.1,()))),()))).bind fun y15=>bif y15.1.1 then bif iLe (List.length x0.1.2.2.2.2.2.2.2.2.2.2.2.2.2.2.2.1:Int) (1000:Int) then bif iLe (List.length x0.1.2.2.2.2.2.2.2.2.2.2.2.2.2.2.2.2.1:Int) (1000:Int) then bif iLe (List.length x0.1.2.2.2.2.2.2.2.2.2.2.2.2.2.2.2.2.2.1:Int) (200:Int) then some ((iLe (List.length x0.1.2.2.2.2.2.2.2.2.2.2.2.2.2.2.2.2.2.2.2.1:Int) (200:Int),()),()) else some ((false,()),()) else some ((false,()),()) else some ((false,()),()) else some ((false,()),()) else some ((false,()),()) else some ((false,()),()) else some ((false,()),()) else some ((false,()),()) else some ((false,()),()) else some ((false,()),())) some r10
noncomputable def c28:Con:=⟨i28,o28,F28⟩
def i155:List Grp:= [⟨.agg,e109,[]⟩]
def o155:List Grp:= [⟨.agg,e109,m5⟩]
noncomputable def F155:(D109×Unit)→Option ((D109×Unit)):=fun x0=>(F87 ((x0.1.2.2.2.1,()),())).bind fun y1=>(F88 ((x0.1.2.2.2.2.2.2.2.2.2.2.1,(x0.1.2.2.2.2.2.2.2.2.2.2.2.1,(x0.1.2.2.2.2.2.2.2.2.2.2.2.2.1,()))),())).bind fun y2=>(F89 ((x0.1.2.2.2.2.2.2.2.2.2.2.2.2.2.1,(x0.1.2.2.2.2.2.2.2.2.2.2.2.2.2.2.1,(x0.1.2.2.2.2.2.2.2.2.2.2.2.2.2.2.2.1,()))),())).bind fun y3=>some ((x0.1.1,(x0.1.2.1,(x0.1.2.2.1,(y1.1.1,(x0.1.2.2.2.2.1,(x0.1.2.2.2.2.2.1,(x0.1.2.2.2.2.2.2.1,(x0.1.2.2.2.2.2.2.2.1,(x0.1.2.2.2.2.2.2.2.2.1,(x0.1.2.2.2.2.2.2.2.2.2.1,(y2.1.1,(y2.1.2.1,(y2.1.2.2.1,(y3.1.1,(y3.1.2.1,(y3.1.2.2.1,())))))))))))))))),())
noncomputable def c155:Con:=⟨i155,o155,F155⟩
def i100:List Grp:= [⟨.agg,e52,[]⟩,⟨.agg,e109,[]⟩]
def o100:List Grp:= [⟨.c,(.cons (.sl e109) .nil),[(.own m5)]⟩]
noncomputable def F100.b0 (x0:(D52×(D109×Unit))):(v1:(List (D109)×(Int×Unit)))→Option (Sum (List (D109)×(Int×Unit)) (Sum (List (D109)×(Int×Unit)) (((List D109×Unit)×Unit)))):=fun v1=>bif iLt v1.2.1 (List.length x0.1.2.2.2.2.1:Int) then (getI x0.1.2.2.2.2.1 v1.2.1).bind fun x2=>bif !sEq x2.1 x0.1.1 then (F155 (x0.2.1,())).bind fun y3=>(getI x0.1.2.2.2.2.1 v1.2.1).bind fun x4=>bif room (List.length v1.1+List.length ([(y3.1.1,(x4.1,(y3.1.2.2.1,(y3.1.2.2.2.1,(y3.1.2.2.2.2.1,(y3.1.2.2.2.2.2.1,(y3.1.2.2.2.2.2.2.1,(y3.1.2.2.2.2.2.2.2.1,(y3.1.2.2.2.2.2.2.2.2.1,(y3.1.2.2.2.2.2.2.2.2.2.1,(y3.1.2.2.2.2.2.2.2.2.2.2.1,(y3.1.2.2.2.2.2.2.2.2.2.2.2.1,(y3.1.2.2.2.2.2.2.2.2.2.2.2.2.1,(y3.1.2.2.2.2.2.2.2.2.2.2.2.2.2.1,(y3.1.2.2.2.2.2.2.2.2.2.2.2.2.2.2.1,(y3.1.2.2.2.2.2.2.2.2.2.2.2.2.2.2.2.1,()))))))))))))))))]:List (D109))) 216 then some (.inl (lapp v1.1 ([(y3.1.1,(x4.1,(y3.1.2.2.1,(y3.1.2.2.2.1,(y3.1.2.2.2.2.1,(y3.1.2.2.2.2.2.1,(y3.1.2.2.2.2.2.2.1,(y3.1.2.2.2.2.2.2.2.1,(y3.1.2.2.2.2.2.2.2.2.1,(y3.1.2.2.2.2.2.2.2.2.2.1,(y3.1.2.2.2.2.2.2.2.2.2.2.1,(y3.1.2.2.2.2.2.2.2.2.2.2.2.1,(y3.1.2.2.2.2.2.2.2.2.2.2.2.2.1,(y3.1.2.2.2.2.2.2.2.2.2.2.2.2.2.1,(y3.1.2.2.2.2.2.2.2.2.2.2.2.2.2.2.1,(y3.1.2.2.2.2.2.2.2.2.2.2.2.2.2.2.2.1,()))))))))))))))))]:List (D109)),(iAdd .i64 v1.2.1 (1:Int),()))) else none else some (.inl (v1.1,(iAdd .i64 v1.2.1 (1:Int),()))) else some (.inr (.inl (v1.1,(v1.2.1,()))))
noncomputable def F100:(D52×(D109×Unit))→Option (((List D109×Unit)×Unit)):=fun x0=>(loopF (F100.b0 x0) (([]:List (D109)),((0:Int),()))).bind fun r6=>Sum.elim (fun v5=>some ((v5.1,()),())) some r6
noncomputable def c100:Con:=⟨i100,o100,F100⟩
def i101:List Grp:= [⟨.c,(.cons (.int .i64) .nil),[]⟩,⟨.agg,e132,[]⟩]
def o101:List Grp:= [⟨.agg,e112,[]⟩]
noncomputable def F101:((Int×Unit)×(D132×Unit))→Option ((D112×Unit)):=fun x0=>some (((2:Int),(x0.1.1,(x0.2.1.1,(x0.2.1.2.1,(x0.2.1.2.2.1,()))))),())
noncomputable def c101:Con:=⟨i101,o101,F101⟩
def i192:List Grp:= [⟨.c,(.cons (.sl e154) .nil),[]⟩,⟨.agg,e29,[]⟩]
def o192:List Grp:= [⟨.c,(.cons (.int .i64) .nil),[]⟩]
noncomputable def F192:((List D154×Unit)×(D29×Unit))→Option (((Int×Unit)×Unit)):=fun x0=>(F151 (x0.1,((x0.2.1.2.1,()),()))).bind fun y1=>bif iLt y1.1.1 (0:Int) then some (((-1:Int),()),()) else (getI x0.1.1 y1.1.1).bind fun x2=>bif !iEq x2.2.2.1 x0.2.1.1 then some (((-1:Int),()),()) else (getI x0.1.1 y1.1.1).bind fun x3=>(F151 (x0.1,((x3.2.2.2.2.2.1,()),()))).bind fun y4=>bif iLt y4.1.1 (0:Int) then some (((-1:Int),()),()) else (getI x0.1.1 y4.1.1).bind fun x5=>bif !iEq x5.2.2.1 (iSub .i64 x0.2.1.1 (1:Int)) then some (((-1:Int),()),()) else (getI x0.1.1 y4.1.1).bind fun x6=>some ((x6.1,()),())
noncomputable def c192:Con:=⟨i192,o192,F192⟩
def i230:List Grp:= [⟨.c,(.cons (.sl e154) .nil),[]⟩,⟨.c,(.cons (.int .i64) .nil),[]⟩]
def o230:List Grp:= [⟨.c,(.cons (.sl e3) .nil),[(.own [])]⟩]
noncomputable def F230.b0 (x0:((List D154×Unit)×((Int×Unit)×Unit))):(v1:(Int×(List (D3)×Unit)))→Option (Sum (Int×(List (D3)×Unit)) (Sum (Int×(List (D3)×Unit)) (((List D3×Unit)×Unit)))):=fun v1=>bif iLe (0:Int) v1.1 then (F151 (x0.1,((v1.1,()),()))).bind fun y2=>bif iLt y2.1.1 (0:Int) then some (.inr (.inr ((([]:List (D3)),()),()))) else bif room (List.length ([y2.1]:List (D3))+List.length v1.2.1) 8 then (getI x0.1.1 y2.1.1).bind fun x3=>some (.inl (x3.2.2.2.2.2.1,(lapp ([y2.1]:List (D3)) v1.2.1,()))) else none else some (.inr (.inl (v1.1,(v1.2.1,()))))
noncomputable def F230:((List D154×Unit)×((Int×Unit)×Unit))→Option (((List D3×Unit)×Unit)):=fun x0=>(loopF (F230.b0 x0) (x0.2.1.1,(([]:List (D3)),()))).bind fun r5=>Sum.elim (fun v4=>some ((v4.2.1,()),())) some r5
noncomputable def c230:Con:=⟨i230,o230,F230⟩
def i211:List Grp:= [⟨.c,(.cons (.sl e154) .nil),[]⟩,⟨.c,(.cons (.int .i64) .nil),[]⟩]
def o211:List Grp:= [⟨.c,(.cons (.sl e154) .nil),[(.own m2)]⟩]
noncomputable def F211.b0 (y1:((List D3×Unit)×Unit)) (x0:((List D154×Unit)×((Int×Unit)×Unit))):(v2:(List (D154)×(Int×Unit)))→Option (Sum (List (D154)×(Int×Unit)) (Sum (List (D154)×(Int×Unit)) (((List D154×Unit)×Unit)))):=fun v2=>bif iLt v2.2.1 (List.length y1.1.1:Int) then (getI y1.1.1 v2.2.1).bind fun _=>(getN y1.1.1 (Int.toNat v2.2.1)).bind fun x3=>(getI x0.1.1 x3.1).bind fun x4=>(F145 (x4,())).bind fun y5=>bif room (List.length v2.1+List.length ([y5.1]:List (D154))) 208 then some (.inl (lapp v2.1 ([y5.1]:List (D154)),(iAdd .i64 v2.2.1 (1:Int),()))) else none else some (.inr (.inl (v2.1,(v2.2.1,()))))
noncomputable def F211:((List D154×Unit)×((Int×Unit)×Unit))→Option (((List D154×Unit)×Unit)):=fun x0=>(F230 (x0.1,(x0.2.1,()))).bind fun y1=>(loopF (F211.b0 y1 x0) (([]:List (D154)),((0:Int),()))).bind fun r7=>Sum.elim (fun v6=>some ((v6.1,()),())) some r7
noncomputable def c211:Con:=⟨i211,o211,F211⟩
def i232:List Grp:= [⟨.c,(.cons (.sl e207) .nil),[]⟩,⟨.c,(.cons .str .nil),[]⟩]
def o232:List Grp:= [⟨.c,(.cons (.int .i64) .nil),[]⟩]
noncomputable def F232.b0 (x0:((List D207×Unit)×((ByteArray×Unit)×Unit))):(v1:(Int×Unit))→Option (Sum (Int×Unit) (Sum (Int×Unit) (((Int×Unit)×Unit)))):=fun v1=>bif iLt v1.1 (List.length x0.1.1:Int) then (getI x0.1.1 v1.1).bind fun x2=>bif sEq x2.1 x0.2.1.1 then some (.inr (.inr ((v1.1,()),()))) else some (.inl (iAdd .i64 v1.1 (1:Int),())) else some (.inr (.inl (v1.1,())))
noncomputable def F232:((List D207×Unit)×((ByteArray×Unit)×Unit))→Option (((Int×Unit)×Unit)):=fun x0=>(loopF (F232.b0 x0) ((0:Int),())).bind fun r4=>Sum.elim (fun v3=>some (((-1:Int),()),())) some r4
noncomputable def c232:Con:=⟨i232,o232,F232⟩
def i281:List Grp:= [⟨.c,(.cons (.sl e207) .nil),[]⟩]
def o281:List Grp:= [⟨.c,(.cons (.sl e207) .nil),[(.own [])]⟩]
noncomputable def c281:Con:=⟨i281,o281,F144⟩
def i248:List Grp:= [⟨.c,(.cons (.sl e207) .nil),[]⟩,⟨.c,(.cons .str .nil),[]⟩]
def o248:List Grp:= [⟨.c,(.cons (.sl e207) .nil),[(.own [])]⟩]
noncomputable def F248.b0 (x0:((List D207×Unit)×((ByteArray×Unit)×Unit))):(v3:(Int×(List (D207)×Unit)))→Option (Sum (Int×(List (D207)×Unit)) (Sum (Int×(List (D207)×Unit)) (((List D207×Unit)×Unit)))):=fun v3=>bif iLt (0:Int) v3.1 then (getI v3.2.1 (iSub .i64 v3.1 (1:Int))).bind fun _=>(getN v3.2.1 (Int.toNat (iSub .i64 v3.1 (1:Int)))).bind fun x4=>bif !(sLt x4.1 x0.2.1.1||sEq x4.1 x0.2.1.1) then (getI v3.2.1 (iSub .i64 v3.1 (1:Int))).bind fun _=>(getN v3.2.1 (Int.toNat (iSub .i64 v3.1 (1:Int)))).bind fun x5=>(getI v3.2.1 v3.1).bind fun _=>(getN v3.2.1 (Int.toNat v3.1)).bind fun x6=>(some (List.set v3.2.1 (Int.toNat v3.1) (x5.1,(x5.2.1,(x5.2.2.1,(x5.2.2.2.1,(x5.2.2.2.2.1,()))))))).bind fun z7=>some (.inl (iSub .i64 v3.1 (1:Int),(z7,()))) else some (.inr (.inl (v3.1,(v3.2.1,())))) else some (.inr (.inl (v3.1,(v3.2.1,()))))
noncomputable def F248:((List D207×Unit)×((ByteArray×Unit)×Unit))→Option (((List D207×Unit)×Unit)):=fun x0=>(F144 (x0.1,())).bind fun y1=>(F232 (x0.1,(x0.2.1,()))).bind fun y2=>bif iLe (0:Int) y2.1.1 then some (y1.1,()) else bif room (List.length y1.1.1+List.length ([(⟨#[]⟩,((0:Int),((0:Int),((0:Int),([],())))))]:List (D207))) 64 then (loopF (F248.b0 x0) (iSub .i64 (List.length (lapp y1.1.1 ([(⟨#[]⟩,((0:Int),((0:Int),((0:Int),([],())))))]:List (D207))):Int) (1:Int),(lapp y1.1.1 ([(⟨#[]⟩,((0:Int),((0:Int),((0:Int),([],())))))]:List (D207)),()))).bind fun r9=>Sum.elim (fun v8=>(getI v8.2.1 v8.1).bind fun _=>(getN v8.2.1 (Int.toNat v8.1)).bind fun x10=>(some (List.set v8.2.1 (Int.toNat v8.1) (x0.2.1.1,((0:Int),((0:Int),((0:Int),([],()))))))).bind fun z11=>some ((z11,()),())) some r9 else none
noncomputable def c248:Con:=⟨i248,o248,F248⟩
def i249:List Grp:= [⟨.c,(.cons (.sl e229) .nil),[]⟩,⟨.c,(.cons (.int .i64) .nil),[]⟩,⟨.c,(.cons (.int .i64) .nil),[]⟩]
def o249:List Grp:= [⟨.c,(.cons (.sl e229) .nil),[(.own [])]⟩]
noncomputable def F249.b0 (x0:((List D229×Unit)×((Int×Unit)×((Int×Unit)×Unit)))):(v1:(List (D229)×(Bool×(Int×Unit))))→Option (Sum (List (D229)×(Bool×(Int×Unit))) (Sum (List (D229)×(Bool×(Int×Unit))) (((List D229×Unit)×Unit)))):=fun v1=>bif iLt v1.2.2.1 (List.length x0.1.1:Int) then (getI x0.1.1 v1.2.2.1).bind fun x2=>Option.bind (bif (!v1.2.1) then bif iEq x2.2.1 x0.2.2.1.1 then some (.inl (true,(iAdd .i64 x2.1 x0.2.1.1,()))) else some (.inl (v1.2.1,(x2.1,()))) else some (.inl (v1.2.1,(x2.1,())))) fun r4=>Sum.elim (fun v3=>Option.bind (bif (!v3.1) then bif iLt x0.2.2.1.1 x2.2.1 then bif room (List.length v1.1+List.length ([(x0.2.1.1,(x0.2.2.1.1,()))]:List (D229))) 16 then some (.inl (lapp v1.1 ([(x0.2.1.1,(x0.2.2.1.1,()))]:List (D229)),(true,()))) else none else some (.inl (v1.1,(v3.1,()))) else some (.inl (v1.1,(v3.1,())))) fun r6=>Sum.elim (fun v5=>bif room (List.length v5.1+List.length ([(v3.2.1,(x2.2.1,()))]:List (D229))) 16 then some (.inl (lapp v5.1 ([(v3.2.1,(x2.2.1,()))]:List (D229)),(v5.2.1,(iAdd .i64 v1.2.2.1 (1:Int),())))) else none) some r6) some r4 else some (.inr (.inl (v1.1,(v1.2.1,(v1.2.2.1,())))))
noncomputable def F249:((List D229×Unit)×((Int×Unit)×((Int×Unit)×Unit)))→Option (((List D229×Unit)×Unit)):=fun x0=>(loopF (F249.b0 x0) (([]:List (D229)),(false,((0:Int),())))).bind fun r8=>Sum.elim (fun v7=>Option.bind (bif (!v7.2.1) then bif room (List.length v7.1+List.length ([(x0.2.1.1,(x0.2.2.1.1,()))]:List (D229))) 16 then some (.inl (lapp v7.1 ([(x0.2.1.1,(x0.2.2.1.1,()))]:List (D229)),())) else none else some (.inl (v7.1,()))) fun r10=>Sum.elim (fun v9=>some ((v9.1,()),())) some r10) some r8
noncomputable def c249:Con:=⟨i249,o249,F249⟩
def i282:List Grp:= [⟨.agg,e42,[]⟩]
def o282:List Grp:= [⟨.agg,e42,[.sh,(.own [])]⟩]
noncomputable def c282:Con:=⟨i282,o282,F86⟩
def i244:List Grp:= [⟨.agg,e42,[]⟩,⟨.agg,e137,[]⟩,⟨.c,(.cons (.int .i64) .nil),[]⟩]
def o244:List Grp:= [⟨.agg,e42,[.sh,(.own [])]⟩]
noncomputable def F244:(D42×(D137×((Int×Unit)×Unit)))→Option ((D42×Unit)):=fun x0=>(F86 (x0.1,())).bind fun y1=>(getI y1.1.2.1 x0.2.2.1.1).bind fun _=>(getN y1.1.2.1 (Int.toNat x0.2.2.1.1)).bind fun x2=>(getN y1.1.2.1 (Int.toNat x0.2.2.1.1)).bind fun x3=>(some (List.set y1.1.2.1 (Int.toNat x0.2.2.1.1) (x3.1,(x3.2.1,(iAdd .i64 x2.2.2.1 (1:Int),x3.2.2.2))))).bind fun z4=>Option.bind (bif iEq x0.2.1.1 (1:Int) then (getN z4 (Int.toNat x0.2.2.1.1)).bind fun x5=>(getN z4 (Int.toNat x0.2.2.1.1)).bind fun x6=>(some (List.set z4 (Int.toNat x0.2.2.1.1) (x6.1,(iSub .i64 x5.2.1 x0.2.1.2.2.2.1,x6.2.2)))).bind fun z7=>(F248 ((z7,()),((x0.2.1.2.2.1,()),()))).bind fun y8=>(F232 (y8.1,((x0.2.1.2.2.1,()),()))).bind fun y9=>(getI y8.1.1 y9.1.1).bind fun _=>(getN y8.1.1 (Int.toNat y9.1.1)).bind fun x10=>(getI y8.1.1 y9.1.1).bind fun _=>(getN y8.1.1 (Int.toNat y9.1.1)).bind fun x11=>(some (List.set y8.1.1 (Int.toNat y9.1.1) (x11.1,(iAdd .i64 x10.2.1 x0.2.1.2.2.2.1,x11.2.2)))).bind fun z12=>some (.inl (z12,())) else bif iEq x0.2.1.1 (2:Int) then (getN z4 (Int.toNat x0.2.2.1.1)).bind fun x13=>(getN z4 (Int.toNat x0.2.2.1.1)).bind fun x14=>(some (List.set z4 (Int.toNat x0.2.2.1.1) (x14.1,(iSub .i64 x13.2.1 x0.2.1.2.2.2.1,x14.2.2)))).bind fun z15=>(getN z15 (Int.toNat x0.2.2.1.1)).bind fun x16=>(getN z15 (Int.toNat x0.2.2.1.1)).bind fun x17=>(some (List.set z15 (Int.toNat x0.2.2.1.1) (x17.1,(x17.2.1,(x17.2.2.1,(iAdd .i64 x16.2.2.2.1 x0.2.1.2.2.2.1,x17.2.2.2.2)))))).bind fun z18=>some (.inl (z18,())) else (getN z4 (Int.toNat x0.2.2.1.1)).bind fun x19=>(getN z4 (Int.toNat x0.2.2.1.1)).bind fun x20=>(some (List.set z4 (Int.toNat x0.2.2.1.1) (x20.1,(x20.2.1,(x20.2.2.1,(iSub .i64 x19.2.2.2.1 x0.2.1.2.2.2.1,x20.2.2.2.2)))))).bind fun z21=>(getN z21 (Int.toNat x0.2.2.1.1)).bind fun x22=>(F249 ((x22.2.2.2.2.1,()),((x0.2.1.2.2.2.1,()),((iAdd .i64 x0.1.1 (2:Int),()),())))).bind fun y23=>(getN z21 (Int.toNat x0.2.2.1.1)).bind fun x24=>(some (List.set z21 (Int.toNat x0.2.2.1.1) (x24.1,(x24.2.1,(x24.2.2.1,(x24.2.2.2.1,(y23.1.1,()))))))).bind fun z25=>some (.inl (z25,()))) fun r27=>Sum.elim (fun v26=>some ((y1.1.1,(v26.1,())),())) some r27
noncomputable def c244:Con:=⟨i244,o244,F244⟩
def i231:List Grp:= [⟨.agg,e42,[]⟩,⟨.agg,e137,[]⟩]
def o231:List Grp:= [⟨.agg,e42,[]⟩,⟨.c,(.cons (.int .i64) .nil),[]⟩]
noncomputable def F231:(D42×(D137×Unit))→Option ((D42×((Int×Unit)×Unit))):=fun x0=>(F86 (x0.1,())).bind fun y1=>(F92 (x0.1,())).bind fun y2=>bif (!y2.1.1) then some (y1.1,(((1:Int),()),())) else (F147 (x0.2.1,())).bind fun y3=>bif (!y3.1.1) then some (y1.1,(((1:Int),()),())) else (F232 ((x0.1.2.1,()),((x0.2.1.2.1,()),()))).bind fun y4=>bif iLt y4.1.1 (0:Int) then some (y1.1,(((2:Int),()),())) else (getI x0.1.2.1 y4.1.1).bind fun x5=>Option.bind (bif iEq x0.2.1.1 (3:Int) then some (.inl (x5.2.2.2.1,())) else some (.inl (x5.2.1,()))) fun r7=>Sum.elim (fun v6=>bif !iEq x5.2.2.1 x0.2.1.2.2.2.2.1 then some (y1.1,(((3:Int),()),())) else bif iLt v6.1 x0.2.1.2.2.2.1 then some (y1.1,(((4:Int),()),())) else (F244 (x0.1,(x0.2.1,(y4.1,())))).bind fun y8=>(F92 (y8.1,())).bind fun y9=>bif (!y9.1.1) then some (y1.1,(((5:Int),()),())) else some (y8.1,(((0:Int),()),()))) some r7
noncomputable def c231:Con:=⟨i231,o231,F231⟩
def i212:List Grp:= [⟨.agg,e42,[]⟩,⟨.c,(.cons (.sl e169) .nil),[]⟩]
def o212:List Grp:= [⟨.agg,e42,[]⟩,⟨.c,(.cons (.int .i64) .nil),[]⟩]
noncomputable def F212.b0 (x0:(D42×((List D169×Unit)×Unit))):(v2:(Int×(Int×(Int×(List (D207)×Unit)))))→Option (Sum (Int×(Int×(Int×(List (D207)×Unit)))) (Sum (Int×(Int×(Int×(List (D207)×Unit)))) ((D42×((Int×Unit)×Unit))))):=fun v2=>bif iLt v2.2.1 (List.length x0.2.1.1:Int) then (getI x0.2.1.1 v2.2.1).bind fun x3=>(F231 ((v2.2.2.1,(v2.2.2.2.1,())),(x3,()))).bind fun y4=>bif iEq y4.2.1.1 (0:Int) then some (.inl (iAdd .i64 v2.1 (1:Int),(iAdd .i64 v2.2.1 (1:Int),(y4.1.1,(y4.1.2.1,()))))) else some (.inl (v2.1,(iAdd .i64 v2.2.1 (1:Int),(v2.2.2.1,(v2.2.2.2.1,()))))) else some (.inr (.inl (v2.1,(v2.2.1,(v2.2.2.1,(v2.2.2.2.1,()))))))
noncomputable def F212:(D42×((List D169×Unit)×Unit))→Option ((D42×((Int×Unit)×Unit))):=fun x0=>(F86 (x0.1,())).bind fun y1=>(loopF (F212.b0 x0) ((0:Int),((0:Int),(y1.1.1,(y1.1.2.1,()))))).bind fun r6=>Sum.elim (fun v5=>some ((v5.2.2.1,(v5.2.2.2.1,())),((v5.1,()),()))) some r6
noncomputable def c212:Con:=⟨i212,o212,F212⟩
def i213:List Grp:= [⟨.c,(.cons (.sl e3) .nil),[]⟩,⟨.c,(.cons (.int .i64) .nil),[]⟩]
def o213:List Grp:= [⟨.c,(.cons .bool .nil),[]⟩]
noncomputable def F213.b0 (x0:((List D3×Unit)×((Int×Unit)×Unit))):(v1:(Int×Unit))→Option (Sum (Int×Unit) (Sum (Int×Unit) (((Bool×Unit)×Unit)))):=fun v1=>bif iLt v1.1 (List.length x0.1.1:Int) then (getI x0.1.1 v1.1).bind fun x2=>bif iEq x2.1 x0.2.1.1 then some (.inr (.inr ((true,()),()))) else some (.inl (iAdd .i64 v1.1 (1:Int),())) else some (.inr (.inl (v1.1,())))
noncomputable def F213:((List D3×Unit)×((Int×Unit)×Unit))→Option (((Bool×Unit)×Unit)):=fun x0=>(loopF (F213.b0 x0) ((0:Int),())).bind fun r4=>Sum.elim (fun v3=>some ((false,()),())) some r4
noncomputable def c213:Con:=⟨i213,o213,F213⟩
def i214:List Grp:= [⟨.agg,e42,[]⟩]
def o214:List Grp:= [⟨.agg,e42,[.sh,(.own [])]⟩]
noncomputable def F214.b1 (v3:(Int×(List (D207)×Unit))) (x0:(D42×Unit)):(v4:(List (D229)×(Int×(List (D207)×Unit))))→Option (Sum (List (D229)×(Int×(List (D207)×Unit))) (Sum (List (D229)×(Int×(List (D207)×Unit))) (Sum (Int×(List (D207)×Unit)) (Sum (Int×(List (D207)×Unit)) ((D42×Unit)))))):=fun v4=>(getN v4.2.2.1 (Int.toNat v3.1)).bind fun x5=>bif iLt v4.2.1 (List.length x5.2.2.2.2.1:Int) then (getN v4.2.2.1 (Int.toNat v3.1)).bind fun x6=>(getI x6.2.2.2.2.1 v4.2.1).bind fun x7=>bif iLe x7.2.1 (iAdd .i64 x0.1.1 (1:Int)) then (getN v4.2.2.1 (Int.toNat v3.1)).bind fun x8=>(getN v4.2.2.1 (Int.toNat v3.1)).bind fun x9=>(getI x9.2.2.2.2.1 v4.2.1).bind fun x10=>(getN v4.2.2.1 (Int.toNat v3.1)).bind fun x11=>(some (List.set v4.2.2.1 (Int.toNat v3.1) (x11.1,(iAdd .i64 x8.2.1 x10.1,x11.2.2)))).bind fun z12=>some (.inl (v4.1,(iAdd .i64 v4.2.1 (1:Int),(z12,())))) else (getN v4.2.2.1 (Int.toNat v3.1)).bind fun x13=>(getI x13.2.2.2.2.1 v4.2.1).bind fun x14=>bif room (List.length v4.1+List.length ([x14]:List (D229))) 16 then some (.inl (lapp v4.1 ([x14]:List (D229)),(iAdd .i64 v4.2.1 (1:Int),(v4.2.2.1,())))) else none else some (.inr (.inl (v4.1,(v4.2.1,(v4.2.2.1,())))))
noncomputable def F214.b0 (x0:(D42×Unit)):(v3:(Int×(List (D207)×Unit)))→Option (Sum (Int×(List (D207)×Unit)) (Sum (Int×(List (D207)×Unit)) ((D42×Unit)))):=fun v3=>bif iLt v3.1 (List.length v3.2.1:Int) then (getI v3.2.1 v3.1).bind fun _=>(loopF (F214.b1 v3 x0) (([]:List (D229)),((0:Int),(v3.2.1,())))).bind fun r16=>Sum.elim (fun v15=>(getN v15.2.2.1 (Int.toNat v3.1)).bind fun x17=>(some (List.set v15.2.2.1 (Int.toNat v3.1) (x17.1,(x17.2.1,(x17.2.2.1,(x17.2.2.2.1,(v15.1,()))))))).bind fun z18=>some (.inl (iAdd .i64 v3.1 (1:Int),(z18,())))) some r16 else some (.inr (.inl (v3.1,(v3.2.1,()))))
noncomputable def F214:(D42×Unit)→Option ((D42×Unit)):=fun x0=>(F86 (x0.1,())).bind fun y1=>(F92 (x0.1,())).bind fun y2=>bif (!y2.1.1) then some (y1.1,()) else (loopF (F214.b0 x0) ((0:Int),(y1.1.2.1,()))).bind fun r20=>Sum.elim (fun v19=>(F92 ((iAdd .i64 x0.1.1 (1:Int),(v19.2.1,())),())).bind fun y21=>bif (!y21.1.1) then (F86 (x0.1,())).bind fun y22=>some (y22.1,()) else some ((iAdd .i64 x0.1.1 (1:Int),(v19.2.1,())),())) some r20
noncomputable def c214:Con:=⟨i214,o214,F214⟩
def i215:List Grp:= [⟨.c,(.cons (.sl e169) .nil),[]⟩,⟨.agg,e42,[]⟩]
def o215:List Grp:= [⟨.c,(.cons (.sl e169) .nil),[(.own [])]⟩]
noncomputable def F215.b0 (x0:((List D169×Unit)×(D42×Unit))):(v1:(List (D169)×(Int×Unit)))→Option (Sum (List (D169)×(Int×Unit)) (Sum (List (D169)×(Int×Unit)) (((List D169×Unit)×Unit)))):=fun v1=>bif iLt v1.2.1 (List.length x0.1.1:Int) then (getI x0.1.1 v1.2.1).bind fun x2=>(F232 ((x0.2.1.2.1,()),((x2.2.1,()),()))).bind fun y3=>bif iLe (0:Int) y3.1.1 then (getI x0.1.1 v1.2.1).bind fun x4=>(getI x0.2.1.2.1 y3.1.1).bind fun x5=>bif iLe x5.2.2.1 x4.2.2.2.2.1 then (getI x0.1.1 v1.2.1).bind fun x6=>bif room (List.length v1.1+List.length ([x6]:List (D169))) 56 then some (.inl (lapp v1.1 ([x6]:List (D169)),(iAdd .i64 v1.2.1 (1:Int),()))) else none else some (.inl (v1.1,(iAdd .i64 v1.2.1 (1:Int),()))) else some (.inl (v1.1,(iAdd .i64 v1.2.1 (1:Int),()))) else some (.inr (.inl (v1.1,(v1.2.1,()))))
noncomputable def F215:((List D169×Unit)×(D42×Unit))→Option (((List D169×Unit)×Unit)):=fun x0=>(loopF (F215.b0 x0) (([]:List (D169)),((0:Int),()))).bind fun r8=>Sum.elim (fun v7=>some ((v7.1,()),())) some r8
noncomputable def c215:Con:=⟨i215,o215,F215⟩
def i193:List Grp:= [⟨.io,e52,m6⟩,⟨.c,(.cons (.int .i64) .nil),[]⟩,⟨.agg,e29,[]⟩]
def o193:List Grp:= [⟨.io,e52,m6⟩]
noncomputable def F193.b0 (x0:(D52×((Int×Unit)×(D29×Unit)))):(v3:(Int×(List (D154)×(Int×(List (D207)×(List (D3)×Unit))))))→Option (Sum (Int×(List (D154)×(Int×(List (D207)×(List (D3)×Unit))))) (Sum (Int×(List (D154)×(Int×(List (D207)×(List (D3)×Unit))))) ((D52×Unit)))):=fun v3=>bif iLt v3.1 (List.length v3.2.1:Int) then (getI v3.2.1 v3.1).bind fun x4=>(F212 ((v3.2.2.1,(v3.2.2.2.1,())),((x4.2.2.2.2.2.2.2.2.2.2.1,()),()))).bind fun y5=>Option.bind ((getI v3.2.1 v3.1).bind fun x6=>(F213 ((v3.2.2.2.2.1,()),((x6.1,()),()))).bind fun y7=>bif (!y7.1.1) then (getI v3.2.1 v3.1).bind fun x8=>bif room (List.length v3.2.2.2.2.1+List.length ([(x8.1,())]:List (D3))) 8 then some (.inl (lapp v3.2.2.2.2.1 ([(x8.1,())]:List (D3)),())) else none else some (.inl (v3.2.2.2.2.1,()))) fun r10=>Sum.elim (fun v9=>(getI v3.2.1 v3.1).bind fun x11=>bif x11.2.2.2.2.2.2.2.2.2.2.2.1 then (F211 ((x0.1.2.2.2.2.2.1,()),((x0.2.2.1.2.1,()),()))).bind fun y12=>(F88 (x0.2.2.1,())).bind fun y13=>bif room (List.length x0.1.2.2.2.2.2.2.2.2.2.2.2.2.2.2.2.2.2.2.2.1+List.length ([(x0.1.2.1,(y12.1.1,(y13.1.1,(y13.1.2.1,(y13.1.2.2.1,())))))]:List (D146))) 72 then (F214 (y5.1,())).bind fun y14=>(F215 ((x0.1.2.2.2.2.2.2.2.2.2.2.2.2.2.2.2.2.2.2.1,()),(y14.1,()))).bind fun y15=>(getI v3.2.1 v3.1).bind fun x16=>bif room (List.length ([]:List (D163))+List.length x16.2.2.2.2.2.2.2.2.2.2.2.2.1) 24 then some (.inr (.inr ((x0.1.1,(y14.1.1,(y14.1.1,(y14.1.2.1,(lapp ([]:List (D163)) x16.2.2.2.2.2.2.2.2.2.2.2.2.1,(([]:List (D154)),((1:Int),((0:Int),((0:Int),((-1:Int),([],((0:Int),([],([],((0:Int),(([]:List (D105)),(([]:List (D107)),(v9.1,(y15.1.1,(lapp x0.1.2.2.2.2.2.2.2.2.2.2.2.2.2.2.2.2.2.2.2.1 ([(x0.1.2.1,(y12.1.1,(y13.1.1,(y13.1.2.1,(y13.1.2.2.1,())))))]:List (D146)),())))))))))))))))))))),()))) else none else none else some (.inl (iAdd .i64 v3.1 (1:Int),(v3.2.1,(y5.1.1,(y5.1.2.1,(v9.1,()))))))) some r10 else some (.inr (.inl (v3.1,(v3.2.1,(v3.2.2.1,(v3.2.2.2.1,(v3.2.2.2.2.1,())))))))
noncomputable def F193:(D52×((Int×Unit)×(D29×Unit)))→Option ((D52×Unit)):=fun x0=>(F211 ((x0.1.2.2.2.2.2.1,()),(x0.2.1,()))).bind fun y1=>(F86 ((x0.1.2.2.1,(x0.1.2.2.2.1,())),())).bind fun y2=>(loopF (F193.b0 x0) ((0:Int),(y1.1.1,(y2.1.1,(y2.1.2.1,(x0.1.2.2.2.2.2.2.2.2.2.2.2.2.2.2.2.2.2.1,())))))).bind fun r18=>Sum.elim (fun v17=>(F215 ((x0.1.2.2.2.2.2.2.2.2.2.2.2.2.2.2.2.2.2.2.1,()),((v17.2.2.1,(v17.2.2.2.1,())),()))).bind fun y19=>some ((x0.1.1,(x0.1.2.1,(x0.1.2.2.1,(x0.1.2.2.2.1,(x0.1.2.2.2.2.1,(x0.1.2.2.2.2.2.1,(x0.1.2.2.2.2.2.2.1,(x0.1.2.2.2.2.2.2.2.1,(x0.1.2.2.2.2.2.2.2.2.1,(x0.1.2.2.2.2.2.2.2.2.2.1,(x0.1.2.2.2.2.2.2.2.2.2.2.1,(x0.1.2.2.2.2.2.2.2.2.2.2.2.1,(x0.1.2.2.2.2.2.2.2.2.2.2.2.2.1,(x0.1.2.2.2.2.2.2.2.2.2.2.2.2.2.1,(x0.1.2.2.2.2.2.2.2.2.2.2.2.2.2.2.1,(x0.1.2.2.2.2.2.2.2.2.2.2.2.2.2.2.2.1,(x0.1.2.2.2.2.2.2.2.2.2.2.2.2.2.2.2.2.1,(v17.2.2.2.2.1,(y19.1.1,(x0.1.2.2.2.2.2.2.2.2.2.2.2.2.2.2.2.2.2.2.2.1,())))))))))))))))))))),())) some r18
noncomputable def c193:Con:=⟨i193,o193,F193⟩
def i156:List Grp:= [⟨.io,e52,m6⟩,⟨.agg,e29,[]⟩]
def o156:List Grp:= [⟨.io,e52,m6⟩]
noncomputable def F156:(D52×(D29×Unit))→Option ((D52×Unit)):=fun x0=>Option.bind (bif iLt x0.1.2.2.2.2.2.2.2.2.1 x0.2.1.1 then (F88 (x0.2.1,())).bind fun y1=>some (.inl (y1.1.1,(y1.1.2.1,(y1.1.2.2.1,())))) else some (.inl (x0.1.2.2.2.2.2.2.2.2.1,(x0.1.2.2.2.2.2.2.2.2.2.1,(x0.1.2.2.2.2.2.2.2.2.2.2.1,()))))) fun r3=>Sum.elim (fun v2=>Option.bind (bif iLt x0.1.2.2.2.2.2.2.1 (iAdd .i64 x0.2.1.1 (1:Int)) then some (.inl (iAdd .i64 x0.2.1.1 (1:Int),())) else some (.inl (x0.1.2.2.2.2.2.2.1,()))) fun r5=>Sum.elim (fun v4=>(F192 ((x0.1.2.2.2.2.2.1,()),(x0.2.1,()))).bind fun y6=>bif iLe (0:Int) y6.1.1 then (F193 ((x0.1.1,(x0.1.2.1,(x0.1.2.2.1,(x0.1.2.2.2.1,(x0.1.2.2.2.2.1,(x0.1.2.2.2.2.2.1,(v4.1,(x0.1.2.2.2.2.2.2.2.1,(v2.1,(v2.2.1,(v2.2.2.1,(x0.1.2.2.2.2.2.2.2.2.2.2.2.1,(x0.1.2.2.2.2.2.2.2.2.2.2.2.2.1,(x0.1.2.2.2.2.2.2.2.2.2.2.2.2.2.1,(x0.1.2.2.2.2.2.2.2.2.2.2.2.2.2.2.1,(x0.1.2.2.2.2.2.2.2.2.2.2.2.2.2.2.2.1,(x0.1.2.2.2.2.2.2.2.2.2.2.2.2.2.2.2.2.1,(x0.1.2.2.2.2.2.2.2.2.2.2.2.2.2.2.2.2.2.1,(x0.1.2.2.2.2.2.2.2.2.2.2.2.2.2.2.2.2.2.2.1,(x0.1.2.2.2.2.2.2.2.2.2.2.2.2.2.2.2.2.2.2.2.1,())))))))))))))))))))),(y6.1,(x0.2.1,())))).bind fun y7=>some (y7.1,()) else some ((x0.1.1,(x0.1.2.1,(x0.1.2.2.1,(x0.1.2.2.2.1,(x0.1.2.2.2.2.1,(x0.1.2.2.2.2.2.1,(v4.1,(x0.1.2.2.2.2.2.2.2.1,(v2.1,(v2.2.1,(v2.2.2.1,(x0.1.2.2.2.2.2.2.2.2.2.2.2.1,(x0.1.2.2.2.2.2.2.2.2.2.2.2.2.1,(x0.1.2.2.2.2.2.2.2.2.2.2.2.2.2.1,(x0.1.2.2.2.2.2.2.2.2.2.2.2.2.2.2.1,(x0.1.2.2.2.2.2.2.2.2.2.2.2.2.2.2.2.1,(x0.1.2.2.2.2.2.2.2.2.2.2.2.2.2.2.2.2.1,(x0.1.2.2.2.2.2.2.2.2.2.2.2.2.2.2.2.2.2.1,(x0.1.2.2.2.2.2.2.2.2.2.2.2.2.2.2.2.2.2.2.1,(x0.1.2.2.2.2.2.2.2.2.2.2.2.2.2.2.2.2.2.2.2.1,())))))))))))))))))))),())) some r5) some r3
noncomputable def c156:Con:=⟨i156,o156,F156⟩
def i157:List Grp:= [⟨.c,(.cons (.sl e163) .nil),[]⟩,⟨.c,(.cons (.sl e107) .nil),[]⟩,⟨.c,(.cons (.int .i64) .nil),[]⟩]
def o157:List Grp:= [⟨.agg,e32,m1⟩,⟨.c,(.cons .bool .nil),[]⟩]
noncomputable def F157.b1 (x0:((List D163×Unit)×((List D107×Unit)×((Int×Unit)×Unit)))) (v1:(Int×(List (D9)×(List (D3)×Unit)))):(v2:(Int×(Int×Unit)))→Option (Sum (Int×(Int×Unit)) (Sum (Int×(Int×Unit)) (Sum (Int×(List (D9)×(List (D3)×Unit))) (Sum (Int×(List (D9)×(List (D3)×Unit))) ((D32×((Bool×Unit)×Unit))))))):=fun v2=>bif iLt v2.2.1 (List.length x0.2.1.1:Int) then (getI x0.2.1.1 v2.2.1).bind fun x3=>bif iEq x3.1 x0.2.2.1.1 then (getI x0.2.1.1 v2.2.1).bind fun x4=>(getI x0.1.1 v1.1).bind fun x5=>bif sEq x4.2.2.1 x5.1 then (getI x0.2.1.1 v2.2.1).bind fun x6=>bif iLt v2.1 x6.2.1 then (getI x0.2.1.1 v2.2.1).bind fun x7=>some (.inl (x7.2.1,(iAdd .i64 v2.2.1 (1:Int),()))) else some (.inl (v2.1,(iAdd .i64 v2.2.1 (1:Int),()))) else some (.inl (v2.1,(iAdd .i64 v2.2.1 (1:Int),()))) else some (.inl (v2.1,(iAdd .i64 v2.2.1 (1:Int),()))) else some (.inr (.inl (v2.1,(v2.2.1,()))))
noncomputable def F157.b0 (x0:((List D163×Unit)×((List D107×Unit)×((Int×Unit)×Unit)))):(v1:(Int×(List (D9)×(List (D3)×Unit))))→Option (Sum (Int×(List (D9)×(List (D3)×Unit))) (Sum (Int×(List (D9)×(List (D3)×Unit))) ((D32×((Bool×Unit)×Unit))))):=fun v1=>bif iLt v1.1 (List.length x0.1.1:Int) then (loopF (F157.b1 x0 v1) ((-1:Int),((0:Int),()))).bind fun r9=>Sum.elim (fun v8=>bif iLe (0:Int) v8.1 then (getI x0.1.1 v1.1).bind fun x10=>bif room (List.length v1.2.1+List.length ([(x10.1,())]:List (D9))) 16 then bif room (List.length v1.2.2.1+List.length ([(v8.1,())]:List (D3))) 8 then some (.inl (iAdd .i64 v1.1 (1:Int),(lapp v1.2.1 ([(x10.1,())]:List (D9)),(lapp v1.2.2.1 ([(v8.1,())]:List (D3)),())))) else none else none else some (.inl (iAdd .i64 v1.1 (1:Int),(v1.2.1,(v1.2.2.1,()))))) some r9 else some (.inr (.inl (v1.1,(v1.2.1,(v1.2.2.1,())))))
noncomputable def F157:((List D163×Unit)×((List D107×Unit)×((Int×Unit)×Unit)))→Option ((D32×((Bool×Unit)×Unit))):=fun x0=>(loopF (F157.b0 x0) ((0:Int),([],([],())))).bind fun r12=>Sum.elim (fun v11=>(F98 (x0.1,((x0.2.2.1.1,(v11.2.1,(v11.2.2.1,()))),()))).bind fun y13=>bif (!y13.1.1) then some (((0:Int),([],([],()))),((false,()),())) else (F154 ((x0.2.2.1.1,(v11.2.1,(v11.2.2.1,()))),())).bind fun y14=>bif y14.1.1 then some (((0:Int),([],([],()))),((false,()),())) else some ((x0.2.2.1.1,(v11.2.1,(v11.2.2.1,()))),((true,()),()))) some r12
noncomputable def c157:Con:=⟨i157,o157,F157⟩
def i158:List Grp:= [⟨.io,e52,m6⟩,⟨.agg,e32,[]⟩]
def o158:List Grp:= [⟨.io,e52,m6⟩]
noncomputable def F158:(D52×(D32×Unit))→Option ((D52×Unit)):=fun x0=>Option.bind (bif iLt x0.1.2.2.2.2.2.2.2.2.2.2.2.1 x0.2.1.1 then (F89 (x0.2.1,())).bind fun y1=>some (.inl (y1.1.1,(y1.1.2.1,(y1.1.2.2.1,())))) else some (.inl (x0.1.2.2.2.2.2.2.2.2.2.2.2.1,(x0.1.2.2.2.2.2.2.2.2.2.2.2.2.1,(x0.1.2.2.2.2.2.2.2.2.2.2.2.2.2.1,()))))) fun r3=>Sum.elim (fun v2=>bif iLt x0.1.2.2.2.2.2.2.1 (iAdd .i64 x0.2.1.1 (1:Int)) then some ((x0.1.1,(x0.1.2.1,(x0.1.2.2.1,(x0.1.2.2.2.1,(x0.1.2.2.2.2.1,(x0.1.2.2.2.2.2.1,(iAdd .i64 x0.2.1.1 (1:Int),(x0.1.2.2.2.2.2.2.2.1,(x0.1.2.2.2.2.2.2.2.2.1,(x0.1.2.2.2.2.2.2.2.2.2.1,(x0.1.2.2.2.2.2.2.2.2.2.2.1,(v2.1,(v2.2.1,(v2.2.2.1,(x0.1.2.2.2.2.2.2.2.2.2.2.2.2.2.2.1,(x0.1.2.2.2.2.2.2.2.2.2.2.2.2.2.2.2.1,(x0.1.2.2.2.2.2.2.2.2.2.2.2.2.2.2.2.2.1,(x0.1.2.2.2.2.2.2.2.2.2.2.2.2.2.2.2.2.2.1,(x0.1.2.2.2.2.2.2.2.2.2.2.2.2.2.2.2.2.2.2.1,(x0.1.2.2.2.2.2.2.2.2.2.2.2.2.2.2.2.2.2.2.2.1,())))))))))))))))))))),()) else some ((x0.1.1,(x0.1.2.1,(x0.1.2.2.1,(x0.1.2.2.2.1,(x0.1.2.2.2.2.1,(x0.1.2.2.2.2.2.1,(x0.1.2.2.2.2.2.2.1,(x0.1.2.2.2.2.2.2.2.1,(x0.1.2.2.2.2.2.2.2.2.1,(x0.1.2.2.2.2.2.2.2.2.2.1,(x0.1.2.2.2.2.2.2.2.2.2.2.1,(v2.1,(v2.2.1,(v2.2.2.1,(x0.1.2.2.2.2.2.2.2.2.2.2.2.2.2.2.1,(x0.1.2.2.2.2.2.2.2.2.2.2.2.2.2.2.2.1,(x0.1.2.2.2.2.2.2.2.2.2.2.2.2.2.2.2.2.1,(x0.1.2.2.2.2.2.2.2.2.2.2.2.2.2.2.2.2.2.1,(x0.1.2.2.2.2.2.2.2.2.2.2.2.2.2.2.2.2.2.2.1,(x0.1.2.2.2.2.2.2.2.2.2.2.2.2.2.2.2.2.2.2.2.1,())))))))))))))))))))),())) some r3
noncomputable def c158:Con:=⟨i158,o158,F158⟩
def i102:List Grp:= [⟨.io,e52,m6⟩,⟨.agg,e132,[]⟩,⟨.agg,e29,[]⟩]
def o102:List Grp:= [⟨.io,e52,m6⟩]
noncomputable def F102.b0 (y3:(D52×Unit)) (x0:(D52×(D132×(D29×Unit)))):(v4:(Bool×(Int×Unit)))→Option (Sum (Bool×(Int×Unit)) (Sum (Bool×(Int×Unit)) ((D52×Unit)))):=fun v4=>bif iLt v4.2.1 (List.length y3.1.2.2.2.2.2.2.2.2.2.2.2.2.2.2.2.2.1:Int) then bif v4.1 then some (.inl (true,(iAdd .i64 v4.2.1 (1:Int),()))) else (getI y3.1.2.2.2.2.2.2.2.2.2.2.2.2.2.2.2.2.1 v4.2.1).bind fun _=>(getN y3.1.2.2.2.2.2.2.2.2.2.2.2.2.2.2.2.2.1 (Int.toNat v4.2.1)).bind fun x5=>some (.inl ((iEq x5.1 x0.2.1.1)&&((iEq x5.2.1 x0.2.1.2.1)&&(sEq x5.2.2.1 x0.2.1.2.2.1)),(iAdd .i64 v4.2.1 (1:Int),()))) else some (.inr (.inl (v4.1,(v4.2.1,()))))
noncomputable def F102:(D52×(D132×(D29×Unit)))→Option ((D52×Unit)):=fun x0=>(F99 ((x0.1.2.2.2.2.1,()),((x0.2.1.2.2.1,()),()))).bind fun y1=>bif (!y1.1.1) then some (x0.1,()) else (F97 ((x0.1.2.2.2.2.1,()),(x0.2.2.1,()))).bind fun y2=>bif (!y2.1.1) then some (x0.1,()) else (F156 (x0.1,(x0.2.2.1,()))).bind fun y3=>bif !iEq y3.1.2.1 x0.1.2.1 then some (y3.1,()) else (loopF (F102.b0 y3 x0) (false,((0:Int),()))).bind fun r7=>Sum.elim (fun v6=>Option.bind (bif (!v6.1) then bif iLt (List.length y3.1.2.2.2.2.2.2.2.2.2.2.2.2.2.2.2.2.1:Int) (1000:Int) then bif room (List.length y3.1.2.2.2.2.2.2.2.2.2.2.2.2.2.2.2.2.1+List.length ([x0.2.1]:List (D107))) 32 then some (.inl (lapp y3.1.2.2.2.2.2.2.2.2.2.2.2.2.2.2.2.2.1 ([x0.2.1]:List (D107)),())) else none else some (.inl (y3.1.2.2.2.2.2.2.2.2.2.2.2.2.2.2.2.2.1,())) else some (.inl (y3.1.2.2.2.2.2.2.2.2.2.2.2.2.2.2.2.2.1,()))) fun r9=>Sum.elim (fun v8=>(F157 ((y3.1.2.2.2.2.1,()),((v8.1,()),((x0.2.1.1,()),())))).bind fun y10=>bif y10.2.1.1 then (F158 ((y3.1.1,(y3.1.2.1,(y3.1.2.2.1,(y3.1.2.2.2.1,(y3.1.2.2.2.2.1,(y3.1.2.2.2.2.2.1,(y3.1.2.2.2.2.2.2.1,(y3.1.2.2.2.2.2.2.2.1,(y3.1.2.2.2.2.2.2.2.2.1,(y3.1.2.2.2.2.2.2.2.2.2.1,(y3.1.2.2.2.2.2.2.2.2.2.2.1,(y3.1.2.2.2.2.2.2.2.2.2.2.2.1,(y3.1.2.2.2.2.2.2.2.2.2.2.2.2.1,(y3.1.2.2.2.2.2.2.2.2.2.2.2.2.2.1,(y3.1.2.2.2.2.2.2.2.2.2.2.2.2.2.2.1,(y3.1.2.2.2.2.2.2.2.2.2.2.2.2.2.2.2.1,(v8.1,(y3.1.2.2.2.2.2.2.2.2.2.2.2.2.2.2.2.2.2.1,(y3.1.2.2.2.2.2.2.2.2.2.2.2.2.2.2.2.2.2.2.1,(y3.1.2.2.2.2.2.2.2.2.2.2.2.2.2.2.2.2.2.2.2.1,())))))))))))))))))))),(y10.1,()))).bind fun y11=>some (y11.1,()) else some ((y3.1.1,(y3.1.2.1,(y3.1.2.2.1,(y3.1.2.2.2.1,(y3.1.2.2.2.2.1,(y3.1.2.2.2.2.2.1,(y3.1.2.2.2.2.2.2.1,(y3.1.2.2.2.2.2.2.2.1,(y3.1.2.2.2.2.2.2.2.2.1,(y3.1.2.2.2.2.2.2.2.2.2.1,(y3.1.2.2.2.2.2.2.2.2.2.2.1,(y3.1.2.2.2.2.2.2.2.2.2.2.2.1,(y3.1.2.2.2.2.2.2.2.2.2.2.2.2.1,(y3.1.2.2.2.2.2.2.2.2.2.2.2.2.2.1,(y3.1.2.2.2.2.2.2.2.2.2.2.2.2.2.2.1,(y3.1.2.2.2.2.2.2.2.2.2.2.2.2.2.2.2.1,(v8.1,(y3.1.2.2.2.2.2.2.2.2.2.2.2.2.2.2.2.2.2.1,(y3.1.2.2.2.2.2.2.2.2.2.2.2.2.2.2.2.2.2.2.1,(y3.1.2.2.2.2.2.2.2.2.2.2.2.2.2.2.2.2.2.2.2.1,())))))))))))))))))))),())) some r9) some r7
noncomputable def c102:Con:=⟨i102,o102,F102⟩
def i29:List Grp:= [⟨.io,e52,m6⟩]
def o29:List Grp:= [⟨.c,(.cons (.sl e109) .nil),[(.own m5)]⟩,⟨.c,(.cons (.sl e112) .nil),[(.own [])]⟩,⟨.io,e52,m6⟩]
noncomputable def F29:(D52×Unit)→Option (((List D109×Unit)×((List D112×Unit)×(D52×Unit)))):=fun x0=>(F99 ((x0.1.2.2.2.2.1,()),((x0.1.1,()),()))).bind fun y1=>bif (!y1.1.1) then some ((([]:List (D109)),()),((([]:List (D112)),()),(x0.1,()))) else bif iLt x0.1.2.2.2.2.2.2.1 x0.1.2.2.2.2.2.2.2.1 then some ((([]:List (D109)),()),((([]:List (D112)),()),(x0.1,()))) else (F88 ((x0.1.2.2.2.2.2.2.2.2.1,(x0.1.2.2.2.2.2.2.2.2.2.1,(x0.1.2.2.2.2.2.2.2.2.2.2.1,()))),())).bind fun y2=>(F100 ((x0.1.1,(x0.1.2.1,(x0.1.2.2.1,(x0.1.2.2.2.1,(x0.1.2.2.2.2.1,(x0.1.2.2.2.2.2.1,(x0.1.2.2.2.2.2.2.1,(x0.1.2.2.2.2.2.2.1,(x0.1.2.2.2.2.2.2.2.2.1,(x0.1.2.2.2.2.2.2.2.2.2.1,(x0.1.2.2.2.2.2.2.2.2.2.2.1,(x0.1.2.2.2.2.2.2.2.2.2.2.2.1,(x0.1.2.2.2.2.2.2.2.2.2.2.2.2.1,(x0.1.2.2.2.2.2.2.2.2.2.2.2.2.2.1,(x0.1.2.2.2.2.2.2.2.2.2.2.2.2.2.2.1,(x0.1.2.2.2.2.2.2.2.2.2.2.2.2.2.2.2.1,(x0.1.2.2.2.2.2.2.2.2.2.2.2.2.2.2.2.2.1,(x0.1.2.2.2.2.2.2.2.2.2.2.2.2.2.2.2.2.2.1,(x0.1.2.2.2.2.2.2.2.2.2.2.2.2.2.2.2.2.2.2.1,(x0.1.2.2.2.2.2.2.2.2.2.2.2.2.2.2.2.2.2.2.2.1,())))))))))))))))))))),(((3:Int),(⟨#[]⟩,(x0.1.2.1,([],((0:Int),((0:Int),(⟨#[]⟩,(x0.1.2.2.2.2.2.2.1,(x0.1.2.2.2.2.2.2.2.2.1,(x0.1.1,(y2.1.1,(y2.1.2.1,(y2.1.2.2.1,((0:Int),([],([],())))))))))))))))),()))).bind fun y3=>(F101 ((x0.1.2.1,()),((x0.1.2.2.2.2.2.2.1,(x0.1.2.2.2.2.2.2.2.2.1,(x0.1.1,()))),()))).bind fun y4=>(F102 ((x0.1.1,(x0.1.2.1,(x0.1.2.2.1,(x0.1.2.2.2.1,(x0.1.2.2.2.2.1,(x0.1.2.2.2.2.2.1,(x0.1.2.2.2.2.2.2.1,(x0.1.2.2.2.2.2.2.1,(x0.1.2.2.2.2.2.2.2.2.1,(x0.1.2.2.2.2.2.2.2.2.2.1,(x0.1.2.2.2.2.2.2.2.2.2.2.1,(x0.1.2.2.2.2.2.2.2.2.2.2.2.1,(x0.1.2.2.2.2.2.2.2.2.2.2.2.2.1,(x0.1.2.2.2.2.2.2.2.2.2.2.2.2.2.1,(x0.1.2.2.2.2.2.2.2.2.2.2.2.2.2.2.1,(x0.1.2.2.2.2.2.2.2.2.2.2.2.2.2.2.2.1,(x0.1.2.2.2.2.2.2.2.2.2.2.2.2.2.2.2.2.1,(x0.1.2.2.2.2.2.2.2.2.2.2.2.2.2.2.2.2.2.1,(x0.1.2.2.2.2.2.2.2.2.2.2.2.2.2.2.2.2.2.2.1,(x0.1.2.2.2.2.2.2.2.2.2.2.2.2.2.2.2.2.2.2.2.1,())))))))))))))))))))),((x0.1.2.2.2.2.2.2.1,(x0.1.2.2.2.2.2.2.2.2.1,(x0.1.1,()))),((x0.1.2.2.2.2.2.2.2.2.1,(x0.1.2.2.2.2.2.2.2.2.2.1,(x0.1.2.2.2.2.2.2.2.2.2.2.1,()))),())))).bind fun y5=>some (y3.1,((([y4.1]:List (D112)),()),(y5.1,())))
noncomputable def c29:Con:=⟨i29,o29,F29⟩
def i5:List Grp:= [⟨.agg,e52,[]⟩]
def o5:List Grp:= [⟨.agg,e52,m6⟩,⟨.c,(.cons (.sl e109) .nil),[(.own m5)]⟩,⟨.c,(.cons (.sl e112) .nil),[(.own [])]⟩]
noncomputable def F5:(D52×Unit)→Option ((D52×((List D109×Unit)×((List D112×Unit)×Unit)))):=fun x0=>(F27 (x0.1,())).bind fun y1=>(F28 (x0.1,())).bind fun y2=>bif (!y2.1.1) then some (y1.1,((([]:List (D109)),()),((([]:List (D112)),()),()))) else (F29 (y1.1,())).bind fun y3=>some (y3.2.2.1,(y3.1,(y3.2.1,())))
noncomputable def c5:Con:=⟨i5,o5,F5⟩
def i195:List Grp:= [⟨.c,(.cons (.sl e229) .nil),[]⟩]
def o195:List Grp:= [⟨.c,(.cons (.sl e229) .nil),[(.own [])]⟩]
noncomputable def F195:((List D229×Unit)×Unit)→Option (((List D229×Unit)×Unit)):=fun x0=>bif x0.1.1.isEmpty then both (some (([],()),())) (bif room (List.length ([]:List (D229))+List.length x0.1.1) 16 then some ((lapp ([]:List (D229)) x0.1.1,()),()) else none) else bif room (List.length ([]:List (D229))+List.length x0.1.1) 16 then some ((lapp ([]:List (D229)) x0.1.1,()),()) else none
noncomputable def c195:Con:=⟨i195,o195,F195⟩
def i160:List Grp:= [⟨.c,(.cons (.sl e207) .nil),[]⟩]
def o160:List Grp:= [⟨.c,(.cons (.sl e207) .nil),[(.own m0)]⟩]
noncomputable def F160.b0 (x0:((List D207×Unit)×Unit)):(v1:(List (D207)×(Int×Unit)))→Option (Sum (List (D207)×(Int×Unit)) (Sum (List (D207)×(Int×Unit)) (((List D207×Unit)×Unit)))):=fun v1=>bif iLt v1.2.1 (List.length x0.1.1:Int) then (getI x0.1.1 v1.2.1).bind fun x2=>(F195 ((x2.2.2.2.2.1,()),())).bind fun y3=>bif room (List.length v1.1+List.length ([(x2.1,(x2.2.1,(x2.2.2.1,(x2.2.2.2.1,(y3.1.1,())))))]:List (D207))) 64 then some (.inl (lapp v1.1 ([(x2.1,(x2.2.1,(x2.2.2.1,(x2.2.2.2.1,(y3.1.1,())))))]:List (D207)),(iAdd .i64 v1.2.1 (1:Int),()))) else none else some (.inr (.inl (v1.1,(v1.2.1,()))))
noncomputable def F160:((List D207×Unit)×Unit)→Option (((List D207×Unit)×Unit)):=fun x0=>(loopF (F160.b0 x0) ([],((0:Int),()))).bind fun r5=>Sum.elim (fun v4=>some ((v4.1,()),())) some r5
noncomputable def c160:Con:=⟨i160,o160,F160⟩
def i111:List Grp:= [⟨.agg,e42,[]⟩]
def o111:List Grp:= [⟨.agg,e42,[.sh,(.own m0)]⟩]
noncomputable def F111:(D42×Unit)→Option ((D42×Unit)):=fun x0=>(F160 ((x0.1.2.1,()),())).bind fun y1=>some ((x0.1.1,(y1.1.1,())),())
noncomputable def c111:Con:=⟨i111,o111,F111⟩
def i112:List Grp:= [⟨.c,(.cons (.sl e163) .nil),[]⟩]
def o112:List Grp:= [⟨.c,(.cons (.sl e163) .nil),[(.own [])]⟩]
noncomputable def F112:((List D163×Unit)×Unit)→Option (((List D163×Unit)×Unit)):=fun x0=>bif x0.1.1.isEmpty then both (some (([],()),())) (bif room (List.length ([]:List (D163))+List.length x0.1.1) 24 then some ((lapp ([]:List (D163)) x0.1.1,()),()) else none) else bif room (List.length ([]:List (D163))+List.length x0.1.1) 24 then some ((lapp ([]:List (D163)) x0.1.1,()),()) else none
noncomputable def c112:Con:=⟨i112,o112,F112⟩
def i162:List Grp:= [⟨.c,(.cons (.sl e9) .nil),[]⟩]
def o162:List Grp:= [⟨.c,(.cons (.sl e9) .nil),[(.own [])]⟩]
noncomputable def F162:((List D9×Unit)×Unit)→Option (((List D9×Unit)×Unit)):=fun x0=>bif x0.1.1.isEmpty then both (some (([],()),())) (bif room (List.length ([]:List (D9))+List.length x0.1.1) 16 then some ((lapp ([]:List (D9)) x0.1.1,()),()) else none) else bif room (List.length ([]:List (D9))+List.length x0.1.1) 16 then some ((lapp ([]:List (D9)) x0.1.1,()),()) else none
noncomputable def c162:Con:=⟨i162,o162,F162⟩
def i114:List Grp:= [⟨.agg,e29,[]⟩]
def o114:List Grp:= [⟨.agg,e29,[.sh,.sh,(.own [])]⟩]
noncomputable def F114:(D29×Unit)→Option ((D29×Unit)):=fun x0=>(F162 ((x0.1.2.2.1,()),())).bind fun y1=>some ((x0.1.1,(x0.1.2.1,(y1.1.1,()))),())
noncomputable def c114:Con:=⟨i114,o114,F114⟩
def i118:List Grp:= [⟨.c,(.cons (.sl e3) .nil),[]⟩]
def o118:List Grp:= [⟨.c,(.cons (.sl e3) .nil),[(.own [])]⟩]
noncomputable def F118:((List D3×Unit)×Unit)→Option (((List D3×Unit)×Unit)):=fun x0=>bif x0.1.1.isEmpty then both (some (([],()),())) (bif room (List.length ([]:List (D3))+List.length x0.1.1) 8 then some ((lapp ([]:List (D3)) x0.1.1,()),()) else none) else bif room (List.length ([]:List (D3))+List.length x0.1.1) 8 then some ((lapp ([]:List (D3)) x0.1.1,()),()) else none
noncomputable def c118:Con:=⟨i118,o118,F118⟩
def i115:List Grp:= [⟨.agg,e32,[]⟩]
def o115:List Grp:= [⟨.agg,e32,m1⟩]
noncomputable def F115:(D32×Unit)→Option ((D32×Unit)):=fun x0=>(F162 ((x0.1.2.1,()),())).bind fun y1=>(F118 ((x0.1.2.2.1,()),())).bind fun y2=>some ((x0.1.1,(y1.1.1,(y2.1.1,()))),())
noncomputable def c115:Con:=⟨i115,o115,F115⟩
def i119:List Grp:= [⟨.c,(.cons (.sl e169) .nil),[]⟩]
def o119:List Grp:= [⟨.c,(.cons (.sl e169) .nil),[(.own [])]⟩]
noncomputable def F119:((List D169×Unit)×Unit)→Option (((List D169×Unit)×Unit)):=fun x0=>bif x0.1.1.isEmpty then both (some (([],()),())) (bif room (List.length ([]:List (D169))+List.length x0.1.1) 56 then some ((lapp ([]:List (D169)) x0.1.1,()),()) else none) else bif room (List.length ([]:List (D169))+List.length x0.1.1) 56 then some ((lapp ([]:List (D169)) x0.1.1,()),()) else none
noncomputable def c119:Con:=⟨i119,o119,F119⟩
def i161:List Grp:= [⟨.agg,e154,[]⟩]
def o161:List Grp:= [⟨.agg,e154,m2⟩]
noncomputable def F161:(D154×Unit)→Option ((D154×Unit)):=fun x0=>(F114 ((x0.1.2.2.2.2.1,(x0.1.2.2.2.2.2.1,(x0.1.2.2.2.2.2.2.1,()))),())).bind fun y1=>(F115 ((x0.1.2.2.2.2.2.2.2.1,(x0.1.2.2.2.2.2.2.2.2.1,(x0.1.2.2.2.2.2.2.2.2.2.1,()))),())).bind fun y2=>(F119 ((x0.1.2.2.2.2.2.2.2.2.2.2.1,()),())).bind fun y3=>(F112 ((x0.1.2.2.2.2.2.2.2.2.2.2.2.2.1,()),())).bind fun y4=>some ((x0.1.1,(x0.1.2.1,(x0.1.2.2.1,(x0.1.2.2.2.1,(y1.1.1,(y1.1.2.1,(y1.1.2.2.1,(y2.1.1,(y2.1.2.1,(y2.1.2.2.1,(y3.1.1,(x0.1.2.2.2.2.2.2.2.2.2.2.2.1,(y4.1.1,(x0.1.2.2.2.2.2.2.2.2.2.2.2.2.2.1,())))))))))))))),())
noncomputable def c161:Con:=⟨i161,o161,F161⟩
def i113:List Grp:= [⟨.c,(.cons (.sl e154) .nil),[]⟩]
def o113:List Grp:= [⟨.c,(.cons (.sl e154) .nil),[(.own m2)]⟩]
noncomputable def F113.b0 (x0:((List D154×Unit)×Unit)):(v1:(List (D154)×(Int×Unit)))→Option (Sum (List (D154)×(Int×Unit)) (Sum (List (D154)×(Int×Unit)) (((List D154×Unit)×Unit)))):=fun v1=>bif iLt v1.2.1 (List.length x0.1.1:Int) then (getI x0.1.1 v1.2.1).bind fun x2=>(F161 (x2,())).bind fun y3=>bif room (List.length v1.1+List.length ([y3.1]:List (D154))) 208 then some (.inl (lapp v1.1 ([y3.1]:List (D154)),(iAdd .i64 v1.2.1 (1:Int),()))) else none else some (.inr (.inl (v1.1,(v1.2.1,()))))
noncomputable def F113:((List D154×Unit)×Unit)→Option (((List D154×Unit)×Unit)):=fun x0=>(loopF (F113.b0 x0) ([],((0:Int),()))).bind fun r5=>Sum.elim (fun v4=>some ((v4.1,()),())) some r5
noncomputable def c113:Con:=⟨i113,o113,F113⟩
def i116:List Grp:= [⟨.c,(.cons (.sl e105) .nil),[]⟩]
def o116:List Grp:= [⟨.c,(.cons (.sl e105) .nil),[(.own [])]⟩]
noncomputable def F116:((List D105×Unit)×Unit)→Option (((List D105×Unit)×Unit)):=fun x0=>bif x0.1.1.isEmpty then both (some (([],()),())) (bif room (List.length ([]:List (D105))+List.length x0.1.1) 32 then some ((lapp ([]:List (D105)) x0.1.1,()),()) else none) else bif room (List.length ([]:List (D105))+List.length x0.1.1) 32 then some ((lapp ([]:List (D105)) x0.1.1,()),()) else none
noncomputable def c116:Con:=⟨i116,o116,F116⟩
def i117:List Grp:= [⟨.c,(.cons (.sl e107) .nil),[]⟩]
def o117:List Grp:= [⟨.c,(.cons (.sl e107) .nil),[(.own [])]⟩]
noncomputable def F117:((List D107×Unit)×Unit)→Option (((List D107×Unit)×Unit)):=fun x0=>bif x0.1.1.isEmpty then both (some (([],()),())) (bif room (List.length ([]:List (D107))+List.length x0.1.1) 32 then some ((lapp ([]:List (D107)) x0.1.1,()),()) else none) else bif room (List.length ([]:List (D107))+List.length x0.1.1) 32 then some ((lapp ([]:List (D107)) x0.1.1,()),()) else none
noncomputable def c117:Con:=⟨i117,o117,F117⟩
def i120:List Grp:= [⟨.agg,e146,[]⟩]
def o120:List Grp:= [⟨.agg,e146,m3⟩]
noncomputable def F120:(D146×Unit)→Option ((D146×Unit)):=fun x0=>(F113 ((x0.1.2.1,()),())).bind fun y1=>(F114 ((x0.1.2.2.1,(x0.1.2.2.2.1,(x0.1.2.2.2.2.1,()))),())).bind fun y2=>some ((x0.1.1,(y1.1.1,(y2.1.1,(y2.1.2.1,(y2.1.2.2.1,()))))),())
noncomputable def c120:Con:=⟨i120,o120,F120⟩
def i40:List Grp:= [⟨.agg,e52,[]⟩]
def o40:List Grp:= [⟨.agg,e52,m4⟩]
noncomputable def F40.b0 (x0:(D52×Unit)):(v10:(Int×(List (D146)×Unit)))→Option (Sum (Int×(List (D146)×Unit)) (Sum (Int×(List (D146)×Unit)) ((D52×Unit)))):=fun v10=>bif iLt v10.1 (List.length x0.1.2.2.2.2.2.2.2.2.2.2.2.2.2.2.2.2.2.2.2.1:Int) then (getI x0.1.2.2.2.2.2.2.2.2.2.2.2.2.2.2.2.2.2.2.2.1 v10.1).bind fun x11=>(F120 (x11,())).bind fun y12=>bif room (List.length v10.2.1+List.length ([y12.1]:List (D146))) 72 then some (.inl (iAdd .i64 v10.1 (1:Int),(lapp v10.2.1 ([y12.1]:List (D146)),()))) else none else some (.inr (.inl (v10.1,(v10.2.1,()))))
noncomputable def F40:(D52×Unit)→Option ((D52×Unit)):=fun x0=>(F111 ((x0.1.2.2.1,(x0.1.2.2.2.1,())),())).bind fun y1=>(F112 ((x0.1.2.2.2.2.1,()),())).bind fun y2=>(F113 ((x0.1.2.2.2.2.2.1,()),())).bind fun y3=>(F114 ((x0.1.2.2.2.2.2.2.2.2.1,(x0.1.2.2.2.2.2.2.2.2.2.1,(x0.1.2.2.2.2.2.2.2.2.2.2.1,()))),())).bind fun y4=>(F115 ((x0.1.2.2.2.2.2.2.2.2.2.2.2.1,(x0.1.2.2.2.2.2.2.2.2.2.2.2.2.1,(x0.1.2.2.2.2.2.2.2.2.2.2.2.2.2.1,()))),())).bind fun y5=>(F116 ((x0.1.2.2.2.2.2.2.2.2.2.2.2.2.2.2.2.1,()),())).bind fun y6=>(F117 ((x0.1.2.2.2.2.2.2.2.2.2.2.2.2.2.2.2.2.1,()),())).bind fun y7=>(F118 ((x0.1.2.2.2.2.2.2.2.2.2.2.2.2.2.2.2.2.2.1,()),())).bind fun y8=>(F119 ((x0.1.2.2.2.2.2.2.2.2.2.2.2.2.2.2.2.2.2.2.1,()),())).bind fun y9=>(loopF (F40.b0 x0) ((0:Int),([],()))).bind fun r14=>Sum.elim (fun v13=>some ((x0.1.1,(x0.1.2.1,(y1.1.1,(y1.1.2.1,(y2.1.1,(y3.1.1,(x0.1.2.2.2.2.2.2.1,(x0.1.2.2.2.2.2.2.2.1,(y4.1.1,(y4.1.2.1,(y4.1.2.2.1,(y5.1.1,(y5.1.2.1,(y5.1.2.2.1,(x0.1.2.2.2.2.2.2.2.2.2.2.2.2.2.2.1,(y6.1.1,(y7.1.1,(y8.1.1,(y9.1.1,(v13.2.1,())))))))))))))))))))),())) some r14
noncomputable def c40:Con:=⟨i40,o40,F40⟩
def i125:List Grp:= [⟨.c,(.cons (.int .i64) .nil),[]⟩,⟨.c,(.cons (.int .i64) .nil),[]⟩,⟨.c,(.cons (.int .i64) .nil),[]⟩]
def o125:List Grp:= [⟨.c,(.cons .bool .nil),[]⟩]
noncomputable def F125:((Int×Unit)×((Int×Unit)×((Int×Unit)×Unit)))→Option (((Bool×Unit)×Unit)):=fun x0=>bif iLe x0.2.1.1 x0.1.1 then some ((iLe x0.1.1 x0.2.2.1.1,()),()) else some ((false,()),())
noncomputable def c125:Con:=⟨i125,o125,F125⟩
def i121:List Grp:= [⟨.c,(.cons .str .nil),[]⟩]
def o121:List Grp:= [⟨.c,(.cons .bool .nil),[]⟩]
noncomputable def F121.b0 (x0:((ByteArray×Unit)×Unit)):(v1:(Int×Unit))→Option (Sum (Int×Unit) (Sum (Int×Unit) (((Bool×Unit)×Unit)))):=fun v1=>bif iLt v1.1 (ByteArray.size x0.1.1:Int) then (getI (ByteArray.data x0.1.1).toList v1.1).bind fun b2=>bif iLe (97:Int) (UInt8.toNat b2:Int) then (getI (ByteArray.data x0.1.1).toList v1.1).bind fun b3=>bif iLe (UInt8.toNat b3:Int) (122:Int) then some (.inl (iAdd .i64 v1.1 (1:Int),())) else (getI (ByteArray.data x0.1.1).toList v1.1).bind fun b4=>bif iLe (48:Int) (UInt8.toNat b4:Int) then (getI (ByteArray.data x0.1.1).toList v1.1).bind fun b5=>bif (!(iLe (UInt8.toNat b5:Int) (57:Int))) then some (.inr (.inr ((false,()),()))) else some (.inl (iAdd .i64 v1.1 (1:Int),())) else some (.inr (.inr ((false,()),()))) else (getI (ByteArray.data x0.1.1).toList v1.1).bind fun b6=>bif iLe (48:Int) (UInt8.toNat b6:Int) then (getI (ByteArray.data x0.1.1).toList v1.1).bind fun b7=>bif (!(iLe (UInt8.toNat b7:Int) (57:Int))) then some (.inr (.inr ((false,()),()))) else some (.inl (iAdd .i64 v1.1 (1:Int),())) else some (.inr (.inr ((false,()),()))) else some (.inr (.inl (v1.1,())))
noncomputable def F121:((ByteArray×Unit)×Unit)→Option (((Bool×Unit)×Unit)):=fun x0=>(loopF (F121.b0 x0) ((0:Int),())).bind fun r9=>Sum.elim (fun v8=>(F125 (((ByteArray.size x0.1.1:Int),()),(((1:Int),()),(((8:Int),()),())))).bind fun y10=>some (y10.1,())) some r9
noncomputable def c121:Con:=⟨i121,o121,F121⟩
def i217:List Grp:= [⟨.c,(.cons (.int .i64) .nil),[]⟩]
def o217:List Grp:= [⟨.c,(.cons .bool .nil),[]⟩]
noncomputable def F217:((Int×Unit)×Unit)→Option (((Bool×Unit)×Unit)):=fun x0=>(F125 (x0.1,(((0:Int),()),(((1000000:Int),()),())))).bind fun y1=>some (y1.1,())
noncomputable def c217:Con:=⟨i217,o217,F217⟩
def i196:List Grp:= [⟨.agg,e207,[]⟩]
def o196:List Grp:= [⟨.c,(.cons .bool .nil),[]⟩]
noncomputable def F196.b0 (x0:(D207×Unit)):(v1:(Int×Unit))→Option (Sum (Int×Unit) (Sum (Int×Unit) (((Bool×Unit)×Unit)))):=fun v1=>bif iLt v1.1 (List.length x0.1.2.2.2.2.1:Int) then (getI x0.1.2.2.2.2.1 v1.1).bind fun x2=>(F125 ((x2.1,()),(((1:Int),()),(((1000000:Int),()),())))).bind fun y3=>bif (!y3.1.1) then some (.inr (.inr ((false,()),()))) else (F125 ((x2.2.1,()),(((0:Int),()),(((1000:Int),()),())))).bind fun y4=>bif (!y4.1.1) then some (.inr (.inr ((false,()),()))) else bif iLt (0:Int) v1.1 then (getI x0.1.2.2.2.2.1 (iSub .i64 v1.1 (1:Int))).bind fun x5=>bif iLe x2.2.1 x5.2.1 then some (.inr (.inr ((false,()),()))) else some (.inl (iAdd .i64 v1.1 (1:Int),())) else some (.inl (iAdd .i64 v1.1 (1:Int),())) else some (.inr (.inl (v1.1,())))
noncomputable def F196:(D207×Unit)→Option (((Bool×Unit)×Unit)):=fun x0=>(loopF (F196.b0 x0) ((0:Int),())).bind fun r7=>Sum.elim (fun v6=>(F121 ((x0.1.1,()),())).bind fun y8=>bif y8.1.1 then (F217 ((x0.1.2.1,()),())).bind fun y9=>bif y9.1.1 then (F217 ((x0.1.2.2.2.1,()),())).bind fun y10=>bif y10.1.1 then (F125 ((x0.1.2.2.1,()),(((0:Int),()),(((10000:Int),()),())))).bind fun y11=>bif y11.1.1 then some ((iLe (List.length x0.1.2.2.2.2.1:Int) (4:Int),()),()) else some ((false,()),()) else some ((false,()),()) else some ((false,()),()) else some ((false,()),())) some r7
noncomputable def c196:Con:=⟨i196,o196,F196⟩
def i197:List Grp:= [⟨.c,(.cons (.sl e207) .nil),[]⟩]
def o197:List Grp:= [⟨.c,(.cons (.int .i64) .nil),[]⟩]
noncomputable def F197.b1 (x2:D207):(v3:(Int×(Int×Unit)))→Option (Sum (Int×(Int×Unit)) (Sum (Int×(Int×Unit)) (Sum (Int×(Int×Unit)) (Sum (Int×(Int×Unit)) (((Int×Unit)×Unit)))))):=fun v3=>bif iLt v3.2.1 (List.length x2.2.2.2.2.1:Int) then (getI x2.2.2.2.2.1 v3.2.1).bind fun x4=>some (.inl (iAdd .i64 v3.1 x4.1,(iAdd .i64 v3.2.1 (1:Int),()))) else some (.inr (.inl (v3.1,(v3.2.1,()))))
noncomputable def F197.b0 (x0:((List D207×Unit)×Unit)):(v1:(Int×(Int×Unit)))→Option (Sum (Int×(Int×Unit)) (Sum (Int×(Int×Unit)) (((Int×Unit)×Unit)))):=fun v1=>bif iLt v1.2.1 (List.length x0.1.1:Int) then (getI x0.1.1 v1.2.1).bind fun x2=>(loopF (F197.b1 x2) (iAdd .i64 v1.1 (iAdd .i64 x2.2.1 x2.2.2.2.1),((0:Int),()))).bind fun r6=>Sum.elim (fun v5=>some (.inl (v5.1,(iAdd .i64 v1.2.1 (1:Int),())))) some r6 else some (.inr (.inl (v1.1,(v1.2.1,()))))
noncomputable def F197:((List D207×Unit)×Unit)→Option (((Int×Unit)×Unit)):=fun x0=>(loopF (F197.b0 x0) ((0:Int),((0:Int),()))).bind fun r8=>Sum.elim (fun v7=>some ((v7.1,()),())) some r8
noncomputable def c197:Con:=⟨i197,o197,F197⟩
def i163:List Grp:= [⟨.c,(.cons (.sl e207) .nil),[]⟩]
def o163:List Grp:= [⟨.c,(.cons .bool .nil),[]⟩]
noncomputable def F163.b0 (x0:((List D207×Unit)×Unit)):(v1:(Int×Unit))→Option (Sum (Int×Unit) (Sum (Int×Unit) (((Bool×Unit)×Unit)))):=fun v1=>bif iLt v1.1 (List.length x0.1.1:Int) then (getI x0.1.1 v1.1).bind fun x2=>(F196 (x2,())).bind fun y3=>bif (!y3.1.1) then some (.inr (.inr ((false,()),()))) else bif iLt (0:Int) v1.1 then (getI x0.1.1 (iSub .i64 v1.1 (1:Int))).bind fun x4=>bif sLt x2.1 x4.1||sEq x2.1 x4.1 then some (.inr (.inr ((false,()),()))) else some (.inl (iAdd .i64 v1.1 (1:Int),())) else some (.inl (iAdd .i64 v1.1 (1:Int),())) else some (.inr (.inl (v1.1,())))
noncomputable def F163:((List D207×Unit)×Unit)→Option (((Bool×Unit)×Unit)):=fun x0=>(loopF (F163.b0 x0) ((0:Int),())).bind fun r6=>Sum.elim (fun v5=>bif iLe (List.length x0.1.1:Int) (12:Int) then (F197 (x0.1,())).bind fun y7=>some ((iLe y7.1.1 (1000000:Int),()),()) else some ((false,()),())) some r6
noncomputable def c163:Con:=⟨i163,o163,F163⟩
def i122:List Grp:= [⟨.agg,e42,[]⟩]
def o122:List Grp:= [⟨.c,(.cons .bool .nil),[]⟩]
noncomputable def F122:(D42×Unit)→Option (((Bool×Unit)×Unit)):=fun x0=>(F125 ((x0.1.1,()),(((0:Int),()),(((900:Int),()),())))).bind fun y1=>bif y1.1.1 then (F163 ((x0.1.2.1,()),())).bind fun y2=>some (y2.1,()) else some ((false,()),())
noncomputable def c122:Con:=⟨i122,o122,F122⟩
def i123:List Grp:= [⟨.c,(.cons (.sl e163) .nil),[]⟩]
def o123:List Grp:= [⟨.c,(.cons .bool .nil),[]⟩]
noncomputable def F123.b0 (x0:((List D163×Unit)×Unit)):(v1:(Int×Unit))→Option (Sum (Int×Unit) (Sum (Int×Unit) (((Bool×Unit)×Unit)))):=fun v1=>bif iLt v1.1 (List.length x0.1.1:Int) then (getI x0.1.1 v1.1).bind fun x2=>(F121 ((x2.1,()),())).bind fun y3=>bif (!y3.1.1) then some (.inr (.inr ((false,()),()))) else (F125 ((x2.2.1,()),(((1:Int),()),(((1000000:Int),()),())))).bind fun y4=>bif (!y4.1.1) then some (.inr (.inr ((false,()),()))) else bif iLt (0:Int) v1.1 then (getI x0.1.1 (iSub .i64 v1.1 (1:Int))).bind fun x5=>bif sLt x2.1 x5.1||sEq x2.1 x5.1 then some (.inr (.inr ((false,()),()))) else some (.inl (iAdd .i64 v1.1 (1:Int),())) else some (.inl (iAdd .i64 v1.1 (1:Int),())) else some (.inr (.inl (v1.1,())))
noncomputable def F123:((List D163×Unit)×Unit)→Option (((Bool×Unit)×Unit)):=fun x0=>(loopF (F123.b0 x0) ((0:Int),())).bind fun r7=>Sum.elim (fun v6=>(F125 (((List.length x0.1.1:Int),()),(((1:Int),()),(((12:Int),()),())))).bind fun y8=>some (y8.1,())) some r7
noncomputable def c123:Con:=⟨i123,o123,F123⟩
def i164:List Grp:= [⟨.agg,e137,[]⟩]
def o164:List Grp:= [⟨.c,(.cons .bool .nil),[]⟩]
noncomputable def F164:(D137×Unit)→Option (((Bool×Unit)×Unit)):=fun x0=>(F125 ((x0.1.1,()),(((1:Int),()),(((3:Int),()),())))).bind fun y1=>bif (!y1.1.1) then some ((false,()),()) else (F121 ((x0.1.2.1,()),())).bind fun y2=>bif (!y2.1.1) then some ((false,()),()) else (F125 ((x0.1.2.2.2.1,()),(((1:Int),()),(((1000000:Int),()),())))).bind fun y3=>bif (!y3.1.1) then some ((false,()),()) else (F125 ((x0.1.2.2.2.2.1,()),(((0:Int),()),(((10000:Int),()),())))).bind fun y4=>bif (!y4.1.1) then some ((false,()),()) else bif iEq x0.1.1 (1:Int) then (F121 ((x0.1.2.2.1,()),())).bind fun y5=>some (y5.1,()) else some ((sEq x0.1.2.2.1 ⟨#[]⟩,()),())
noncomputable def c164:Con:=⟨i164,o164,F164⟩
def i233:List Grp:= [⟨.c,(.cons .str .nil),[]⟩]
def o233:List Grp:= [⟨.c,(.cons .bool .nil),[]⟩]
noncomputable def F233:((ByteArray×Unit)×Unit)→Option (((Bool×Unit)×Unit)):=fun x0=>some ((!sEq x0.1.1 x0.1.1,()),())
noncomputable def c233:Con:=⟨i233,o233,F233⟩
def i219:List Grp:= [⟨.c,(.cons .str .nil),[]⟩,⟨.c,(.cons .str .nil),[]⟩]
def o219:List Grp:= [⟨.c,(.cons (.int .i64) .nil),[]⟩]
noncomputable def F219:((ByteArray×Unit)×((ByteArray×Unit)×Unit))→Option (((Int×Unit)×Unit)):=fun x0=>(F233 (x0.1,())).bind fun y1=>(F233 (x0.2.1,())).bind fun y2=>bif y1.1.1 then bif y2.1.1 then some (((0:Int),()),()) else some (((-1:Int),()),()) else bif y2.1.1 then some (((1:Int),()),()) else bif sLt x0.1.1 x0.2.1.1 then some (((-1:Int),()),()) else bif !(sLt x0.1.1 x0.2.1.1||sEq x0.1.1 x0.2.1.1) then some (((1:Int),()),()) else some (((0:Int),()),())
noncomputable def c219:Con:=⟨i219,o219,F219⟩
def i234:List Grp:= [⟨.c,(.cons (.int .i64) .nil),[]⟩]
def o234:List Grp:= [⟨.c,(.cons .bool .nil),[]⟩]
noncomputable def F234:((Int×Unit)×Unit)→Option (((Bool×Unit)×Unit)):=fun x0=>some ((!iEq x0.1.1 x0.1.1,()),())
noncomputable def c234:Con:=⟨i234,o234,F234⟩
def i220:List Grp:= [⟨.c,(.cons (.int .i64) .nil),[]⟩,⟨.c,(.cons (.int .i64) .nil),[]⟩]
def o220:List Grp:= [⟨.c,(.cons (.int .i64) .nil),[]⟩]
noncomputable def F220:((Int×Unit)×((Int×Unit)×Unit))→Option (((Int×Unit)×Unit)):=fun x0=>(F234 (x0.1,())).bind fun y1=>(F234 (x0.2.1,())).bind fun y2=>bif y1.1.1 then bif y2.1.1 then some (((0:Int),()),()) else some (((-1:Int),()),()) else bif y2.1.1 then some (((1:Int),()),()) else bif iLt x0.1.1 x0.2.1.1 then some (((-1:Int),()),()) else bif iLt x0.2.1.1 x0.1.1 then some (((1:Int),()),()) else some (((0:Int),()),())
noncomputable def c220:Con:=⟨i220,o220,F220⟩
def i218:List Grp:= [⟨.c,(.cons (.sl e3) .nil),[]⟩]
def o218:List Grp:= [⟨.c,(.cons (.int .i64) .nil),[]⟩]
noncomputable def F218.b0 (x0:((List D3×Unit)×Unit)):(v1:(Int×Unit))→Option (Sum (Int×Unit) (Sum (Int×Unit) (((Int×Unit)×Unit)))):=fun v1=>bif iLt v1.1 (List.length x0.1.1:Int) then (getI x0.1.1 v1.1).bind fun x2=>bif !iEq x2.1 (0:Int) then some (.inr (.inr (x2,()))) else some (.inl (iAdd .i64 v1.1 (1:Int),())) else some (.inr (.inl (v1.1,())))
noncomputable def F218:((List D3×Unit)×Unit)→Option (((Int×Unit)×Unit)):=fun x0=>(loopF (F218.b0 x0) ((0:Int),())).bind fun r4=>Sum.elim (fun v3=>some (((0:Int),()),())) some r4
noncomputable def c218:Con:=⟨i218,o218,F218⟩
def i198:List Grp:= [⟨.agg,e137,[]⟩,⟨.agg,e137,[]⟩]
def o198:List Grp:= [⟨.c,(.cons (.int .i64) .nil),[]⟩]
noncomputable def F198:(D137×(D137×Unit))→Option (((Int×Unit)×Unit)):=fun x0=>(F219 ((x0.1.2.1,()),((x0.2.1.2.1,()),()))).bind fun y1=>(F220 ((x0.1.2.2.2.2.1,()),((x0.2.1.2.2.2.2.1,()),()))).bind fun y2=>(F220 ((x0.1.1,()),((x0.2.1.1,()),()))).bind fun y3=>(F219 ((x0.1.2.2.1,()),((x0.2.1.2.2.1,()),()))).bind fun y4=>(F220 ((x0.1.2.2.2.1,()),((x0.2.1.2.2.2.1,()),()))).bind fun y5=>(F218 ((([y1.1,y2.1,y3.1,y4.1,y5.1]:List (D3)),()),())).bind fun y6=>some (y6.1,())
noncomputable def c198:Con:=⟨i198,o198,F198⟩
def i165:List Grp:= [⟨.agg,e137,[]⟩,⟨.agg,e137,[]⟩]
def o165:List Grp:= [⟨.c,(.cons .bool .nil),[]⟩]
noncomputable def F165:(D137×(D137×Unit))→Option (((Bool×Unit)×Unit)):=fun x0=>(F198 (x0.1,(x0.2.1,()))).bind fun y1=>some ((iLt y1.1.1 (0:Int),()),())
noncomputable def c165:Con:=⟨i165,o165,F165⟩
def i124:List Grp:= [⟨.c,(.cons (.sl e169) .nil),[]⟩]
def o124:List Grp:= [⟨.c,(.cons .bool .nil),[]⟩]
noncomputable def F124.b0 (x0:((List D169×Unit)×Unit)):(v1:(Int×Unit))→Option (Sum (Int×Unit) (Sum (Int×Unit) (((Bool×Unit)×Unit)))):=fun v1=>bif iLt v1.1 (List.length x0.1.1:Int) then (getI x0.1.1 v1.1).bind fun x2=>(F164 (x2,())).bind fun y3=>bif (!y3.1.1) then some (.inr (.inr ((false,()),()))) else bif iLt (0:Int) v1.1 then (getI x0.1.1 (iSub .i64 v1.1 (1:Int))).bind fun x4=>(F165 (x4,(x2,()))).bind fun y5=>bif (!y5.1.1) then some (.inr (.inr ((false,()),()))) else some (.inl (iAdd .i64 v1.1 (1:Int),())) else some (.inl (iAdd .i64 v1.1 (1:Int),())) else some (.inr (.inl (v1.1,())))
noncomputable def F124:((List D169×Unit)×Unit)→Option (((Bool×Unit)×Unit)):=fun x0=>(loopF (F124.b0 x0) ((0:Int),())).bind fun r7=>Sum.elim (fun v6=>some ((iLe (List.length x0.1.1:Int) (20:Int),()),())) some r7
noncomputable def c124:Con:=⟨i124,o124,F124⟩
def i166:List Grp:= [⟨.agg,e29,[]⟩]
def o166:List Grp:= [⟨.c,(.cons .bool .nil),[]⟩]
noncomputable def F166:(D29×Unit)→Option (((Bool×Unit)×Unit)):=fun x0=>bif iEq x0.1.1 (0:Int) then bif iEq x0.1.2.1 (-1:Int) then some ((iEq (List.length x0.1.2.2.1:Int) (0:Int),()),()) else some ((false,()),()) else some ((false,()),())
noncomputable def c166:Con:=⟨i166,o166,F166⟩
def i199:List Grp:= [⟨.c,(.cons (.sl e9) .nil),[]⟩]
def o199:List Grp:= [⟨.c,(.cons .bool .nil),[]⟩]
noncomputable def F199.b0 (x0:((List D9×Unit)×Unit)):(v1:(Int×Unit))→Option (Sum (Int×Unit) (Sum (Int×Unit) (((Bool×Unit)×Unit)))):=fun v1=>bif iLt v1.1 (List.length x0.1.1:Int) then (getI x0.1.1 v1.1).bind fun x2=>(F121 (x2,())).bind fun y3=>bif (!y3.1.1) then some (.inr (.inr ((false,()),()))) else bif iLt (0:Int) v1.1 then (getI x0.1.1 (iSub .i64 v1.1 (1:Int))).bind fun x4=>bif sLt x2.1 x4.1||sEq x2.1 x4.1 then some (.inr (.inr ((false,()),()))) else some (.inl (iAdd .i64 v1.1 (1:Int),())) else some (.inl (iAdd .i64 v1.1 (1:Int),())) else some (.inr (.inl (v1.1,())))
noncomputable def F199:((List D9×Unit)×Unit)→Option (((Bool×Unit)×Unit)):=fun x0=>(loopF (F199.b0 x0) ((0:Int),())).bind fun r6=>Sum.elim (fun v5=>some ((iLe (List.length x0.1.1:Int) (20:Int),()),())) some r6
noncomputable def c199:Con:=⟨i199,o199,F199⟩
def i167:List Grp:= [⟨.agg,e29,[]⟩,⟨.c,(.cons (.int .i64) .nil),[]⟩,⟨.c,(.cons (.int .i64) .nil),[]⟩]
def o167:List Grp:= [⟨.c,(.cons .bool .nil),[]⟩]
noncomputable def F167:(D29×((Int×Unit)×((Int×Unit)×Unit)))→Option (((Bool×Unit)×Unit)):=fun x0=>(F166 (x0.1,())).bind fun y1=>bif y1.1.1 then some ((true,()),()) else (F125 ((x0.1.1,()),(((1:Int),()),(x0.2.1,())))).bind fun y2=>bif y2.1.1 then (F125 ((x0.1.2.1,()),(((0:Int),()),(x0.2.2.1,())))).bind fun y3=>bif y3.1.1 then (F199 ((x0.1.2.2.1,()),())).bind fun y4=>some (y4.1,()) else some ((false,()),()) else some ((false,()),())
noncomputable def c167:Con:=⟨i167,o167,F167⟩
def i235:List Grp:= [⟨.c,(.cons (.sl e9) .nil),[]⟩,⟨.c,(.cons .str .nil),[]⟩]
def o235:List Grp:= [⟨.c,(.cons (.int .i64) .nil),[]⟩]
noncomputable def F235.b0 (x0:((List D9×Unit)×((ByteArray×Unit)×Unit))):(v1:(Int×Unit))→Option (Sum (Int×Unit) (Sum (Int×Unit) (((Int×Unit)×Unit)))):=fun v1=>bif iLt v1.1 (List.length x0.1.1:Int) then (getI x0.1.1 v1.1).bind fun x2=>bif sEq x0.2.1.1 x2.1 then some (.inr (.inr ((v1.1,()),()))) else some (.inl (iAdd .i64 v1.1 (1:Int),())) else some (.inr (.inl (v1.1,())))
noncomputable def F235:((List D9×Unit)×((ByteArray×Unit)×Unit))→Option (((Int×Unit)×Unit)):=fun x0=>(loopF (F235.b0 x0) ((0:Int),())).bind fun r4=>Sum.elim (fun v3=>some (((-1:Int),()),())) some r4
noncomputable def c235:Con:=⟨i235,o235,F235⟩
def i221:List Grp:= [⟨.c,(.cons (.sl e9) .nil),[]⟩,⟨.c,(.cons .str .nil),[]⟩]
def o221:List Grp:= [⟨.c,(.cons .bool .nil),[]⟩]
noncomputable def F221:((List D9×Unit)×((ByteArray×Unit)×Unit))→Option (((Bool×Unit)×Unit)):=fun x0=>(F235 (x0.1,(x0.2.1,()))).bind fun y1=>some ((iLe (0:Int) y1.1.1,()),())
noncomputable def c221:Con:=⟨i221,o221,F221⟩
def i200:List Grp:= [⟨.c,(.cons (.sl e163) .nil),[]⟩,⟨.c,(.cons (.sl e9) .nil),[]⟩]
def o200:List Grp:= [⟨.c,(.cons (.int .i64) .nil),[]⟩]
noncomputable def F200.b0 (x0:((List D163×Unit)×((List D9×Unit)×Unit))):(v1:(Int×(Int×Unit)))→Option (Sum (Int×(Int×Unit)) (Sum (Int×(Int×Unit)) (((Int×Unit)×Unit)))):=fun v1=>bif iLt v1.2.1 (List.length x0.1.1:Int) then (getI x0.1.1 v1.2.1).bind fun x2=>(F221 (x0.2.1,((x2.1,()),()))).bind fun y3=>bif y3.1.1 then some (.inl (iAdd .i64 v1.1 x2.2.1,(iAdd .i64 v1.2.1 (1:Int),()))) else some (.inl (v1.1,(iAdd .i64 v1.2.1 (1:Int),()))) else some (.inr (.inl (v1.1,(v1.2.1,()))))
noncomputable def F200:((List D163×Unit)×((List D9×Unit)×Unit))→Option (((Int×Unit)×Unit)):=fun x0=>(loopF (F200.b0 x0) ((0:Int),((0:Int),()))).bind fun r5=>Sum.elim (fun v4=>some ((v4.1,()),())) some r5
noncomputable def c200:Con:=⟨i200,o200,F200⟩
def i201:List Grp:= [⟨.c,(.cons (.sl e163) .nil),[]⟩]
def o201:List Grp:= [⟨.c,(.cons (.int .i64) .nil),[]⟩]
noncomputable def F201.b0 (x0:((List D163×Unit)×Unit)):(v1:(Int×(Int×Unit)))→Option (Sum (Int×(Int×Unit)) (Sum (Int×(Int×Unit)) (((Int×Unit)×Unit)))):=fun v1=>bif iLt v1.2.1 (List.length x0.1.1:Int) then (getI x0.1.1 v1.2.1).bind fun x2=>some (.inl (iAdd .i64 v1.1 x2.2.1,(iAdd .i64 v1.2.1 (1:Int),()))) else some (.inr (.inl (v1.1,(v1.2.1,()))))
noncomputable def F201:((List D163×Unit)×Unit)→Option (((Int×Unit)×Unit)):=fun x0=>(loopF (F201.b0 x0) ((0:Int),((0:Int),()))).bind fun r4=>Sum.elim (fun v3=>some ((v3.1,()),())) some r4
noncomputable def c201:Con:=⟨i201,o201,F201⟩
def i168:List Grp:= [⟨.c,(.cons (.sl e163) .nil),[]⟩,⟨.c,(.cons (.sl e9) .nil),[]⟩]
def o168:List Grp:= [⟨.c,(.cons .bool .nil),[]⟩]
noncomputable def F168:((List D163×Unit)×((List D9×Unit)×Unit))→Option (((Bool×Unit)×Unit)):=fun x0=>(F200 (x0.1,(x0.2.1,()))).bind fun y1=>(F201 (x0.1,())).bind fun y2=>some ((iLt (iMul .i64 (2:Int) y2.1.1) (iMul .i64 (3:Int) y1.1.1),()),())
noncomputable def c168:Con:=⟨i168,o168,F168⟩
def i205:List Grp:= [⟨.c,(.cons (.sl e163) .nil),[]⟩,⟨.c,(.cons (.fn [3] (.cons .str (.cons (.int .i64) .nil)) (.cons .bool .nil)) .nil),[]⟩]
def o205:List Grp:= [⟨.c,(.cons (.int .i64) .nil),[]⟩]
noncomputable def F205.b0 (x0:((List D163×Unit)×(((D127→Option (Bool×Unit))×Unit)×Unit))):(v1:(Int×Unit))→Option (Sum (Int×Unit) (Sum (Int×Unit) (((Int×Unit)×Unit)))):=fun v1=>bif iLt v1.1 (List.length x0.1.1:Int) then (getI x0.1.1 v1.1).bind fun x2=>(x0.2.1.1 x2).bind fun y3=>bif y3.1 then some (.inr (.inr ((v1.1,()),()))) else some (.inl (iAdd .i64 v1.1 (1:Int),())) else some (.inr (.inl (v1.1,())))
noncomputable def F205:((List D163×Unit)×(((D127→Option (Bool×Unit))×Unit)×Unit))→Option (((Int×Unit)×Unit)):=fun x0=>(loopF (F205.b0 x0) ((0:Int),())).bind fun r5=>Sum.elim (fun v4=>some (((-1:Int),()),())) some r5
noncomputable def c205:Con:=⟨i205,o205,F205⟩
def i174:List Grp:= [⟨.c,(.cons (.sl e163) .nil),[]⟩,⟨.c,(.cons (.fn [3] (.cons .str (.cons (.int .i64) .nil)) (.cons .bool .nil)) .nil),[]⟩]
def o174:List Grp:= [⟨.c,(.cons .bool .nil),[]⟩]
noncomputable def F174:((List D163×Unit)×(((D127→Option (Bool×Unit))×Unit)×Unit))→Option (((Bool×Unit)×Unit)):=fun x0=>(F205 (x0.1,(x0.2.1,()))).bind fun y1=>some ((iLe (0:Int) y1.1.1,()),())
noncomputable def c174:Con:=⟨i174,o174,F174⟩
def i175:List Grp:= [⟨.agg,e127,[]⟩,⟨.rp,(.cons .str .nil),[]⟩]
def o175:List Grp:= [⟨.c,(.cons .bool .nil),[]⟩]
noncomputable def F175:(D127×((ByteArray×Unit)×Unit))→Option (((Bool×Unit)×Unit)):=fun x0=>some ((sEq x0.1.1 x0.2.1.1,()),())
noncomputable def c175:Con:=⟨i175,o175,F175⟩
def i129:List Grp:= [⟨.c,(.cons (.sl e163) .nil),[]⟩,⟨.c,(.cons .str .nil),[]⟩]
def o129:List Grp:= [⟨.c,(.cons .bool .nil),[]⟩]
noncomputable def F129:((List D163×Unit)×((ByteArray×Unit)×Unit))→Option (((Bool×Unit)×Unit)):=fun x0=>(F174 (x0.1,(((fun p1=>(F175 ((p1.1,(p1.2.1,())),((x0.2.1.1,()),()))).bind fun y2=>some (y2.1.1,())),()),()))).bind fun y3=>some (y3.1,())
noncomputable def c129:Con:=⟨i129,o129,F129⟩
def i169:List Grp:= [⟨.c,(.cons (.sl e163) .nil),[]⟩,⟨.c,(.cons (.sl e9) .nil),[]⟩]
def o169:List Grp:= [⟨.c,(.cons .bool .nil),[]⟩]
noncomputable def F169.b0 (x0:((List D163×Unit)×((List D9×Unit)×Unit))):(v1:(Int×Unit))→Option (Sum (Int×Unit) (Sum (Int×Unit) (((Bool×Unit)×Unit)))):=fun v1=>bif iLt v1.1 (List.length x0.2.1.1:Int) then (getI x0.2.1.1 v1.1).bind fun x2=>(F129 (x0.1,(x2,()))).bind fun y3=>bif (!y3.1.1) then some (.inr (.inr ((false,()),()))) else some (.inl (iAdd .i64 v1.1 (1:Int),())) else some (.inr (.inl (v1.1,())))
noncomputable def F169:((List D163×Unit)×((List D9×Unit)×Unit))→Option (((Bool×Unit)×Unit)):=fun x0=>(loopF (F169.b0 x0) ((0:Int),())).bind fun r5=>Sum.elim (fun v4=>some ((true,()),())) some r5
noncomputable def c169:Con:=⟨i169,o169,F169⟩
def i126:List Grp:= [⟨.c,(.cons (.sl e163) .nil),[]⟩,⟨.agg,e29,[]⟩]
def o126:List Grp:= [⟨.c,(.cons .bool .nil),[]⟩]
noncomputable def F126:((List D163×Unit)×(D29×Unit))→Option (((Bool×Unit)×Unit)):=fun x0=>(F166 (x0.2.1,())).bind fun y1=>bif y1.1.1 then some ((true,()),()) else (F167 (x0.2.1,(((10000:Int),()),(((100000:Int),()),())))).bind fun y2=>bif y2.1.1 then (F168 (x0.1,((x0.2.1.2.2.1,()),()))).bind fun y3=>bif y3.1.1 then (F169 (x0.1,((x0.2.1.2.2.1,()),()))).bind fun y4=>some (y4.1,()) else some ((false,()),()) else some ((false,()),())
noncomputable def c126:Con:=⟨i126,o126,F126⟩
def i170:List Grp:= [⟨.agg,e32,[]⟩]
def o170:List Grp:= [⟨.c,(.cons .bool .nil),[]⟩]
noncomputable def F170:(D32×Unit)→Option (((Bool×Unit)×Unit)):=fun x0=>bif iEq x0.1.1 (0:Int) then bif iEq (List.length x0.1.2.1:Int) (0:Int) then some ((iEq (List.length x0.1.2.2.1:Int) (0:Int),()),()) else some ((false,()),()) else some ((false,()),())
noncomputable def c170:Con:=⟨i170,o170,F170⟩
def i171:List Grp:= [⟨.agg,e32,[]⟩,⟨.c,(.cons (.int .i64) .nil),[]⟩]
def o171:List Grp:= [⟨.c,(.cons .bool .nil),[]⟩]
noncomputable def F171.b0 (x0:(D32×((Int×Unit)×Unit))):(v2:(Int×Unit))→Option (Sum (Int×Unit) (Sum (Int×Unit) (((Bool×Unit)×Unit)))):=fun v2=>bif iLt v2.1 (List.length x0.1.2.2.1:Int) then (getI x0.1.2.2.1 v2.1).bind fun x3=>(F125 (x3,(((0:Int),()),((iSub .i64 x0.1.1 (1:Int),()),())))).bind fun y4=>bif (!y4.1.1) then some (.inr (.inr ((false,()),()))) else some (.inl (iAdd .i64 v2.1 (1:Int),())) else some (.inr (.inl (v2.1,())))
noncomputable def F171:(D32×((Int×Unit)×Unit))→Option (((Bool×Unit)×Unit)):=fun x0=>(F170 (x0.1,())).bind fun y1=>bif y1.1.1 then some ((true,()),()) else (loopF (F171.b0 x0) ((0:Int),())).bind fun r6=>Sum.elim (fun v5=>(F125 ((x0.1.1,()),(((1:Int),()),(x0.2.1,())))).bind fun y7=>bif y7.1.1 then (F199 ((x0.1.2.1,()),())).bind fun y8=>bif y8.1.1 then some ((iEq (List.length x0.1.2.2.1:Int) (List.length x0.1.2.1:Int),()),()) else some ((false,()),()) else some ((false,()),())) some r6
noncomputable def c171:Con:=⟨i171,o171,F171⟩
def i127:List Grp:= [⟨.c,(.cons (.sl e163) .nil),[]⟩,⟨.agg,e32,[]⟩]
def o127:List Grp:= [⟨.c,(.cons .bool .nil),[]⟩]
noncomputable def F127:((List D163×Unit)×(D32×Unit))→Option (((Bool×Unit)×Unit)):=fun x0=>(F170 (x0.2.1,())).bind fun y1=>bif y1.1.1 then some ((true,()),()) else (F171 (x0.2.1,(((10000:Int),()),()))).bind fun y2=>bif y2.1.1 then (F168 (x0.1,((x0.2.1.2.1,()),()))).bind fun y3=>bif y3.1.1 then (F169 (x0.1,((x0.2.1.2.1,()),()))).bind fun y4=>some (y4.1,()) else some ((false,()),()) else some ((false,()),())
noncomputable def c127:Con:=⟨i127,o127,F127⟩
def i202:List Grp:= [⟨.c,(.cons (.sl e169) .nil),[]⟩]
def o202:List Grp:= [⟨.c,(.cons .bool .nil),[]⟩]
noncomputable def F202.b0 (x0:((List D169×Unit)×Unit)):(v1:(Int×Unit))→Option (Sum (Int×Unit) (Sum (Int×Unit) (((Bool×Unit)×Unit)))):=fun v1=>bif iLt v1.1 (List.length x0.1.1:Int) then (getI x0.1.1 v1.1).bind fun x2=>(F164 (x2,())).bind fun y3=>bif (!y3.1.1) then some (.inr (.inr ((false,()),()))) else some (.inl (iAdd .i64 v1.1 (1:Int),())) else some (.inr (.inl (v1.1,())))
noncomputable def F202:((List D169×Unit)×Unit)→Option (((Bool×Unit)×Unit)):=fun x0=>(loopF (F202.b0 x0) ((0:Int),())).bind fun r5=>Sum.elim (fun v4=>some ((true,()),())) some r5
noncomputable def c202:Con:=⟨i202,o202,F202⟩
def i172:List Grp:= [⟨.agg,e154,[]⟩]
def o172:List Grp:= [⟨.c,(.cons .bool .nil),[]⟩]
noncomputable def F172:(D154×Unit)→Option (((Bool×Unit)×Unit)):=fun x0=>(F125 ((x0.1.1,()),(((0:Int),()),(((100000:Int),()),())))).bind fun y1=>bif (!y1.1.1) then some ((false,()),()) else (F125 ((x0.1.2.1,()),(((0:Int),()),(((900:Int),()),())))).bind fun y2=>bif (!y2.1.1) then some ((false,()),()) else (F125 ((x0.1.2.2.1,()),(((1:Int),()),(((10000:Int),()),())))).bind fun y3=>bif (!y3.1.1) then some ((false,()),()) else (F121 ((x0.1.2.2.2.1,()),())).bind fun y4=>bif (!y4.1.1) then some ((false,()),()) else (F167 ((x0.1.2.2.2.2.1,(x0.1.2.2.2.2.2.1,(x0.1.2.2.2.2.2.2.1,()))),((iSub .i64 x0.1.2.2.1 (1:Int),()),((iSub .i64 x0.1.1 (1:Int),()),())))).bind fun y5=>bif (!y5.1.1) then some ((false,()),()) else (F171 ((x0.1.2.2.2.2.2.2.2.1,(x0.1.2.2.2.2.2.2.2.2.1,(x0.1.2.2.2.2.2.2.2.2.2.1,()))),((iSub .i64 x0.1.2.2.1 (1:Int),()),()))).bind fun y6=>bif (!y6.1.1) then some ((false,()),()) else bif iLt (4:Int) (List.length x0.1.2.2.2.2.2.2.2.2.2.2.1:Int) then some ((false,()),()) else (F202 ((x0.1.2.2.2.2.2.2.2.2.2.2.1,()),())).bind fun y7=>bif (!y7.1.1) then some ((false,()),()) else bif (!x0.1.2.2.2.2.2.2.2.2.2.2.2.1) then bif iEq (List.length x0.1.2.2.2.2.2.2.2.2.2.2.2.2.1:Int) (0:Int) then some ((sEq x0.1.2.2.2.2.2.2.2.2.2.2.2.2.2.1 ⟨#[]⟩,()),()) else some ((false,()),()) else (F123 ((x0.1.2.2.2.2.2.2.2.2.2.2.2.2.1,()),())).bind fun y8=>bif y8.1.1 then some ((iEq (ByteArray.size x0.1.2.2.2.2.2.2.2.2.2.2.2.2.2.1:Int) (32:Int),()),()) else some ((false,()),())
noncomputable def c172:Con:=⟨i172,o172,F172⟩
def i203:List Grp:= [⟨.c,(.cons (.sl e154) .nil),[]⟩,⟨.c,(.cons (.fn [15] (.cons (.int .i64) (.cons (.int .i64) (.cons (.int .i64) (.cons .str (.cons (.int .i64) (.cons (.int .i64) (.cons (.sl e9) (.cons (.int .i64) (.cons (.sl e9) (.cons (.sl e3) (.cons (.sl e169) (.cons .bool (.cons (.sl e163) (.cons .str .nil)))))))))))))) (.cons .bool .nil)) .nil),[]⟩]
def o203:List Grp:= [⟨.c,(.cons (.int .i64) .nil),[]⟩]
noncomputable def F203.b0 (x0:((List D154×Unit)×(((D154→Option (Bool×Unit))×Unit)×Unit))):(v1:(Int×Unit))→Option (Sum (Int×Unit) (Sum (Int×Unit) (((Int×Unit)×Unit)))):=fun v1=>bif iLt v1.1 (List.length x0.1.1:Int) then (getI x0.1.1 v1.1).bind fun x2=>(x0.2.1.1 x2).bind fun y3=>bif y3.1 then some (.inr (.inr ((v1.1,()),()))) else some (.inl (iAdd .i64 v1.1 (1:Int),())) else some (.inr (.inl (v1.1,())))
noncomputable def F203:((List D154×Unit)×(((D154→Option (Bool×Unit))×Unit)×Unit))→Option (((Int×Unit)×Unit)):=fun x0=>(loopF (F203.b0 x0) ((0:Int),())).bind fun r5=>Sum.elim (fun v4=>some (((-1:Int),()),())) some r5
noncomputable def c203:Con:=⟨i203,o203,F203⟩
def i204:List Grp:= [⟨.agg,e154,[]⟩,⟨.rp,(.cons (.int .i64) .nil),[]⟩]
def o204:List Grp:= [⟨.c,(.cons .bool .nil),[]⟩]
noncomputable def F204:(D154×((Int×Unit)×Unit))→Option (((Bool×Unit)×Unit)):=fun x0=>some ((iEq x0.1.1 x0.2.1.1,()),())
noncomputable def c204:Con:=⟨i204,o204,F204⟩
def i173:List Grp:= [⟨.c,(.cons (.sl e154) .nil),[]⟩,⟨.c,(.cons (.int .i64) .nil),[]⟩]
def o173:List Grp:= [⟨.c,(.cons (.int .i64) .nil),[]⟩]
noncomputable def F173:((List D154×Unit)×((Int×Unit)×Unit))→Option (((Int×Unit)×Unit)):=fun x0=>(F203 (x0.1,(((fun p1=>(F204 ((p1.1,(p1.2.1,(p1.2.2.1,(p1.2.2.2.1,(p1.2.2.2.2.1,(p1.2.2.2.2.2.1,(p1.2.2.2.2.2.2.1,(p1.2.2.2.2.2.2.2.1,(p1.2.2.2.2.2.2.2.2.1,(p1.2.2.2.2.2.2.2.2.2.1,(p1.2.2.2.2.2.2.2.2.2.2.1,(p1.2.2.2.2.2.2.2.2.2.2.2.1,(p1.2.2.2.2.2.2.2.2.2.2.2.2.1,(p1.2.2.2.2.2.2.2.2.2.2.2.2.2.1,())))))))))))))),((x0.2.1.1,()),()))).bind fun y2=>some (y2.1.1,())),()),()))).bind fun y3=>some (y3.1,())
noncomputable def c173:Con:=⟨i173,o173,F173⟩
def i128:List Grp:= [⟨.c,(.cons (.sl e154) .nil),[]⟩]
def o128:List Grp:= [⟨.c,(.cons .bool .nil),[]⟩]
noncomputable def F128.b0 (x0:((List D154×Unit)×Unit)):(v1:(Int×Unit))→Option (Sum (Int×Unit) (Sum (Int×Unit) (((Bool×Unit)×Unit)))):=fun v1=>bif iLt v1.1 (List.length x0.1.1:Int) then (getI x0.1.1 v1.1).bind fun x2=>Option.bind ((F172 (x2,())).bind fun y3=>bif (!y3.1.1) then some (.inr (.inr (.inr ((false,()),())))) else (getI x0.1.1 (0:Int)).bind fun x4=>bif !iEq x2.2.1 x4.2.1 then some (.inr (.inr (.inr ((false,()),())))) else bif iLt (0:Int) v1.1 then (getI x0.1.1 (iSub .i64 v1.1 (1:Int))).bind fun x5=>bif iLe x2.1 x5.1 then some (.inr (.inr (.inr ((false,()),())))) else some (.inl ()) else some (.inl ())) fun r7=>Sum.elim (fun v6=>(F166 ((x2.2.2.2.2.1,(x2.2.2.2.2.2.1,(x2.2.2.2.2.2.2.1,()))),())).bind fun y8=>bif y8.1.1 then some (.inl (iAdd .i64 v1.1 (1:Int),())) else (F173 (x0.1,((x2.2.2.2.2.2.1,()),()))).bind fun y9=>bif iLt y9.1.1 (0:Int) then some (.inr (.inr ((false,()),()))) else (getI x0.1.1 y9.1.1).bind fun x10=>bif !iEq x10.2.2.1 x2.2.2.2.2.1 then some (.inr (.inr ((false,()),()))) else some (.inl (iAdd .i64 v1.1 (1:Int),()))) some r7 else some (.inr (.inl (v1.1,())))
noncomputable def F128:((List D154×Unit)×Unit)→Option (((Bool×Unit)×Unit)):=fun x0=>(loopF (F128.b0 x0) ((0:Int),())).bind fun r12=>Sum.elim (fun v11=>some ((iLe (List.length x0.1.1:Int) (400:Int),()),())) some r12
noncomputable def c128:Con:=⟨i128,o128,F128⟩
def i41:List Grp:= [⟨.agg,e52,[]⟩]
def o41:List Grp:= [⟨.c,(.cons .bool .nil),[]⟩]
noncomputable def F41:(D52×Unit)→Option (((Bool×Unit)×Unit)):=fun x0=>Option.bind ((F121 ((x0.1.1,()),())).bind fun y1=>bif (!y1.1.1) then some (.inr ((false,()),())) else (F122 ((x0.1.2.2.1,(x0.1.2.2.2.1,())),())).bind fun y2=>bif (!y2.1.1) then some (.inr ((false,()),())) else bif !iEq x0.1.2.2.1 x0.1.2.1 then some (.inr ((false,()),())) else bif iLt (0:Int) (List.length x0.1.2.2.2.2.1:Int) then (F123 ((x0.1.2.2.2.2.1,()),())).bind fun y3=>bif (!y3.1.1) then some (.inr ((false,()),())) else (F124 ((x0.1.2.2.2.2.2.2.2.2.2.2.2.2.2.2.2.2.2.2.1,()),())).bind fun y4=>bif (!y4.1.1) then some (.inr ((false,()),())) else some (.inl ()) else (F124 ((x0.1.2.2.2.2.2.2.2.2.2.2.2.2.2.2.2.2.2.2.1,()),())).bind fun y5=>bif (!y5.1.1) then some (.inr ((false,()),())) else some (.inl ())) fun r7=>Sum.elim (fun v6=>(F125 ((x0.1.2.2.2.2.2.2.1,()),(((1:Int),()),(((10000:Int),()),())))).bind fun y8=>bif (!y8.1.1) then some ((false,()),()) else (F125 ((x0.1.2.2.2.2.2.2.2.1,()),(((0:Int),()),(((10000:Int),()),())))).bind fun y9=>bif (!y9.1.1) then some ((false,()),()) else (F125 ((x0.1.2.2.2.2.2.2.2.2.2.2.2.2.2.2.1,()),(((0:Int),()),(((10000:Int),()),())))).bind fun y10=>bif (!y10.1.1) then some ((false,()),()) else (F126 ((x0.1.2.2.2.2.1,()),((x0.1.2.2.2.2.2.2.2.2.1,(x0.1.2.2.2.2.2.2.2.2.2.1,(x0.1.2.2.2.2.2.2.2.2.2.2.1,()))),()))).bind fun y11=>bif (!y11.1.1) then some ((false,()),()) else (F127 ((x0.1.2.2.2.2.1,()),((x0.1.2.2.2.2.2.2.2.2.2.2.2.1,(x0.1.2.2.2.2.2.2.2.2.2.2.2.2.1,(x0.1.2.2.2.2.2.2.2.2.2.2.2.2.2.1,()))),()))).bind fun y12=>bif (!y12.1.1) then some ((false,()),()) else bif iLe x0.1.2.2.2.2.2.2.1 x0.1.2.2.2.2.2.2.2.2.1 then some ((false,()),()) else bif iLe x0.1.2.2.2.2.2.2.1 x0.1.2.2.2.2.2.2.2.2.2.2.2.1 then some ((false,()),()) else bif iLt (1000:Int) (List.length x0.1.2.2.2.2.2.2.2.2.2.2.2.2.2.2.2.1:Int) then some ((false,()),()) else bif iLt (1000:Int) (List.length x0.1.2.2.2.2.2.2.2.2.2.2.2.2.2.2.2.2.1:Int) then some ((false,()),()) else bif iLt (200:Int) (List.length x0.1.2.2.2.2.2.2.2.2.2.2.2.2.2.2.2.2.2.1:Int) then some ((false,()),()) else bif iLt (200:Int) (List.length x0.1.2.2.2.2.2.2.2.2.2.2.2.2.2.2.2.2.2.2.2.1:Int) then some ((false,()),()) else (F128 ((x0.1.2.2.2.2.2.1,()),())).bind fun y13=>bif y13.1.1 then bif iEq (List.length x0.1.2.2.2.2.2.1:Int) (0:Int) then some ((true,()),()) else (getI x0.1.2.2.2.2.2.1 (0:Int)).bind fun x14=>some ((iEq x14.2.1 x0.1.2.1,()),()) else some ((false,()),())) some r7
noncomputable def c41:Con:=⟨i41,o41,F41⟩
def i176:List Grp:= [⟨.agg,e109,[]⟩]
def o176:List Grp:= [⟨.agg,e109,m5⟩]
noncomputable def F176:(D109×Unit)→Option ((D109×Unit)):=fun x0=>(F113 ((x0.1.2.2.2.1,()),())).bind fun y1=>(F114 ((x0.1.2.2.2.2.2.2.2.2.2.2.1,(x0.1.2.2.2.2.2.2.2.2.2.2.2.1,(x0.1.2.2.2.2.2.2.2.2.2.2.2.2.1,()))),())).bind fun y2=>(F115 ((x0.1.2.2.2.2.2.2.2.2.2.2.2.2.2.1,(x0.1.2.2.2.2.2.2.2.2.2.2.2.2.2.2.1,(x0.1.2.2.2.2.2.2.2.2.2.2.2.2.2.2.2.1,()))),())).bind fun y3=>some ((x0.1.1,(x0.1.2.1,(x0.1.2.2.1,(y1.1.1,(x0.1.2.2.2.2.1,(x0.1.2.2.2.2.2.1,(x0.1.2.2.2.2.2.2.1,(x0.1.2.2.2.2.2.2.2.1,(x0.1.2.2.2.2.2.2.2.2.1,(x0.1.2.2.2.2.2.2.2.2.2.1,(y2.1.1,(y2.1.2.1,(y2.1.2.2.1,(y3.1.1,(y3.1.2.1,(y3.1.2.2.1,())))))))))))))))),())
noncomputable def c176:Con:=⟨i176,o176,F176⟩
def i130:List Grp:= [⟨.rp,e52,[]⟩,⟨.agg,e109,[]⟩]
def o130:List Grp:= [⟨.c,(.cons (.sl e109) .nil),[(.own m5)]⟩]
noncomputable def F130.b0 (x0:(D52×(D109×Unit))):(v1:(List (D109)×(Int×Unit)))→Option (Sum (List (D109)×(Int×Unit)) (Sum (List (D109)×(Int×Unit)) (((List D109×Unit)×Unit)))):=fun v1=>bif iLt v1.2.1 (List.length x0.1.2.2.2.2.1:Int) then (getI x0.1.2.2.2.2.1 v1.2.1).bind fun x2=>bif !sEq x2.1 x0.1.1 then (F176 (x0.2.1,())).bind fun y3=>bif room (List.length v1.1+List.length ([(y3.1.1,(x2.1,(x0.1.2.1,(y3.1.2.2.2.1,(y3.1.2.2.2.2.1,(y3.1.2.2.2.2.2.1,(y3.1.2.2.2.2.2.2.1,(y3.1.2.2.2.2.2.2.2.1,(y3.1.2.2.2.2.2.2.2.2.1,(y3.1.2.2.2.2.2.2.2.2.2.1,(y3.1.2.2.2.2.2.2.2.2.2.2.1,(y3.1.2.2.2.2.2.2.2.2.2.2.2.1,(y3.1.2.2.2.2.2.2.2.2.2.2.2.2.1,(y3.1.2.2.2.2.2.2.2.2.2.2.2.2.2.1,(y3.1.2.2.2.2.2.2.2.2.2.2.2.2.2.2.1,(y3.1.2.2.2.2.2.2.2.2.2.2.2.2.2.2.2.1,()))))))))))))))))]:List (D109))) 216 then some (.inl (lapp v1.1 ([(y3.1.1,(x2.1,(x0.1.2.1,(y3.1.2.2.2.1,(y3.1.2.2.2.2.1,(y3.1.2.2.2.2.2.1,(y3.1.2.2.2.2.2.2.1,(y3.1.2.2.2.2.2.2.2.1,(y3.1.2.2.2.2.2.2.2.2.1,(y3.1.2.2.2.2.2.2.2.2.2.1,(y3.1.2.2.2.2.2.2.2.2.2.2.1,(y3.1.2.2.2.2.2.2.2.2.2.2.2.1,(y3.1.2.2.2.2.2.2.2.2.2.2.2.2.1,(y3.1.2.2.2.2.2.2.2.2.2.2.2.2.2.1,(y3.1.2.2.2.2.2.2.2.2.2.2.2.2.2.2.1,(y3.1.2.2.2.2.2.2.2.2.2.2.2.2.2.2.2.1,()))))))))))))))))]:List (D109)),(iAdd .i64 v1.2.1 (1:Int),()))) else none else some (.inl (v1.1,(iAdd .i64 v1.2.1 (1:Int),()))) else some (.inr (.inl (v1.1,(v1.2.1,()))))
noncomputable def F130:(D52×(D109×Unit))→Option (((List D109×Unit)×Unit)):=fun x0=>(loopF (F130.b0 x0) ([],((0:Int),()))).bind fun r5=>Sum.elim (fun v4=>some ((v4.1,()),())) some r5
noncomputable def c130:Con:=⟨i130,o130,F130⟩
def i131:List Grp:= [⟨.c,(.cons (.int .i64) .nil),[]⟩,⟨.agg,e132,[]⟩]
def o131:List Grp:= [⟨.agg,e112,[]⟩]
noncomputable def F131:((Int×Unit)×(D132×Unit))→Option ((D112×Unit)):=fun x0=>some (((2:Int),(x0.1.1,(x0.2.1.1,(x0.2.1.2.1,(x0.2.1.2.2.1,()))))),())
noncomputable def c131:Con:=⟨i131,o131,F131⟩
def i222:List Grp:= [⟨.c,(.cons (.sl e154) .nil),[]⟩,⟨.agg,e29,[]⟩]
def o222:List Grp:= [⟨.c,(.cons (.int .i64) .nil),[]⟩]
noncomputable def F222:((List D154×Unit)×(D29×Unit))→Option (((Int×Unit)×Unit)):=fun x0=>(F173 (x0.1,((x0.2.1.2.1,()),()))).bind fun y1=>bif iLt y1.1.1 (0:Int) then some (((-1:Int),()),()) else (getI x0.1.1 y1.1.1).bind fun x2=>bif !iEq x2.2.2.1 x0.2.1.1 then some (((-1:Int),()),()) else (getI x0.1.1 y1.1.1).bind fun x3=>(F173 (x0.1,((x3.2.2.2.2.2.1,()),()))).bind fun y4=>bif iLt y4.1.1 (0:Int) then some (((-1:Int),()),()) else (getI x0.1.1 y4.1.1).bind fun x5=>(getI x0.1.1 y1.1.1).bind fun x6=>bif !iEq x5.2.2.1 (iSub .i64 x6.2.2.1 (1:Int)) then some (((-1:Int),()),()) else (getI x0.1.1 y4.1.1).bind fun x7=>some ((x7.1,()),())
noncomputable def c222:Con:=⟨i222,o222,F222⟩
def i236:List Grp:= [⟨.wc,(.cons (.sl e3) .nil),[(.own [])]⟩]
def o236:List Grp:= [⟨.wc,(.cons (.sl e3) .nil),[(.own [])]⟩]
noncomputable def F236.b0:(v1:(Int×(Int×(List (D3)×Unit))))→Option (Sum (Int×(Int×(List (D3)×Unit))) (Sum (Int×(Int×(List (D3)×Unit))) (((List D3×Unit)×Unit)))):=fun v1=>bif iLt v1.1 v1.2.1 then (getI v1.2.2.1 v1.2.1).bind fun _=>(getN v1.2.2.1 (Int.toNat v1.2.1)).bind fun x2=>(getI v1.2.2.1 v1.1).bind fun _=>(getN v1.2.2.1 (Int.toNat v1.1)).bind fun x3=>(getI v1.2.2.1 v1.1).bind fun _=>(getN v1.2.2.1 (Int.toNat v1.1)).bind fun x4=>(some (List.set v1.2.2.1 (Int.toNat v1.1) (x2.1,()))).bind fun z5=>(getI z5 v1.2.1).bind fun _=>(getN z5 (Int.toNat v1.2.1)).bind fun x6=>(some (List.set z5 (Int.toNat v1.2.1) (x3.1,()))).bind fun z7=>some (.inl (iAdd .i64 v1.1 (1:Int),(iSub .i64 v1.2.1 (1:Int),(z7,())))) else some (.inr (.inl (v1.1,(v1.2.1,(v1.2.2.1,())))))
noncomputable def F236:((List D3×Unit)×Unit)→Option (((List D3×Unit)×Unit)):=fun x0=>(loopF F236.b0 ((0:Int),(iSub .i64 (List.length x0.1.1:Int) (1:Int),(x0.1.1,())))).bind fun r9=>Sum.elim (fun v8=>some ((v8.2.2.1,()),())) some r9
noncomputable def c236:Con:=⟨i236,o236,F236⟩
def i223:List Grp:= [⟨.c,(.cons (.sl e154) .nil),[]⟩,⟨.c,(.cons (.int .i64) .nil),[]⟩]
def o223:List Grp:= [⟨.c,(.cons (.sl e3) .nil),[(.own [])]⟩]
noncomputable def F223.b0 (x0:((List D154×Unit)×((Int×Unit)×Unit))):(v2:(List (D3)×(Int×Unit)))→Option (Sum (List (D3)×(Int×Unit)) (Sum (List (D3)×(Int×Unit)) (((List D3×Unit)×Unit)))):=fun v2=>bif iLe (0:Int) v2.2.1 then (getI x0.1.1 v2.2.1).bind fun x3=>bif room (List.length v2.1+List.length ([(x3.1,())]:List (D3))) 8 then (getI x0.1.1 v2.2.1).bind fun x4=>(F173 (x0.1,((x4.2.2.2.2.2.1,()),()))).bind fun y5=>some (.inl (lapp v2.1 ([(x3.1,())]:List (D3)),(y5.1.1,()))) else none else some (.inr (.inl (v2.1,(v2.2.1,()))))
noncomputable def F223:((List D154×Unit)×((Int×Unit)×Unit))→Option (((List D3×Unit)×Unit)):=fun x0=>(F173 (x0.1,(x0.2.1,()))).bind fun y1=>(loopF (F223.b0 x0) ([],(y1.1.1,()))).bind fun r7=>Sum.elim (fun v6=>(F236 ((v6.1,()),())).bind fun y8=>some (y8.1,())) some r7
noncomputable def c223:Con:=⟨i223,o223,F223⟩
def i237:List Grp:= [⟨.c,(.cons (.sl e3) .nil),[]⟩,⟨.c,(.cons (.fn [0] (.cons (.int .i64) .nil) (.cons .bool .nil)) .nil),[]⟩]
def o237:List Grp:= [⟨.c,(.cons (.int .i64) .nil),[]⟩]
noncomputable def F237.b0 (x0:((List D3×Unit)×((((Int×Unit)→Option (Bool×Unit))×Unit)×Unit))):(v1:(Int×Unit))→Option (Sum (Int×Unit) (Sum (Int×Unit) (((Int×Unit)×Unit)))):=fun v1=>bif iLt v1.1 (List.length x0.1.1:Int) then (getI x0.1.1 v1.1).bind fun x2=>(x0.2.1.1 x2).bind fun y3=>bif y3.1 then some (.inr (.inr ((v1.1,()),()))) else some (.inl (iAdd .i64 v1.1 (1:Int),())) else some (.inr (.inl (v1.1,())))
noncomputable def F237:((List D3×Unit)×((((Int×Unit)→Option (Bool×Unit))×Unit)×Unit))→Option (((Int×Unit)×Unit)):=fun x0=>(loopF (F237.b0 x0) ((0:Int),())).bind fun r5=>Sum.elim (fun v4=>some (((-1:Int),()),())) some r5
noncomputable def c237:Con:=⟨i237,o237,F237⟩
def i238:List Grp:= [⟨.c,(.cons (.int .i64) .nil),[]⟩,⟨.rp,(.cons (.sl e154) .nil),[]⟩]
def o238:List Grp:= [⟨.c,(.cons .bool .nil),[]⟩]
noncomputable def F238:((Int×Unit)×((List D154×Unit)×Unit))→Option (((Bool×Unit)×Unit)):=fun x0=>(F173 (x0.2.1,(x0.1,()))).bind fun y1=>(getI x0.2.1.1 y1.1.1).bind fun x2=>some ((x2.2.2.2.2.2.2.2.2.2.2.2.1,()),())
noncomputable def c238:Con:=⟨i238,o238,F238⟩
def i224:List Grp:= [⟨.c,(.cons (.sl e154) .nil),[]⟩,⟨.c,(.cons (.sl e3) .nil),[]⟩]
def o224:List Grp:= [⟨.c,(.cons (.int .i64) .nil),[]⟩]
noncomputable def F224:((List D154×Unit)×((List D3×Unit)×Unit))→Option (((Int×Unit)×Unit)):=fun x0=>(F237 (x0.2.1,(((fun p1=>(F238 ((p1.1,()),((x0.1.1,()),()))).bind fun y2=>some (y2.1.1,())),()),()))).bind fun y3=>some (y3.1,())
noncomputable def c224:Con:=⟨i224,o224,F224⟩
def i239:List Grp:= [⟨.c,(.cons (.sl e3) .nil),[]⟩,⟨.c,(.cons (.int .i64) .nil),[]⟩]
def o239:List Grp:= [⟨.c,(.cons (.int .i64) .nil),[]⟩]
noncomputable def F239.b0 (x0:((List D3×Unit)×((Int×Unit)×Unit))):(v1:(Int×Unit))→Option (Sum (Int×Unit) (Sum (Int×Unit) (((Int×Unit)×Unit)))):=fun v1=>bif iLt v1.1 (List.length x0.1.1:Int) then (getI x0.1.1 v1.1).bind fun x2=>bif iEq x0.2.1.1 x2.1 then some (.inr (.inr ((v1.1,()),()))) else some (.inl (iAdd .i64 v1.1 (1:Int),())) else some (.inr (.inl (v1.1,())))
noncomputable def F239:((List D3×Unit)×((Int×Unit)×Unit))→Option (((Int×Unit)×Unit)):=fun x0=>(loopF (F239.b0 x0) ((0:Int),())).bind fun r4=>Sum.elim (fun v3=>some (((-1:Int),()),())) some r4
noncomputable def c239:Con:=⟨i239,o239,F239⟩
def i225:List Grp:= [⟨.c,(.cons (.sl e3) .nil),[]⟩,⟨.c,(.cons (.int .i64) .nil),[]⟩]
def o225:List Grp:= [⟨.c,(.cons .bool .nil),[]⟩]
noncomputable def F225:((List D3×Unit)×((Int×Unit)×Unit))→Option (((Bool×Unit)×Unit)):=fun x0=>(F239 (x0.1,(x0.2.1,()))).bind fun y1=>some ((iLe (0:Int) y1.1.1,()),())
noncomputable def c225:Con:=⟨i225,o225,F225⟩
def i246:List Grp:= [⟨.c,(.cons (.sl e207) .nil),[]⟩,⟨.c,(.cons (.fn [6] (.cons .str (.cons (.int .i64) (.cons (.int .i64) (.cons (.int .i64) (.cons (.sl e229) .nil))))) (.cons .bool .nil)) .nil),[]⟩]
def o246:List Grp:= [⟨.c,(.cons (.int .i64) .nil),[]⟩]
noncomputable def F246.b0 (x0:((List D207×Unit)×(((D207→Option (Bool×Unit))×Unit)×Unit))):(v1:(Int×Unit))→Option (Sum (Int×Unit) (Sum (Int×Unit) (((Int×Unit)×Unit)))):=fun v1=>bif iLt v1.1 (List.length x0.1.1:Int) then (getI x0.1.1 v1.1).bind fun x2=>(x0.2.1.1 x2).bind fun y3=>bif y3.1 then some (.inr (.inr ((v1.1,()),()))) else some (.inl (iAdd .i64 v1.1 (1:Int),())) else some (.inr (.inl (v1.1,())))
noncomputable def F246:((List D207×Unit)×(((D207→Option (Bool×Unit))×Unit)×Unit))→Option (((Int×Unit)×Unit)):=fun x0=>(loopF (F246.b0 x0) ((0:Int),())).bind fun r5=>Sum.elim (fun v4=>some (((-1:Int),()),())) some r5
noncomputable def c246:Con:=⟨i246,o246,F246⟩
def i247:List Grp:= [⟨.agg,e207,[]⟩,⟨.rp,(.cons .str .nil),[]⟩]
def o247:List Grp:= [⟨.c,(.cons .bool .nil),[]⟩]
noncomputable def F247:(D207×((ByteArray×Unit)×Unit))→Option (((Bool×Unit)×Unit)):=fun x0=>some ((sEq x0.1.1 x0.2.1.1,()),())
noncomputable def c247:Con:=⟨i247,o247,F247⟩
def i241:List Grp:= [⟨.c,(.cons (.sl e207) .nil),[]⟩,⟨.c,(.cons .str .nil),[]⟩]
def o241:List Grp:= [⟨.c,(.cons (.int .i64) .nil),[]⟩]
noncomputable def F241:((List D207×Unit)×((ByteArray×Unit)×Unit))→Option (((Int×Unit)×Unit)):=fun x0=>(F246 (x0.1,(((fun p1=>(F247 ((p1.1,(p1.2.1,(p1.2.2.1,(p1.2.2.2.1,(p1.2.2.2.2.1,()))))),((x0.2.1.1,()),()))).bind fun y2=>some (y2.1.1,())),()),()))).bind fun y3=>some (y3.1,())
noncomputable def c241:Con:=⟨i241,o241,F241⟩
def i250:List Grp:= [⟨.rp,e207,[]⟩,⟨.c,(.cons (.int .i64) .nil),[]⟩]
def o250:List Grp:= [⟨.c,(.cons (.int .i64) .nil),[]⟩]
noncomputable def F250:(D207×((Int×Unit)×Unit))→Option (((Int×Unit)×Unit)):=fun x0=>bif iEq x0.2.1.1 (3:Int) then some ((x0.1.2.2.2.1,()),()) else some ((x0.1.2.1,()),())
noncomputable def c250:Con:=⟨i250,o250,F250⟩
def i254:List Grp:= [⟨.c,(.cons (.sl e207) .nil),[(.own m0)]⟩,⟨.c,(.cons (.int .i64) .nil),[]⟩,⟨.c,(.cons (.sl e207) .nil),[(.own m0)]⟩]
def o254:List Grp:= [⟨.c,(.cons (.sl e207) .nil),[(.own m0)]⟩]
noncomputable def F254:((List D207×Unit)×((Int×Unit)×((List D207×Unit)×Unit)))→Option (((List D207×Unit)×Unit)):=insF e207 64
noncomputable def c254:Con:=⟨i254,o254,F254⟩
def i252:List Grp:= [⟨.c,(.cons (.sl e207) .nil),[(.own m0)]⟩,⟨.c,(.cons .str .nil),[]⟩,⟨.c,(.cons (.int .i64) .nil),[]⟩]
def o252:List Grp:= [⟨.c,(.cons (.sl e207) .nil),[(.own m0)]⟩]
noncomputable def F252.b0 (x0:((List D207×Unit)×((ByteArray×Unit)×((Int×Unit)×Unit)))):(v5:(Int×Unit))→Option (Sum (Int×Unit) (Sum (Int×Unit) (((List D207×Unit)×Unit)))):=fun v5=>bif iLt v5.1 (List.length x0.1.1:Int) then (getI x0.1.1 v5.1).bind fun _=>(getN x0.1.1 (Int.toNat v5.1)).bind fun x6=>bif sLt x6.1 x0.2.1.1 then some (.inl (iAdd .i64 v5.1 (1:Int),())) else some (.inr (.inl (v5.1,()))) else some (.inr (.inl (v5.1,())))
noncomputable def F252:((List D207×Unit)×((ByteArray×Unit)×((Int×Unit)×Unit)))→Option (((List D207×Unit)×Unit)):=fun x0=>(F241 (x0.1,(x0.2.1,()))).bind fun y1=>bif iLe (0:Int) y1.1.1 then (getI x0.1.1 y1.1.1).bind fun _=>(getN x0.1.1 (Int.toNat y1.1.1)).bind fun x2=>(getI x0.1.1 y1.1.1).bind fun _=>(getN x0.1.1 (Int.toNat y1.1.1)).bind fun x3=>(some (List.set x0.1.1 (Int.toNat y1.1.1) (x3.1,(iAdd .i64 x2.2.1 x0.2.2.1.1,x3.2.2)))).bind fun z4=>some ((z4,()),()) else (loopF (F252.b0 x0) ((0:Int),())).bind fun r8=>Sum.elim (fun v7=>(F254 (x0.1,((v7.1,()),((([(x0.2.1.1,(x0.2.2.1.1,((0:Int),((0:Int),([],())))))]:List (D207)),()),())))).bind fun y9=>some (y9.1,())) some r8
noncomputable def c252:Con:=⟨i252,o252,F252⟩
def i255:List Grp:= [⟨.c,(.cons (.sl e229) .nil),[(.own [])]⟩,⟨.c,(.cons (.int .i64) .nil),[]⟩,⟨.c,(.cons (.sl e229) .nil),[(.own [])]⟩]
def o255:List Grp:= [⟨.c,(.cons (.sl e229) .nil),[(.own [])]⟩]
noncomputable def F255:((List D229×Unit)×((Int×Unit)×((List D229×Unit)×Unit)))→Option (((List D229×Unit)×Unit)):=insF e229 16
noncomputable def c255:Con:=⟨i255,o255,F255⟩
def i253:List Grp:= [⟨.io,e207,m0⟩,⟨.c,(.cons (.int .i64) .nil),[]⟩,⟨.c,(.cons (.int .i64) .nil),[]⟩]
def o253:List Grp:= [⟨.io,e207,m0⟩]
noncomputable def F253.b0 (x0:(D207×((Int×Unit)×((Int×Unit)×Unit)))):(v1:(Int×Unit))→Option (Sum (Int×Unit) (Sum (Int×Unit) ((D207×Unit)))):=fun v1=>bif iLt v1.1 (List.length x0.1.2.2.2.2.1:Int) then (getI x0.1.2.2.2.2.1 v1.1).bind fun _=>(getN x0.1.2.2.2.2.1 (Int.toNat v1.1)).bind fun x2=>bif iEq x2.2.1 x0.2.2.1.1 then (getI x0.1.2.2.2.2.1 v1.1).bind fun _=>(getN x0.1.2.2.2.2.1 (Int.toNat v1.1)).bind fun x3=>(getI x0.1.2.2.2.2.1 v1.1).bind fun _=>(getN x0.1.2.2.2.2.1 (Int.toNat v1.1)).bind fun x4=>(some (List.set x0.1.2.2.2.2.1 (Int.toNat v1.1) (iAdd .i64 x3.1 x0.2.1.1,x4.2))).bind fun z5=>some (.inr (.inr ((x0.1.1,(x0.1.2.1,(x0.1.2.2.1,(x0.1.2.2.2.1,(z5,()))))),()))) else some (.inl (iAdd .i64 v1.1 (1:Int),())) else some (.inr (.inl (v1.1,())))
noncomputable def F253.b1 (x0:(D207×((Int×Unit)×((Int×Unit)×Unit)))):(v8:(Int×Unit))→Option (Sum (Int×Unit) (Sum (Int×Unit) ((D207×Unit)))):=fun v8=>bif iLt v8.1 (List.length x0.1.2.2.2.2.1:Int) then (getI x0.1.2.2.2.2.1 v8.1).bind fun _=>(getN x0.1.2.2.2.2.1 (Int.toNat v8.1)).bind fun x9=>bif iLt x9.2.1 x0.2.2.1.1 then some (.inl (iAdd .i64 v8.1 (1:Int),())) else some (.inr (.inl (v8.1,()))) else some (.inr (.inl (v8.1,())))
noncomputable def F253:(D207×((Int×Unit)×((Int×Unit)×Unit)))→Option ((D207×Unit)):=fun x0=>(loopF (F253.b0 x0) ((0:Int),())).bind fun r7=>Sum.elim (fun v6=>(loopF (F253.b1 x0) ((0:Int),())).bind fun r11=>Sum.elim (fun v10=>(F255 ((x0.1.2.2.2.2.1,()),((v10.1,()),((([(x0.2.1.1,(x0.2.2.1.1,()))]:List (D229)),()),())))).bind fun y12=>some ((x0.1.1,(x0.1.2.1,(x0.1.2.2.1,(x0.1.2.2.2.1,(y12.1.1,()))))),())) some r11) some r7
noncomputable def c253:Con:=⟨i253,o253,F253⟩
def i251:List Grp:= [⟨.agg,e42,[.sh,(.own m0)]⟩,⟨.c,(.cons (.int .i64) .nil),[]⟩,⟨.agg,e137,[]⟩]
def o251:List Grp:= [⟨.agg,e42,[.sh,(.own m0)]⟩]
noncomputable def F251:(D42×((Int×Unit)×(D137×Unit)))→Option ((D42×Unit)):=fun x0=>(getI x0.1.2.1 x0.2.1.1).bind fun _=>(getN x0.1.2.1 (Int.toNat x0.2.1.1)).bind fun x1=>(getN x0.1.2.1 (Int.toNat x0.2.1.1)).bind fun x2=>(some (List.set x0.1.2.1 (Int.toNat x0.2.1.1) (x2.1,(x2.2.1,(iAdd .i64 x1.2.2.1 (1:Int),x2.2.2.2))))).bind fun z3=>Option.bind (bif iEq x0.2.2.1.1 (1:Int) then (getN z3 (Int.toNat x0.2.1.1)).bind fun x4=>(getN z3 (Int.toNat x0.2.1.1)).bind fun x5=>(some (List.set z3 (Int.toNat x0.2.1.1) (x5.1,(iSub .i64 x4.2.1 x0.2.2.1.2.2.2.1,x5.2.2)))).bind fun z6=>(F252 ((z6,()),((x0.2.2.1.2.2.1,()),((x0.2.2.1.2.2.2.1,()),())))).bind fun y7=>some (.inl (y7.1.1,())) else bif iEq x0.2.2.1.1 (2:Int) then (getN z3 (Int.toNat x0.2.1.1)).bind fun x8=>(getN z3 (Int.toNat x0.2.1.1)).bind fun x9=>(some (List.set z3 (Int.toNat x0.2.1.1) (x9.1,(iSub .i64 x8.2.1 x0.2.2.1.2.2.2.1,x9.2.2)))).bind fun z10=>(getN z10 (Int.toNat x0.2.1.1)).bind fun x11=>(getN z10 (Int.toNat x0.2.1.1)).bind fun x12=>(some (List.set z10 (Int.toNat x0.2.1.1) (x12.1,(x12.2.1,(x12.2.2.1,(iAdd .i64 x11.2.2.2.1 x0.2.2.1.2.2.2.1,x12.2.2.2.2)))))).bind fun z13=>some (.inl (z13,())) else bif iEq x0.2.2.1.1 (3:Int) then (getN z3 (Int.toNat x0.2.1.1)).bind fun x14=>(getN z3 (Int.toNat x0.2.1.1)).bind fun x15=>(some (List.set z3 (Int.toNat x0.2.1.1) (x15.1,(x15.2.1,(x15.2.2.1,(iSub .i64 x14.2.2.2.1 x0.2.2.1.2.2.2.1,x15.2.2.2.2)))))).bind fun z16=>(getN z16 (Int.toNat x0.2.1.1)).bind fun x17=>(F253 (x17,((x0.2.2.1.2.2.2.1,()),((iAdd .i64 x0.1.1 (2:Int),()),())))).bind fun y18=>(some (List.set z16 (Int.toNat x0.2.1.1) y18.1)).bind fun z19=>some (.inl (z19,())) else some (.inl (z3,()))) fun r21=>Sum.elim (fun v20=>some ((x0.1.1,(v20.1,())),())) some r21
noncomputable def c251:Con:=⟨i251,o251,F251⟩
def i245:List Grp:= [⟨.agg,e42,[]⟩,⟨.agg,e137,[]⟩]
def o245:List Grp:= [⟨.agg,e42,[.sh,(.own m0)]⟩,⟨.c,(.cons (.int .i64) .nil),[]⟩]
noncomputable def F245:(D42×(D137×Unit))→Option ((D42×((Int×Unit)×Unit))):=fun x0=>(F241 ((x0.1.2.1,()),((x0.2.1.2.1,()),()))).bind fun y1=>(F122 (x0.1,())).bind fun y2=>bif (!y2.1.1) then (F111 (x0.1,())).bind fun y3=>some (y3.1,(((1:Int),()),())) else (F164 (x0.2.1,())).bind fun y4=>bif (!y4.1.1) then (F111 (x0.1,())).bind fun y5=>some (y5.1,(((1:Int),()),())) else bif iLt y1.1.1 (0:Int) then (F111 (x0.1,())).bind fun y6=>some (y6.1,(((2:Int),()),())) else (getI x0.1.2.1 y1.1.1).bind fun x7=>bif !iEq x0.2.1.2.2.2.2.1 x7.2.2.1 then (F111 (x0.1,())).bind fun y8=>some (y8.1,(((3:Int),()),())) else (getI x0.1.2.1 y1.1.1).bind fun x9=>(F250 (x9,((x0.2.1.1,()),()))).bind fun y10=>bif iLt y10.1.1 x0.2.1.2.2.2.1 then (F111 (x0.1,())).bind fun y11=>some (y11.1,(((4:Int),()),())) else (F111 (x0.1,())).bind fun y12=>(F251 (y12.1,(y1.1,(x0.2.1,())))).bind fun y13=>(F122 (y13.1,())).bind fun y14=>bif (!y14.1.1) then (F111 (x0.1,())).bind fun y15=>some (y15.1,(((5:Int),()),())) else some (y13.1,(((0:Int),()),()))
noncomputable def c245:Con:=⟨i245,o245,F245⟩
def i240:List Grp:= [⟨.agg,e42,[]⟩,⟨.c,(.cons (.sl e169) .nil),[]⟩]
def o240:List Grp:= [⟨.agg,e42,[.sh,(.own m0)]⟩,⟨.c,(.cons (.int .i64) .nil),[]⟩]
noncomputable def F240.b0 (x0:(D42×((List D169×Unit)×Unit))):(v2:(Int×(Int×(Int×(List (D207)×Unit)))))→Option (Sum (Int×(Int×(Int×(List (D207)×Unit)))) (Sum (Int×(Int×(Int×(List (D207)×Unit)))) ((D42×((Int×Unit)×Unit))))):=fun v2=>bif iLt v2.2.1 (List.length x0.2.1.1:Int) then (getI x0.2.1.1 v2.2.1).bind fun x3=>(F245 ((v2.2.2.1,(v2.2.2.2.1,())),(x3,()))).bind fun y4=>bif iEq y4.2.1.1 (0:Int) then some (.inl (iAdd .i64 v2.1 (1:Int),(iAdd .i64 v2.2.1 (1:Int),(y4.1.1,(y4.1.2.1,()))))) else some (.inl (v2.1,(iAdd .i64 v2.2.1 (1:Int),(y4.1.1,(y4.1.2.1,()))))) else some (.inr (.inl (v2.1,(v2.2.1,(v2.2.2.1,(v2.2.2.2.1,()))))))
noncomputable def F240:(D42×((List D169×Unit)×Unit))→Option ((D42×((Int×Unit)×Unit))):=fun x0=>(F111 (x0.1,())).bind fun y1=>(loopF (F240.b0 x0) ((0:Int),((0:Int),(y1.1.1,(y1.1.2.1,()))))).bind fun r6=>Sum.elim (fun v5=>some ((v5.2.2.1,(v5.2.2.2.1,())),((v5.1,()),()))) some r6
noncomputable def c240:Con:=⟨i240,o240,F240⟩
def i226:List Grp:= [⟨.agg,e42,[]⟩,⟨.c,(.cons (.sl e154) .nil),[]⟩,⟨.c,(.cons (.int .i64) .nil),[]⟩]
def o226:List Grp:= [⟨.agg,e42,[.sh,(.own m0)]⟩]
noncomputable def F226.b0 (y2:((List D3×Unit)×Unit)) (x0:(D42×((List D154×Unit)×((Int×Unit)×Unit)))):(v3:(Int×(Int×(List (D207)×Unit))))→Option (Sum (Int×(Int×(List (D207)×Unit))) (Sum (Int×(Int×(List (D207)×Unit))) ((D42×Unit)))):=fun v3=>bif iLt v3.1 (List.length y2.1.1:Int) then (getI y2.1.1 v3.1).bind fun _=>(getN y2.1.1 (Int.toNat v3.1)).bind fun x4=>(F173 (x0.2.1,(x4,()))).bind fun y5=>(getI x0.2.1.1 y5.1.1).bind fun x6=>(F240 ((v3.2.1,(v3.2.2.1,())),((x6.2.2.2.2.2.2.2.2.2.2.1,()),()))).bind fun y7=>some (.inl (iAdd .i64 v3.1 (1:Int),(y7.1.1,(y7.1.2.1,())))) else some (.inr (.inl (v3.1,(v3.2.1,(v3.2.2.1,())))))
noncomputable def F226:(D42×((List D154×Unit)×((Int×Unit)×Unit)))→Option ((D42×Unit)):=fun x0=>(F111 (x0.1,())).bind fun y1=>(F223 (x0.2.1,(x0.2.2.1,()))).bind fun y2=>(loopF (F226.b0 y2 x0) ((0:Int),(y1.1.1,(y1.1.2.1,())))).bind fun r9=>Sum.elim (fun v8=>some ((v8.2.1,(v8.2.2.1,())),())) some r9
noncomputable def c226:Con:=⟨i226,o226,F226⟩
def i227:List Grp:= [⟨.c,(.cons (.sl e169) .nil),[]⟩,⟨.agg,e42,[]⟩]
def o227:List Grp:= [⟨.c,(.cons (.sl e169) .nil),[(.own [])]⟩]
noncomputable def F227.b0 (x0:((List D169×Unit)×(D42×Unit))):(v1:(List (D169)×(Int×Unit)))→Option (Sum (List (D169)×(Int×Unit)) (Sum (List (D169)×(Int×Unit)) (((List D169×Unit)×Unit)))):=fun v1=>bif iLt v1.2.1 (List.length x0.1.1:Int) then (getI x0.1.1 v1.2.1).bind fun x2=>(F241 ((x0.2.1.2.1,()),((x2.2.1,()),()))).bind fun y3=>bif iLe (0:Int) y3.1.1 then (getI x0.2.1.2.1 y3.1.1).bind fun x4=>bif iLe x4.2.2.1 x2.2.2.2.2.1 then bif room (List.length v1.1+List.length ([x2]:List (D169))) 56 then some (.inl (lapp v1.1 ([x2]:List (D169)),(iAdd .i64 v1.2.1 (1:Int),()))) else none else some (.inl (v1.1,(iAdd .i64 v1.2.1 (1:Int),()))) else some (.inl (v1.1,(iAdd .i64 v1.2.1 (1:Int),()))) else some (.inr (.inl (v1.1,(v1.2.1,()))))
noncomputable def F227:((List D169×Unit)×(D42×Unit))→Option (((List D169×Unit)×Unit)):=fun x0=>(loopF (F227.b0 x0) ([],((0:Int),()))).bind fun r6=>Sum.elim (fun v5=>some ((v5.1,()),())) some r6
noncomputable def c227:Con:=⟨i227,o227,F227⟩
def i283:List Grp:= [⟨.agg,e42,[]⟩]
def o283:List Grp:= [⟨.agg,e42,[.sh,(.own [])]⟩]
noncomputable def c283:Con:=⟨i283,o283,F111⟩
def i242:List Grp:= [⟨.agg,e42,[]⟩]
def o242:List Grp:= [⟨.agg,e42,[.sh,(.own [])]⟩]
noncomputable def F242.b1 (x5:D207) (y3:(D42×Unit)) (v4:(Int×(List (D207)×Unit))):(v6:(List (D229)×(Int×(List (D207)×Unit))))→Option (Sum (List (D229)×(Int×(List (D207)×Unit))) (Sum (List (D229)×(Int×(List (D207)×Unit))) (Sum (Int×(List (D207)×Unit)) (Sum (Int×(List (D207)×Unit)) ((D42×Unit)))))):=fun v6=>bif iLt v6.2.1 (List.length x5.2.2.2.2.1:Int) then (getI x5.2.2.2.2.1 v6.2.1).bind fun x7=>bif iLe x7.2.1 (iAdd .i64 y3.1.1 (1:Int)) then (getN v6.2.2.1 (Int.toNat v4.1)).bind fun x8=>(getN v6.2.2.1 (Int.toNat v4.1)).bind fun x9=>(some (List.set v6.2.2.1 (Int.toNat v4.1) (x9.1,(iAdd .i64 x8.2.1 x7.1,x9.2.2)))).bind fun z10=>some (.inl (v6.1,(iAdd .i64 v6.2.1 (1:Int),(z10,())))) else bif room (List.length v6.1+List.length ([x7]:List (D229))) 16 then some (.inl (lapp v6.1 ([x7]:List (D229)),(iAdd .i64 v6.2.1 (1:Int),(v6.2.2.1,())))) else none else some (.inr (.inl (v6.1,(v6.2.1,(v6.2.2.1,())))))
noncomputable def F242.b0 (y3:(D42×Unit)):(v4:(Int×(List (D207)×Unit)))→Option (Sum (Int×(List (D207)×Unit)) (Sum (Int×(List (D207)×Unit)) ((D42×Unit)))):=fun v4=>bif iLt v4.1 (List.length y3.1.2.1:Int) then (getI v4.2.1 v4.1).bind fun _=>(getN v4.2.1 (Int.toNat v4.1)).bind fun x5=>(loopF (F242.b1 x5 y3 v4) ([],((0:Int),(v4.2.1,())))).bind fun r12=>Sum.elim (fun v11=>(getN v11.2.2.1 (Int.toNat v4.1)).bind fun x13=>(some (List.set v11.2.2.1 (Int.toNat v4.1) (x13.1,(x13.2.1,(x13.2.2.1,(x13.2.2.2.1,(v11.1,()))))))).bind fun z14=>some (.inl (iAdd .i64 v4.1 (1:Int),(z14,())))) some r12 else some (.inr (.inl (v4.1,(v4.2.1,()))))
noncomputable def F242:(D42×Unit)→Option ((D42×Unit)):=fun x0=>(F122 (x0.1,())).bind fun y1=>bif (!y1.1.1) then (F111 (x0.1,())).bind fun y2=>some (y2.1,()) else (F111 (x0.1,())).bind fun y3=>(loopF (F242.b0 y3) ((0:Int),(y3.1.2.1,()))).bind fun r16=>Sum.elim (fun v15=>(F122 ((iAdd .i64 y3.1.1 (1:Int),(v15.2.1,())),())).bind fun y17=>bif (!y17.1.1) then (F111 (x0.1,())).bind fun y18=>some (y18.1,()) else some ((iAdd .i64 y3.1.1 (1:Int),(v15.2.1,())),())) some r16
noncomputable def c242:Con:=⟨i242,o242,F242⟩
def i243:List Grp:= []
def o243:List Grp:= [⟨.agg,e29,[.sh,.sh,(.own [])]⟩]
noncomputable def F243:Unit→Option ((D29×Unit)):=fun x0=>some (((0:Int),((-1:Int),([],()))),())
noncomputable def c243:Con:=⟨i243,o243,F243⟩
def i228:List Grp:= [⟨.io,e52,m6⟩,⟨.agg,e42,[]⟩,⟨.c,(.cons (.sl e163) .nil),[]⟩]
def o228:List Grp:= [⟨.io,e52,m6⟩]
noncomputable def F228:(D52×(D42×((List D163×Unit)×Unit)))→Option ((D52×Unit)):=fun x0=>(F242 (x0.2.1,())).bind fun y1=>(F112 (x0.2.2.1,())).bind fun y2=>(F243 ()).bind fun y3=>some ((x0.1.1,(y1.1.1,(y1.1.1,(y1.1.2.1,(y2.1.1,([],((1:Int),((0:Int),(y3.1.1,(y3.1.2.1,(y3.1.2.2.1,((0:Int),([],([],((0:Int),([],([],(x0.1.2.2.2.2.2.2.2.2.2.2.2.2.2.2.2.2.2.1,(x0.1.2.2.2.2.2.2.2.2.2.2.2.2.2.2.2.2.2.2.1,(x0.1.2.2.2.2.2.2.2.2.2.2.2.2.2.2.2.2.2.2.2.1,())))))))))))))))))))),())
noncomputable def c228:Con:=⟨i228,o228,F228⟩
def i206:List Grp:= [⟨.io,e52,m6⟩,⟨.agg,e29,[]⟩]
def o206:List Grp:= [⟨.io,e52,m6⟩]
noncomputable def F206.b0 (v4:(List (D3)×Unit)):(v6:(Int×(List (D3)×Unit)))→Option (Sum (Int×(List (D3)×Unit)) (Sum (Int×(List (D3)×Unit)) ((D52×Unit)))):=fun v6=>bif iLt v6.1 (List.length v4.1:Int) then (getI v4.1 v6.1).bind fun x7=>(F225 ((v6.2.1,()),(x7,()))).bind fun y8=>bif (!y8.1.1) then bif room (List.length v6.2.1+List.length ([x7]:List (D3))) 8 then some (.inl (iAdd .i64 v6.1 (1:Int),(lapp v6.2.1 ([x7]:List (D3)),()))) else none else some (.inl (iAdd .i64 v6.1 (1:Int),(v6.2.1,()))) else some (.inr (.inl (v6.1,(v6.2.1,()))))
noncomputable def F206.b1 (y17:((List D3×Unit)×Unit)) (x0:(D52×(D29×Unit))):(v18:(Int×(List (D154)×Unit)))→Option (Sum (Int×(List (D154)×Unit)) (Sum (Int×(List (D154)×Unit)) ((D52×Unit)))):=fun v18=>bif iLt v18.1 (List.length y17.1.1:Int) then (getI y17.1.1 v18.1).bind fun _=>(getN y17.1.1 (Int.toNat v18.1)).bind fun x19=>(F173 ((x0.1.2.2.2.2.2.1,()),(x19,()))).bind fun y20=>(getI x0.1.2.2.2.2.2.1 y20.1.1).bind fun x21=>(F161 (x21,())).bind fun y22=>bif room (List.length v18.2.1+List.length ([y22.1]:List (D154))) 208 then some (.inl (iAdd .i64 v18.1 (1:Int),(lapp v18.2.1 ([y22.1]:List (D154)),()))) else none else some (.inr (.inl (v18.1,(v18.2.1,()))))
noncomputable def F206:(D52×(D29×Unit))→Option ((D52×Unit)):=fun x0=>(F222 ((x0.1.2.2.2.2.2.1,()),(x0.2.1,()))).bind fun y1=>bif iEq y1.1.1 (-1:Int) then some (x0.1,()) else (F223 ((x0.1.2.2.2.2.2.1,()),(y1.1,()))).bind fun y2=>(F224 ((x0.1.2.2.2.2.2.1,()),(y2.1,()))).bind fun y3=>Option.bind (bif iLe (0:Int) y3.1.1 then bif cutHi (iAdd .i64 y3.1.1 (1:Int)) (List.length y2.1.1) then some (.inl (List.take ((Int.toNat (iAdd .i64 y3.1.1 (1:Int))) - 0) (List.drop 0 y2.1.1),())) else none else some (.inl (y2.1.1,()))) fun r5=>Sum.elim (fun v4=>(loopF (F206.b0 v4) ((0:Int),(x0.1.2.2.2.2.2.2.2.2.2.2.2.2.2.2.2.2.2.1,()))).bind fun r10=>Sum.elim (fun v9=>(getI v4.1 (iSub .i64 (List.length v4.1:Int) (1:Int))).bind fun x11=>(F173 ((x0.1.2.2.2.2.2.1,()),(x11,()))).bind fun y12=>(getI x0.1.2.2.2.2.2.1 y12.1.1).bind fun x13=>(F226 ((x0.1.2.2.1,(x0.1.2.2.2.1,())),((x0.1.2.2.2.2.2.1,()),((x13.1,()),())))).bind fun y14=>(F227 ((x0.1.2.2.2.2.2.2.2.2.2.2.2.2.2.2.2.2.2.2.1,()),(y14.1,()))).bind fun y15=>bif iLt y3.1.1 (0:Int) then some ((x0.1.1,(x0.1.2.1,(x0.1.2.2.1,(x0.1.2.2.2.1,(x0.1.2.2.2.2.1,(x0.1.2.2.2.2.2.1,(x0.1.2.2.2.2.2.2.1,(x0.1.2.2.2.2.2.2.2.1,(x0.1.2.2.2.2.2.2.2.2.1,(x0.1.2.2.2.2.2.2.2.2.2.1,(x0.1.2.2.2.2.2.2.2.2.2.2.1,(x0.1.2.2.2.2.2.2.2.2.2.2.2.1,(x0.1.2.2.2.2.2.2.2.2.2.2.2.2.1,(x0.1.2.2.2.2.2.2.2.2.2.2.2.2.2.1,(x0.1.2.2.2.2.2.2.2.2.2.2.2.2.2.2.1,(x0.1.2.2.2.2.2.2.2.2.2.2.2.2.2.2.2.1,(x0.1.2.2.2.2.2.2.2.2.2.2.2.2.2.2.2.2.1,(v9.2.1,(y15.1.1,(x0.1.2.2.2.2.2.2.2.2.2.2.2.2.2.2.2.2.2.2.2.1,())))))))))))))))))))),()) else (F114 (x0.2.1,())).bind fun y16=>(F223 ((x0.1.2.2.2.2.2.1,()),((x0.2.1.2.1,()),()))).bind fun y17=>(loopF (F206.b1 y17 x0) ((0:Int),([],()))).bind fun r24=>Sum.elim (fun v23=>bif room (List.length x0.1.2.2.2.2.2.2.2.2.2.2.2.2.2.2.2.2.2.2.2.1+List.length ([(x0.1.2.1,(v23.2.1,(y16.1.1,(y16.1.2.1,(y16.1.2.2.1,())))))]:List (D146))) 72 then (F228 ((x0.1.1,(x0.1.2.1,(x0.1.2.2.1,(x0.1.2.2.2.1,(x0.1.2.2.2.2.1,(x0.1.2.2.2.2.2.1,(x0.1.2.2.2.2.2.2.1,(x0.1.2.2.2.2.2.2.2.1,(x0.1.2.2.2.2.2.2.2.2.1,(x0.1.2.2.2.2.2.2.2.2.2.1,(x0.1.2.2.2.2.2.2.2.2.2.2.1,(x0.1.2.2.2.2.2.2.2.2.2.2.2.1,(x0.1.2.2.2.2.2.2.2.2.2.2.2.2.1,(x0.1.2.2.2.2.2.2.2.2.2.2.2.2.2.1,(x0.1.2.2.2.2.2.2.2.2.2.2.2.2.2.2.1,(x0.1.2.2.2.2.2.2.2.2.2.2.2.2.2.2.2.1,(x0.1.2.2.2.2.2.2.2.2.2.2.2.2.2.2.2.2.1,(v9.2.1,(y15.1.1,(lapp x0.1.2.2.2.2.2.2.2.2.2.2.2.2.2.2.2.2.2.2.2.1 ([(x0.1.2.1,(v23.2.1,(y16.1.1,(y16.1.2.1,(y16.1.2.2.1,())))))]:List (D146)),())))))))))))))))))))),(y14.1,((x13.2.2.2.2.2.2.2.2.2.2.2.2.1,()),())))).bind fun y25=>some (y25.1,()) else none) some r24) some r10) some r5
noncomputable def c206:Con:=⟨i206,o206,F206⟩
def i177:List Grp:= [⟨.io,e52,m6⟩,⟨.agg,e29,[]⟩]
def o177:List Grp:= [⟨.io,e52,m6⟩]
noncomputable def F177:(D52×(D29×Unit))→Option ((D52×Unit)):=fun x0=>(F126 ((x0.1.2.2.2.2.1,()),(x0.2.1,()))).bind fun y1=>bif (!y1.1.1) then some (x0.1,()) else Option.bind (bif iLt x0.1.2.2.2.2.2.2.2.2.1 x0.2.1.1 then (F114 (x0.2.1,())).bind fun y2=>some (.inl (y2.1.1,(y2.1.2.1,(y2.1.2.2.1,())))) else some (.inl (x0.1.2.2.2.2.2.2.2.2.1,(x0.1.2.2.2.2.2.2.2.2.2.1,(x0.1.2.2.2.2.2.2.2.2.2.2.1,()))))) fun r4=>Sum.elim (fun v3=>(F206 ((x0.1.1,(x0.1.2.1,(x0.1.2.2.1,(x0.1.2.2.2.1,(x0.1.2.2.2.2.1,(x0.1.2.2.2.2.2.1,((iMax x0.1.2.2.2.2.2.2.1 (iAdd .i64 x0.2.1.1 (1:Int))),(x0.1.2.2.2.2.2.2.2.1,(v3.1,(v3.2.1,(v3.2.2.1,(x0.1.2.2.2.2.2.2.2.2.2.2.2.1,(x0.1.2.2.2.2.2.2.2.2.2.2.2.2.1,(x0.1.2.2.2.2.2.2.2.2.2.2.2.2.2.1,(x0.1.2.2.2.2.2.2.2.2.2.2.2.2.2.2.1,(x0.1.2.2.2.2.2.2.2.2.2.2.2.2.2.2.2.1,(x0.1.2.2.2.2.2.2.2.2.2.2.2.2.2.2.2.2.1,(x0.1.2.2.2.2.2.2.2.2.2.2.2.2.2.2.2.2.2.1,(x0.1.2.2.2.2.2.2.2.2.2.2.2.2.2.2.2.2.2.2.1,(x0.1.2.2.2.2.2.2.2.2.2.2.2.2.2.2.2.2.2.2.2.1,())))))))))))))))))))),(x0.2.1,()))).bind fun y5=>some (y5.1,())) some r4
noncomputable def c177:Con:=⟨i177,o177,F177⟩
def i207:List Grp:= [⟨.c,(.cons (.sl e107) .nil),[]⟩,⟨.agg,e132,[]⟩]
def o207:List Grp:= [⟨.c,(.cons (.int .i64) .nil),[]⟩]
noncomputable def F207.b0 (x0:((List D107×Unit)×(D132×Unit))):(v1:(Int×Unit))→Option (Sum (Int×Unit) (Sum (Int×Unit) (((Int×Unit)×Unit)))):=fun v1=>bif iLt v1.1 (List.length x0.1.1:Int) then (getI x0.1.1 v1.1).bind fun x2=>bif (iEq x0.2.1.1 x2.1)&&((iEq x0.2.1.2.1 x2.2.1)&&(sEq x0.2.1.2.2.1 x2.2.2.1)) then some (.inr (.inr ((v1.1,()),()))) else some (.inl (iAdd .i64 v1.1 (1:Int),())) else some (.inr (.inl (v1.1,())))
noncomputable def F207:((List D107×Unit)×(D132×Unit))→Option (((Int×Unit)×Unit)):=fun x0=>(loopF (F207.b0 x0) ((0:Int),())).bind fun r4=>Sum.elim (fun v3=>some (((-1:Int),()),())) some r4
noncomputable def c207:Con:=⟨i207,o207,F207⟩
def i178:List Grp:= [⟨.c,(.cons (.sl e107) .nil),[]⟩,⟨.agg,e132,[]⟩]
def o178:List Grp:= [⟨.c,(.cons .bool .nil),[]⟩]
noncomputable def F178:((List D107×Unit)×(D132×Unit))→Option (((Bool×Unit)×Unit)):=fun x0=>(F207 (x0.1,(x0.2.1,()))).bind fun y1=>some ((iLe (0:Int) y1.1.1,()),())
noncomputable def c178:Con:=⟨i178,o178,F178⟩
def i179:List Grp:= [⟨.c,(.cons (.sl e163) .nil),[]⟩,⟨.c,(.cons (.sl e107) .nil),[]⟩,⟨.c,(.cons (.int .i64) .nil),[]⟩]
def o179:List Grp:= [⟨.agg,e32,m1⟩,⟨.c,(.cons .bool .nil),[]⟩]
noncomputable def F179.b1 (x0:((List D163×Unit)×((List D107×Unit)×((Int×Unit)×Unit)))) (x2:D163):(v3:(Int×(Bool×(Int×Unit))))→Option (Sum (Int×(Bool×(Int×Unit))) (Sum (Int×(Bool×(Int×Unit))) (Sum (Int×(List (D9)×(List (D3)×Unit))) (Sum (Int×(List (D9)×(List (D3)×Unit))) ((D32×((Bool×Unit)×Unit))))))):=fun v3=>bif iLt v3.2.2.1 (List.length x0.2.1.1:Int) then (getI x0.2.1.1 v3.2.2.1).bind fun x4=>bif iEq x4.1 x0.2.2.1.1 then bif sEq x4.2.2.1 x2.1 then bif iLe (0:Int) x4.2.1 then bif (!v3.2.1) then some (.inl (x4.2.1,(true,(iAdd .i64 v3.2.2.1 (1:Int),())))) else bif iLt v3.1 x4.2.1 then some (.inl (x4.2.1,(true,(iAdd .i64 v3.2.2.1 (1:Int),())))) else some (.inl (v3.1,(v3.2.1,(iAdd .i64 v3.2.2.1 (1:Int),())))) else some (.inl (v3.1,(v3.2.1,(iAdd .i64 v3.2.2.1 (1:Int),())))) else some (.inl (v3.1,(v3.2.1,(iAdd .i64 v3.2.2.1 (1:Int),())))) else some (.inl (v3.1,(v3.2.1,(iAdd .i64 v3.2.2.1 (1:Int),())))) else some (.inr (.inl (v3.1,(v3.2.1,(v3.2.2.1,())))))
noncomputable def F179.b0 (x0:((List D163×Unit)×((List D107×Unit)×((Int×Unit)×Unit)))):(v1:(Int×(List (D9)×(List (D3)×Unit))))→Option (Sum (Int×(List (D9)×(List (D3)×Unit))) (Sum (Int×(List (D9)×(List (D3)×Unit))) ((D32×((Bool×Unit)×Unit))))):=fun v1=>bif iLt v1.1 (List.length x0.1.1:Int) then (getI x0.1.1 v1.1).bind fun x2=>(loopF (F179.b1 x0 x2) ((0:Int),(false,((0:Int),())))).bind fun r6=>Sum.elim (fun v5=>bif v5.2.1 then bif room (List.length v1.2.1+List.length ([(x2.1,())]:List (D9))) 16 then bif room (List.length v1.2.2.1+List.length ([(v5.1,())]:List (D3))) 8 then some (.inl (iAdd .i64 v1.1 (1:Int),(lapp v1.2.1 ([(x2.1,())]:List (D9)),(lapp v1.2.2.1 ([(v5.1,())]:List (D3)),())))) else none else none else some (.inl (iAdd .i64 v1.1 (1:Int),(v1.2.1,(v1.2.2.1,()))))) some r6 else some (.inr (.inl (v1.1,(v1.2.1,(v1.2.2.1,())))))
noncomputable def F179:((List D163×Unit)×((List D107×Unit)×((Int×Unit)×Unit)))→Option ((D32×((Bool×Unit)×Unit))):=fun x0=>(loopF (F179.b0 x0) ((0:Int),([],([],())))).bind fun r8=>Sum.elim (fun v7=>(F170 ((x0.2.2.1.1,(v7.2.1,(v7.2.2.1,()))),())).bind fun y9=>bif y9.1.1 then some (((0:Int),([],([],()))),((false,()),())) else (F127 (x0.1,((x0.2.2.1.1,(v7.2.1,(v7.2.2.1,()))),()))).bind fun y10=>bif (!y10.1.1) then some (((0:Int),([],([],()))),((false,()),())) else some ((x0.2.2.1.1,(v7.2.1,(v7.2.2.1,()))),((true,()),()))) some r8
noncomputable def c179:Con:=⟨i179,o179,F179⟩
def i180:List Grp:= [⟨.io,e52,m6⟩,⟨.agg,e32,[]⟩]
def o180:List Grp:= [⟨.io,e52,m6⟩]
noncomputable def F180:(D52×(D32×Unit))→Option ((D52×Unit)):=fun x0=>(F170 (x0.2.1,())).bind fun y1=>bif y1.1.1 then some (x0.1,()) else (F127 ((x0.1.2.2.2.2.1,()),(x0.2.1,()))).bind fun y2=>bif (!y2.1.1) then some (x0.1,()) else Option.bind (bif iLt x0.1.2.2.2.2.2.2.2.2.2.2.2.1 x0.2.1.1 then (F115 (x0.2.1,())).bind fun y3=>some (.inl (y3.1.1,(y3.1.2.1,(y3.1.2.2.1,())))) else some (.inl (x0.1.2.2.2.2.2.2.2.2.2.2.2.1,(x0.1.2.2.2.2.2.2.2.2.2.2.2.2.1,(x0.1.2.2.2.2.2.2.2.2.2.2.2.2.2.1,()))))) fun r5=>Sum.elim (fun v4=>some ((x0.1.1,(x0.1.2.1,(x0.1.2.2.1,(x0.1.2.2.2.1,(x0.1.2.2.2.2.1,(x0.1.2.2.2.2.2.1,((iMax x0.1.2.2.2.2.2.2.1 (iAdd .i64 x0.2.1.1 (1:Int))),(x0.1.2.2.2.2.2.2.2.1,(x0.1.2.2.2.2.2.2.2.2.1,(x0.1.2.2.2.2.2.2.2.2.2.1,(x0.1.2.2.2.2.2.2.2.2.2.2.1,(v4.1,(v4.2.1,(v4.2.2.1,(x0.1.2.2.2.2.2.2.2.2.2.2.2.2.2.2.1,(x0.1.2.2.2.2.2.2.2.2.2.2.2.2.2.2.2.1,(x0.1.2.2.2.2.2.2.2.2.2.2.2.2.2.2.2.2.1,(x0.1.2.2.2.2.2.2.2.2.2.2.2.2.2.2.2.2.2.1,(x0.1.2.2.2.2.2.2.2.2.2.2.2.2.2.2.2.2.2.2.1,(x0.1.2.2.2.2.2.2.2.2.2.2.2.2.2.2.2.2.2.2.2.1,())))))))))))))))))))),())) some r5
noncomputable def c180:Con:=⟨i180,o180,F180⟩
def i132:List Grp:= [⟨.io,e52,m6⟩,⟨.agg,e132,[]⟩,⟨.agg,e29,[]⟩]
def o132:List Grp:= [⟨.io,e52,m6⟩]
noncomputable def F132:(D52×(D132×(D29×Unit)))→Option ((D52×Unit)):=fun x0=>(F129 ((x0.1.2.2.2.2.1,()),((x0.2.1.2.2.1,()),()))).bind fun y1=>bif (!y1.1.1) then some (x0.1,()) else (F126 ((x0.1.2.2.2.2.1,()),(x0.2.2.1,()))).bind fun y2=>bif (!y2.1.1) then some (x0.1,()) else (F177 (x0.1,(x0.2.2.1,()))).bind fun y3=>bif !iEq y3.1.2.1 x0.1.2.1 then some (y3.1,()) else Option.bind ((F178 ((y3.1.2.2.2.2.2.2.2.2.2.2.2.2.2.2.2.2.1,()),(x0.2.1,()))).bind fun y4=>bif (!y4.1.1) then bif iLt (List.length y3.1.2.2.2.2.2.2.2.2.2.2.2.2.2.2.2.2.1:Int) (1000:Int) then bif room (List.length y3.1.2.2.2.2.2.2.2.2.2.2.2.2.2.2.2.2.1+List.length ([x0.2.1]:List (D107))) 32 then some (.inl (lapp y3.1.2.2.2.2.2.2.2.2.2.2.2.2.2.2.2.2.1 ([x0.2.1]:List (D107)),())) else none else some (.inl (y3.1.2.2.2.2.2.2.2.2.2.2.2.2.2.2.2.2.1,())) else some (.inl (y3.1.2.2.2.2.2.2.2.2.2.2.2.2.2.2.2.2.1,()))) fun r6=>Sum.elim (fun v5=>(F179 ((y3.1.2.2.2.2.1,()),((v5.1,()),((x0.2.1.1,()),())))).bind fun y7=>bif y7.2.1.1 then (F180 ((y3.1.1,(y3.1.2.1,(y3.1.2.2.1,(y3.1.2.2.2.1,(y3.1.2.2.2.2.1,(y3.1.2.2.2.2.2.1,(y3.1.2.2.2.2.2.2.1,(y3.1.2.2.2.2.2.2.2.1,(y3.1.2.2.2.2.2.2.2.2.1,(y3.1.2.2.2.2.2.2.2.2.2.1,(y3.1.2.2.2.2.2.2.2.2.2.2.1,(y3.1.2.2.2.2.2.2.2.2.2.2.2.1,(y3.1.2.2.2.2.2.2.2.2.2.2.2.2.1,(y3.1.2.2.2.2.2.2.2.2.2.2.2.2.2.1,(y3.1.2.2.2.2.2.2.2.2.2.2.2.2.2.2.1,(y3.1.2.2.2.2.2.2.2.2.2.2.2.2.2.2.2.1,(v5.1,(y3.1.2.2.2.2.2.2.2.2.2.2.2.2.2.2.2.2.2.1,(y3.1.2.2.2.2.2.2.2.2.2.2.2.2.2.2.2.2.2.2.1,(y3.1.2.2.2.2.2.2.2.2.2.2.2.2.2.2.2.2.2.2.2.1,())))))))))))))))))))),(y7.1,()))).bind fun y8=>some (y8.1,()) else some ((y3.1.1,(y3.1.2.1,(y3.1.2.2.1,(y3.1.2.2.2.1,(y3.1.2.2.2.2.1,(y3.1.2.2.2.2.2.1,(y3.1.2.2.2.2.2.2.1,(y3.1.2.2.2.2.2.2.2.1,(y3.1.2.2.2.2.2.2.2.2.1,(y3.1.2.2.2.2.2.2.2.2.2.1,(y3.1.2.2.2.2.2.2.2.2.2.2.1,(y3.1.2.2.2.2.2.2.2.2.2.2.2.1,(y3.1.2.2.2.2.2.2.2.2.2.2.2.2.1,(y3.1.2.2.2.2.2.2.2.2.2.2.2.2.2.1,(y3.1.2.2.2.2.2.2.2.2.2.2.2.2.2.2.1,(y3.1.2.2.2.2.2.2.2.2.2.2.2.2.2.2.2.1,(v5.1,(y3.1.2.2.2.2.2.2.2.2.2.2.2.2.2.2.2.2.2.1,(y3.1.2.2.2.2.2.2.2.2.2.2.2.2.2.2.2.2.2.2.1,(y3.1.2.2.2.2.2.2.2.2.2.2.2.2.2.2.2.2.2.2.2.1,())))))))))))))))))))),())) some r6
noncomputable def c132:Con:=⟨i132,o132,F132⟩
def i42:List Grp:= [⟨.io,e52,m6⟩]
def o42:List Grp:= [⟨.agg,e91,[(.own m5),(.own [])]⟩,⟨.io,e52,m6⟩]
noncomputable def F42:(D52×Unit)→Option ((D91×(D52×Unit))):=fun x0=>(F129 ((x0.1.2.2.2.2.1,()),((x0.1.1,()),()))).bind fun y1=>bif (!y1.1.1) then some (([],([],())),(x0.1,())) else bif iLt x0.1.2.2.2.2.2.2.1 x0.1.2.2.2.2.2.2.2.1 then some (([],([],())),(x0.1,())) else (F114 ((x0.1.2.2.2.2.2.2.2.2.1,(x0.1.2.2.2.2.2.2.2.2.2.1,(x0.1.2.2.2.2.2.2.2.2.2.2.1,()))),())).bind fun y2=>(F130 ((x0.1.1,(x0.1.2.1,(x0.1.2.2.1,(x0.1.2.2.2.1,(x0.1.2.2.2.2.1,(x0.1.2.2.2.2.2.1,(x0.1.2.2.2.2.2.2.1,(x0.1.2.2.2.2.2.2.1,(x0.1.2.2.2.2.2.2.2.2.1,(x0.1.2.2.2.2.2.2.2.2.2.1,(x0.1.2.2.2.2.2.2.2.2.2.2.1,(x0.1.2.2.2.2.2.2.2.2.2.2.2.1,(x0.1.2.2.2.2.2.2.2.2.2.2.2.2.1,(x0.1.2.2.2.2.2.2.2.2.2.2.2.2.2.1,(x0.1.2.2.2.2.2.2.2.2.2.2.2.2.2.2.1,(x0.1.2.2.2.2.2.2.2.2.2.2.2.2.2.2.2.1,(x0.1.2.2.2.2.2.2.2.2.2.2.2.2.2.2.2.2.1,(x0.1.2.2.2.2.2.2.2.2.2.2.2.2.2.2.2.2.2.1,(x0.1.2.2.2.2.2.2.2.2.2.2.2.2.2.2.2.2.2.2.1,(x0.1.2.2.2.2.2.2.2.2.2.2.2.2.2.2.2.2.2.2.2.1,())))))))))))))))))))),(((3:Int),(⟨#[]⟩,((0:Int),([],((0:Int),((0:Int),(⟨#[]⟩,(x0.1.2.2.2.2.2.2.1,(x0.1.2.2.2.2.2.2.2.2.1,(x0.1.1,(y2.1.1,(y2.1.2.1,(y2.1.2.2.1,((0:Int),([],([],())))))))))))))))),()))).bind fun y3=>(F131 ((x0.1.2.1,()),((x0.1.2.2.2.2.2.2.1,(x0.1.2.2.2.2.2.2.2.2.1,(x0.1.1,()))),()))).bind fun y4=>(F132 ((x0.1.1,(x0.1.2.1,(x0.1.2.2.1,(x0.1.2.2.2.1,(x0.1.2.2.2.2.1,(x0.1.2.2.2.2.2.1,(x0.1.2.2.2.2.2.2.1,(x0.1.2.2.2.2.2.2.1,(x0.1.2.2.2.2.2.2.2.2.1,(x0.1.2.2.2.2.2.2.2.2.2.1,(x0.1.2.2.2.2.2.2.2.2.2.2.1,(x0.1.2.2.2.2.2.2.2.2.2.2.2.1,(x0.1.2.2.2.2.2.2.2.2.2.2.2.2.1,(x0.1.2.2.2.2.2.2.2.2.2.2.2.2.2.1,(x0.1.2.2.2.2.2.2.2.2.2.2.2.2.2.2.1,(x0.1.2.2.2.2.2.2.2.2.2.2.2.2.2.2.2.1,(x0.1.2.2.2.2.2.2.2.2.2.2.2.2.2.2.2.2.1,(x0.1.2.2.2.2.2.2.2.2.2.2.2.2.2.2.2.2.2.1,(x0.1.2.2.2.2.2.2.2.2.2.2.2.2.2.2.2.2.2.2.1,(x0.1.2.2.2.2.2.2.2.2.2.2.2.2.2.2.2.2.2.2.2.1,())))))))))))))))))))),((x0.1.2.2.2.2.2.2.1,(x0.1.2.2.2.2.2.2.2.2.1,(x0.1.1,()))),(y2.1,())))).bind fun y5=>some ((y3.1.1,(([y4.1]:List (D112)),())),(y5.1,()))
noncomputable def c42:Con:=⟨i42,o42,F42⟩
def i7:List Grp:= [⟨.agg,e52,[]⟩]
def o7:List Grp:= [⟨.agg,e52,m4⟩,⟨.c,(.cons (.sl e109) .nil),[(.own m5)]⟩,⟨.c,(.cons (.sl e112) .nil),[(.own [])]⟩]
noncomputable def F7:(D52×Unit)→Option ((D52×((List D109×Unit)×((List D112×Unit)×Unit)))):=fun x0=>(F40 (x0.1,())).bind fun y1=>(F41 (x0.1,())).bind fun y2=>bif (!y2.1.1) then some (y1.1,(([],()),(([],()),()))) else (F42 (y1.1,())).bind fun y3=>(F40 (y3.2.1,())).bind fun y4=>some (y4.1,((y3.1.1,()),((y3.1.2.1,()),())))
noncomputable def c7:Con:=⟨i7,o7,F7⟩
def i229:List Grp:= [⟨.agg,e243,[]⟩,⟨.agg,e243,[]⟩]
def o229:List Grp:= [⟨.c,(.cons .bool .nil),[]⟩]
noncomputable def F229:(D243×(D243×Unit))→Option (((Bool×Unit)×Unit)):=fun x0=>bif !iEq x0.1.1 x0.2.1.1 then some ((false,()),()) else bif !iEq x0.1.2.1 x0.2.1.2.1 then some ((false,()),()) else some ((true,()),())
noncomputable def c229:Con:=⟨i229,o229,F229⟩
def i208:List Grp:= [⟨.c,(.cons (.sl e229) .nil),[]⟩,⟨.c,(.cons (.sl e229) .nil),[]⟩]
def o208:List Grp:= [⟨.c,(.cons .bool .nil),[]⟩]
noncomputable def F208.b0 (x0:((List D229×Unit)×((List D229×Unit)×Unit))):(v1:(Int×Unit))→Option (Sum (Int×Unit) (Sum (Int×Unit) (((Bool×Unit)×Unit)))):=fun v1=>bif iLt v1.1 (List.length x0.1.1:Int) then (getI x0.1.1 v1.1).bind fun x2=>(getI x0.2.1.1 v1.1).bind fun x3=>(F229 (x2,(x3,()))).bind fun y4=>bif (!y4.1.1) then some (.inr (.inr ((false,()),()))) else some (.inl (iAdd .i64 v1.1 (1:Int),())) else some (.inr (.inl (v1.1,())))
noncomputable def F208:((List D229×Unit)×((List D229×Unit)×Unit))→Option (((Bool×Unit)×Unit)):=fun x0=>bif !iEq (List.length x0.1.1:Int) (List.length x0.2.1.1:Int) then some ((false,()),()) else (loopF (F208.b0 x0) ((0:Int),())).bind fun r6=>Sum.elim (fun v5=>some ((true,()),())) some r6
noncomputable def c208:Con:=⟨i208,o208,F208⟩
def i181:List Grp:= [⟨.agg,e207,[]⟩,⟨.agg,e207,[]⟩]
def o181:List Grp:= [⟨.c,(.cons .bool .nil),[]⟩]
noncomputable def F181:(D207×(D207×Unit))→Option (((Bool×Unit)×Unit)):=fun x0=>bif !sEq x0.1.1 x0.2.1.1 then some ((false,()),()) else bif !iEq x0.1.2.1 x0.2.1.2.1 then some ((false,()),()) else bif !iEq x0.1.2.2.1 x0.2.1.2.2.1 then some ((false,()),()) else bif !iEq x0.1.2.2.2.1 x0.2.1.2.2.2.1 then some ((false,()),()) else (F208 ((x0.1.2.2.2.2.1,()),((x0.2.1.2.2.2.2.1,()),()))).bind fun y1=>bif (!y1.1.1) then some ((false,()),()) else some ((true,()),())
noncomputable def c181:Con:=⟨i181,o181,F181⟩
def i133:List Grp:= [⟨.c,(.cons (.sl e207) .nil),[]⟩,⟨.c,(.cons (.sl e207) .nil),[]⟩]
def o133:List Grp:= [⟨.c,(.cons .bool .nil),[]⟩]
noncomputable def F133.b0 (x0:((List D207×Unit)×((List D207×Unit)×Unit))):(v1:(Int×Unit))→Option (Sum (Int×Unit) (Sum (Int×Unit) (((Bool×Unit)×Unit)))):=fun v1=>bif iLt v1.1 (List.length x0.1.1:Int) then (getI x0.1.1 v1.1).bind fun x2=>(getI x0.2.1.1 v1.1).bind fun x3=>(F181 (x2,(x3,()))).bind fun y4=>bif (!y4.1.1) then some (.inr (.inr ((false,()),()))) else some (.inl (iAdd .i64 v1.1 (1:Int),())) else some (.inr (.inl (v1.1,())))
noncomputable def F133:((List D207×Unit)×((List D207×Unit)×Unit))→Option (((Bool×Unit)×Unit)):=fun x0=>bif !iEq (List.length x0.1.1:Int) (List.length x0.2.1.1:Int) then some ((false,()),()) else (loopF (F133.b0 x0) ((0:Int),())).bind fun r6=>Sum.elim (fun v5=>some ((true,()),())) some r6
noncomputable def c133:Con:=⟨i133,o133,F133⟩
def i43:List Grp:= [⟨.agg,e42,[]⟩,⟨.agg,e42,[]⟩]
def o43:List Grp:= [⟨.c,(.cons .bool .nil),[]⟩]
noncomputable def F43:(D42×(D42×Unit))→Option (((Bool×Unit)×Unit)):=fun x0=>bif !iEq x0.1.1 x0.2.1.1 then some ((false,()),()) else (F133 ((x0.1.2.1,()),((x0.2.1.2.1,()),()))).bind fun y1=>bif (!y1.1.1) then some ((false,()),()) else some ((true,()),())
noncomputable def c43:Con:=⟨i43,o43,F43⟩
def i134:List Grp:= [⟨.agg,e127,[]⟩,⟨.agg,e127,[]⟩]
def o134:List Grp:= [⟨.c,(.cons .bool .nil),[]⟩]
noncomputable def F134:(D127×(D127×Unit))→Option (((Bool×Unit)×Unit)):=fun x0=>bif !sEq x0.1.1 x0.2.1.1 then some ((false,()),()) else bif !iEq x0.1.2.1 x0.2.1.2.1 then some ((false,()),()) else some ((true,()),())
noncomputable def c134:Con:=⟨i134,o134,F134⟩
def i44:List Grp:= [⟨.c,(.cons (.sl e163) .nil),[]⟩,⟨.c,(.cons (.sl e163) .nil),[]⟩]
def o44:List Grp:= [⟨.c,(.cons .bool .nil),[]⟩]
noncomputable def F44.b0 (x0:((List D163×Unit)×((List D163×Unit)×Unit))):(v1:(Int×Unit))→Option (Sum (Int×Unit) (Sum (Int×Unit) (((Bool×Unit)×Unit)))):=fun v1=>bif iLt v1.1 (List.length x0.1.1:Int) then (getI x0.1.1 v1.1).bind fun x2=>(getI x0.2.1.1 v1.1).bind fun x3=>(F134 (x2,(x3,()))).bind fun y4=>bif (!y4.1.1) then some (.inr (.inr ((false,()),()))) else some (.inl (iAdd .i64 v1.1 (1:Int),())) else some (.inr (.inl (v1.1,())))
noncomputable def F44:((List D163×Unit)×((List D163×Unit)×Unit))→Option (((Bool×Unit)×Unit)):=fun x0=>bif !iEq (List.length x0.1.1:Int) (List.length x0.2.1.1:Int) then some ((false,()),()) else (loopF (F44.b0 x0) ((0:Int),())).bind fun r6=>Sum.elim (fun v5=>some ((true,()),())) some r6
noncomputable def c44:Con:=⟨i44,o44,F44⟩
def i136:List Grp:= [⟨.c,(.cons (.sl e9) .nil),[]⟩,⟨.c,(.cons (.sl e9) .nil),[]⟩]
def o136:List Grp:= [⟨.c,(.cons .bool .nil),[]⟩]
noncomputable def F136.b0 (x0:((List D9×Unit)×((List D9×Unit)×Unit))):(v1:(Int×Unit))→Option (Sum (Int×Unit) (Sum (Int×Unit) (((Bool×Unit)×Unit)))):=fun v1=>bif iLt v1.1 (List.length x0.1.1:Int) then (getI x0.1.1 v1.1).bind fun x2=>(getI x0.2.1.1 v1.1).bind fun x3=>bif !sEq x2.1 x3.1 then some (.inr (.inr ((false,()),()))) else some (.inl (iAdd .i64 v1.1 (1:Int),())) else some (.inr (.inl (v1.1,())))
noncomputable def F136:((List D9×Unit)×((List D9×Unit)×Unit))→Option (((Bool×Unit)×Unit)):=fun x0=>bif !iEq (List.length x0.1.1:Int) (List.length x0.2.1.1:Int) then some ((false,()),()) else (loopF (F136.b0 x0) ((0:Int),())).bind fun r5=>Sum.elim (fun v4=>some ((true,()),())) some r5
noncomputable def c136:Con:=⟨i136,o136,F136⟩
def i46:List Grp:= [⟨.agg,e29,[]⟩,⟨.agg,e29,[]⟩]
def o46:List Grp:= [⟨.c,(.cons .bool .nil),[]⟩]
noncomputable def F46:(D29×(D29×Unit))→Option (((Bool×Unit)×Unit)):=fun x0=>bif !iEq x0.1.1 x0.2.1.1 then some ((false,()),()) else bif !iEq x0.1.2.1 x0.2.1.2.1 then some ((false,()),()) else (F136 ((x0.1.2.2.1,()),((x0.2.1.2.2.1,()),()))).bind fun y1=>bif (!y1.1.1) then some ((false,()),()) else some ((true,()),())
noncomputable def c46:Con:=⟨i46,o46,F46⟩
def i50:List Grp:= [⟨.c,(.cons (.sl e3) .nil),[]⟩,⟨.c,(.cons (.sl e3) .nil),[]⟩]
def o50:List Grp:= [⟨.c,(.cons .bool .nil),[]⟩]
noncomputable def F50.b0 (x0:((List D3×Unit)×((List D3×Unit)×Unit))):(v1:(Int×Unit))→Option (Sum (Int×Unit) (Sum (Int×Unit) (((Bool×Unit)×Unit)))):=fun v1=>bif iLt v1.1 (List.length x0.1.1:Int) then (getI x0.1.1 v1.1).bind fun x2=>(getI x0.2.1.1 v1.1).bind fun x3=>bif !iEq x2.1 x3.1 then some (.inr (.inr ((false,()),()))) else some (.inl (iAdd .i64 v1.1 (1:Int),())) else some (.inr (.inl (v1.1,())))
noncomputable def F50:((List D3×Unit)×((List D3×Unit)×Unit))→Option (((Bool×Unit)×Unit)):=fun x0=>bif !iEq (List.length x0.1.1:Int) (List.length x0.2.1.1:Int) then some ((false,()),()) else (loopF (F50.b0 x0) ((0:Int),())).bind fun r5=>Sum.elim (fun v4=>some ((true,()),())) some r5
noncomputable def c50:Con:=⟨i50,o50,F50⟩
def i47:List Grp:= [⟨.agg,e32,[]⟩,⟨.agg,e32,[]⟩]
def o47:List Grp:= [⟨.c,(.cons .bool .nil),[]⟩]
noncomputable def F47:(D32×(D32×Unit))→Option (((Bool×Unit)×Unit)):=fun x0=>bif !iEq x0.1.1 x0.2.1.1 then some ((false,()),()) else (F136 ((x0.1.2.1,()),((x0.2.1.2.1,()),()))).bind fun y1=>bif (!y1.1.1) then some ((false,()),()) else (F50 ((x0.1.2.2.1,()),((x0.2.1.2.2.1,()),()))).bind fun y2=>bif (!y2.1.1) then some ((false,()),()) else some ((true,()),())
noncomputable def c47:Con:=⟨i47,o47,F47⟩
def i139:List Grp:= [⟨.agg,e137,[]⟩,⟨.agg,e137,[]⟩]
def o139:List Grp:= [⟨.c,(.cons .bool .nil),[]⟩]
noncomputable def F139:(D137×(D137×Unit))→Option (((Bool×Unit)×Unit)):=fun x0=>bif !iEq x0.1.1 x0.2.1.1 then some ((false,()),()) else bif !sEq x0.1.2.1 x0.2.1.2.1 then some ((false,()),()) else bif !sEq x0.1.2.2.1 x0.2.1.2.2.1 then some ((false,()),()) else bif !iEq x0.1.2.2.2.1 x0.2.1.2.2.2.1 then some ((false,()),()) else bif !iEq x0.1.2.2.2.2.1 x0.2.1.2.2.2.2.1 then some ((false,()),()) else some ((true,()),())
noncomputable def c139:Con:=⟨i139,o139,F139⟩
def i51:List Grp:= [⟨.c,(.cons (.sl e169) .nil),[]⟩,⟨.c,(.cons (.sl e169) .nil),[]⟩]
def o51:List Grp:= [⟨.c,(.cons .bool .nil),[]⟩]
noncomputable def F51.b0 (x0:((List D169×Unit)×((List D169×Unit)×Unit))):(v1:(Int×Unit))→Option (Sum (Int×Unit) (Sum (Int×Unit) (((Bool×Unit)×Unit)))):=fun v1=>bif iLt v1.1 (List.length x0.1.1:Int) then (getI x0.1.1 v1.1).bind fun x2=>(getI x0.2.1.1 v1.1).bind fun x3=>(F139 (x2,(x3,()))).bind fun y4=>bif (!y4.1.1) then some (.inr (.inr ((false,()),()))) else some (.inl (iAdd .i64 v1.1 (1:Int),())) else some (.inr (.inl (v1.1,())))
noncomputable def F51:((List D169×Unit)×((List D169×Unit)×Unit))→Option (((Bool×Unit)×Unit)):=fun x0=>bif !iEq (List.length x0.1.1:Int) (List.length x0.2.1.1:Int) then some ((false,()),()) else (loopF (F51.b0 x0) ((0:Int),())).bind fun r6=>Sum.elim (fun v5=>some ((true,()),())) some r6
noncomputable def c51:Con:=⟨i51,o51,F51⟩
def i135:List Grp:= [⟨.agg,e154,[]⟩,⟨.agg,e154,[]⟩]
def o135:List Grp:= [⟨.c,(.cons .bool .nil),[]⟩]
noncomputable def F135:(D154×(D154×Unit))→Option (((Bool×Unit)×Unit)):=fun x0=>bif !iEq x0.1.1 x0.2.1.1 then some ((false,()),()) else bif !iEq x0.1.2.1 x0.2.1.2.1 then some ((false,()),()) else bif !iEq x0.1.2.2.1 x0.2.1.2.2.1 then some ((false,()),()) else bif !sEq x0.1.2.2.2.1 x0.2.1.2.2.2.1 then some ((false,()),()) else (F46 ((x0.1.2.2.2.2.1,(x0.1.2.2.2.2.2.1,(x0.1.2.2.2.2.2.2.1,()))),((x0.2.1.2.2.2.2.1,(x0.2.1.2.2.2.2.2.1,(x0.2.1.2.2.2.2.2.2.1,()))),()))).bind fun y1=>bif (!y1.1.1) then some ((false,()),()) else (F47 ((x0.1.2.2.2.2.2.2.2.1,(x0.1.2.2.2.2.2.2.2.2.1,(x0.1.2.2.2.2.2.2.2.2.2.1,()))),((x0.2.1.2.2.2.2.2.2.2.1,(x0.2.1.2.2.2.2.2.2.2.2.1,(x0.2.1.2.2.2.2.2.2.2.2.2.1,()))),()))).bind fun y2=>bif (!y2.1.1) then some ((false,()),()) else (F51 ((x0.1.2.2.2.2.2.2.2.2.2.2.1,()),((x0.2.1.2.2.2.2.2.2.2.2.2.2.1,()),()))).bind fun y3=>bif (!y3.1.1) then some ((false,()),()) else bif !bEq x0.1.2.2.2.2.2.2.2.2.2.2.2.1 x0.2.1.2.2.2.2.2.2.2.2.2.2.2.1 then some ((false,()),()) else (F44 ((x0.1.2.2.2.2.2.2.2.2.2.2.2.2.1,()),((x0.2.1.2.2.2.2.2.2.2.2.2.2.2.2.1,()),()))).bind fun y4=>bif (!y4.1.1) then some ((false,()),()) else bif !sEq x0.1.2.2.2.2.2.2.2.2.2.2.2.2.2.1 x0.2.1.2.2.2.2.2.2.2.2.2.2.2.2.2.1 then some ((false,()),()) else some ((true,()),())
noncomputable def c135:Con:=⟨i135,o135,F135⟩
def i45:List Grp:= [⟨.c,(.cons (.sl e154) .nil),[]⟩,⟨.c,(.cons (.sl e154) .nil),[]⟩]
def o45:List Grp:= [⟨.c,(.cons .bool .nil),[]⟩]
noncomputable def F45.b0 (x0:((List D154×Unit)×((List D154×Unit)×Unit))):(v1:(Int×Unit))→Option (Sum (Int×Unit) (Sum (Int×Unit) (((Bool×Unit)×Unit)))):=fun v1=>bif iLt v1.1 (List.length x0.1.1:Int) then (getI x0.1.1 v1.1).bind fun x2=>(getI x0.2.1.1 v1.1).bind fun x3=>(F135 (x2,(x3,()))).bind fun y4=>bif (!y4.1.1) then some (.inr (.inr ((false,()),()))) else some (.inl (iAdd .i64 v1.1 (1:Int),())) else some (.inr (.inl (v1.1,())))
noncomputable def F45:((List D154×Unit)×((List D154×Unit)×Unit))→Option (((Bool×Unit)×Unit)):=fun x0=>bif !iEq (List.length x0.1.1:Int) (List.length x0.2.1.1:Int) then some ((false,()),()) else (loopF (F45.b0 x0) ((0:Int),())).bind fun r6=>Sum.elim (fun v5=>some ((true,()),())) some r6
noncomputable def c45:Con:=⟨i45,o45,F45⟩
def i137:List Grp:= [⟨.agg,e132,[]⟩,⟨.agg,e132,[]⟩]
def o137:List Grp:= [⟨.c,(.cons .bool .nil),[]⟩]
noncomputable def F137:(D132×(D132×Unit))→Option (((Bool×Unit)×Unit)):=fun x0=>bif !iEq x0.1.1 x0.2.1.1 then some ((false,()),()) else bif !iEq x0.1.2.1 x0.2.1.2.1 then some ((false,()),()) else bif !sEq x0.1.2.2.1 x0.2.1.2.2.1 then some ((false,()),()) else some ((true,()),())
noncomputable def c137:Con:=⟨i137,o137,F137⟩
def i48:List Grp:= [⟨.c,(.cons (.sl e105) .nil),[]⟩,⟨.c,(.cons (.sl e105) .nil),[]⟩]
def o48:List Grp:= [⟨.c,(.cons .bool .nil),[]⟩]
noncomputable def F48.b0 (x0:((List D105×Unit)×((List D105×Unit)×Unit))):(v1:(Int×Unit))→Option (Sum (Int×Unit) (Sum (Int×Unit) (((Bool×Unit)×Unit)))):=fun v1=>bif iLt v1.1 (List.length x0.1.1:Int) then (getI x0.1.1 v1.1).bind fun x2=>(getI x0.2.1.1 v1.1).bind fun x3=>(F137 (x2,(x3,()))).bind fun y4=>bif (!y4.1.1) then some (.inr (.inr ((false,()),()))) else some (.inl (iAdd .i64 v1.1 (1:Int),())) else some (.inr (.inl (v1.1,())))
noncomputable def F48:((List D105×Unit)×((List D105×Unit)×Unit))→Option (((Bool×Unit)×Unit)):=fun x0=>bif !iEq (List.length x0.1.1:Int) (List.length x0.2.1.1:Int) then some ((false,()),()) else (loopF (F48.b0 x0) ((0:Int),())).bind fun r6=>Sum.elim (fun v5=>some ((true,()),())) some r6
noncomputable def c48:Con:=⟨i48,o48,F48⟩
def i138:List Grp:= [⟨.agg,e132,[]⟩,⟨.agg,e132,[]⟩]
def o138:List Grp:= [⟨.c,(.cons .bool .nil),[]⟩]
noncomputable def F138:(D132×(D132×Unit))→Option (((Bool×Unit)×Unit)):=fun x0=>bif !iEq x0.1.1 x0.2.1.1 then some ((false,()),()) else bif !iEq x0.1.2.1 x0.2.1.2.1 then some ((false,()),()) else bif !sEq x0.1.2.2.1 x0.2.1.2.2.1 then some ((false,()),()) else some ((true,()),())
noncomputable def c138:Con:=⟨i138,o138,F138⟩
def i49:List Grp:= [⟨.c,(.cons (.sl e107) .nil),[]⟩,⟨.c,(.cons (.sl e107) .nil),[]⟩]
def o49:List Grp:= [⟨.c,(.cons .bool .nil),[]⟩]
noncomputable def F49.b0 (x0:((List D107×Unit)×((List D107×Unit)×Unit))):(v1:(Int×Unit))→Option (Sum (Int×Unit) (Sum (Int×Unit) (((Bool×Unit)×Unit)))):=fun v1=>bif iLt v1.1 (List.length x0.1.1:Int) then (getI x0.1.1 v1.1).bind fun x2=>(getI x0.2.1.1 v1.1).bind fun x3=>(F138 (x2,(x3,()))).bind fun y4=>bif (!y4.1.1) then some (.inr (.inr ((false,()),()))) else some (.inl (iAdd .i64 v1.1 (1:Int),())) else some (.inr (.inl (v1.1,())))
noncomputable def F49:((List D107×Unit)×((List D107×Unit)×Unit))→Option (((Bool×Unit)×Unit)):=fun x0=>bif !iEq (List.length x0.1.1:Int) (List.length x0.2.1.1:Int) then some ((false,()),()) else (loopF (F49.b0 x0) ((0:Int),())).bind fun r6=>Sum.elim (fun v5=>some ((true,()),())) some r6
noncomputable def c49:Con:=⟨i49,o49,F49⟩
def i140:List Grp:= [⟨.agg,e146,[]⟩,⟨.agg,e146,[]⟩]
def o140:List Grp:= [⟨.c,(.cons .bool .nil),[]⟩]
noncomputable def F140:(D146×(D146×Unit))→Option (((Bool×Unit)×Unit)):=fun x0=>bif !iEq x0.1.1 x0.2.1.1 then some ((false,()),()) else (F45 ((x0.1.2.1,()),((x0.2.1.2.1,()),()))).bind fun y1=>bif (!y1.1.1) then some ((false,()),()) else (F46 ((x0.1.2.2.1,(x0.1.2.2.2.1,(x0.1.2.2.2.2.1,()))),((x0.2.1.2.2.1,(x0.2.1.2.2.2.1,(x0.2.1.2.2.2.2.1,()))),()))).bind fun y2=>bif (!y2.1.1) then some ((false,()),()) else some ((true,()),())
noncomputable def c140:Con:=⟨i140,o140,F140⟩
def i52:List Grp:= [⟨.c,(.cons (.sl e146) .nil),[]⟩,⟨.c,(.cons (.sl e146) .nil),[]⟩]
def o52:List Grp:= [⟨.c,(.cons .bool .nil),[]⟩]
noncomputable def F52.b0 (x0:((List D146×Unit)×((List D146×Unit)×Unit))):(v1:(Int×Unit))→Option (Sum (Int×Unit) (Sum (Int×Unit) (((Bool×Unit)×Unit)))):=fun v1=>bif iLt v1.1 (List.length x0.1.1:Int) then (getI x0.1.1 v1.1).bind fun x2=>(getI x0.2.1.1 v1.1).bind fun x3=>(F140 (x2,(x3,()))).bind fun y4=>bif (!y4.1.1) then some (.inr (.inr ((false,()),()))) else some (.inl (iAdd .i64 v1.1 (1:Int),())) else some (.inr (.inl (v1.1,())))
noncomputable def F52:((List D146×Unit)×((List D146×Unit)×Unit))→Option (((Bool×Unit)×Unit)):=fun x0=>bif !iEq (List.length x0.1.1:Int) (List.length x0.2.1.1:Int) then some ((false,()),()) else (loopF (F52.b0 x0) ((0:Int),())).bind fun r6=>Sum.elim (fun v5=>some ((true,()),())) some r6
noncomputable def c52:Con:=⟨i52,o52,F52⟩
def i8:List Grp:= [⟨.agg,e52,[]⟩,⟨.agg,e52,[]⟩]
def o8:List Grp:= [⟨.c,(.cons .bool .nil),[]⟩]
noncomputable def F8:(D52×(D52×Unit))→Option (((Bool×Unit)×Unit)):=fun x0=>bif !sEq x0.1.1 x0.2.1.1 then some ((false,()),()) else bif !iEq x0.1.2.1 x0.2.1.2.1 then some ((false,()),()) else (F43 ((x0.1.2.2.1,(x0.1.2.2.2.1,())),((x0.2.1.2.2.1,(x0.2.1.2.2.2.1,())),()))).bind fun y1=>bif (!y1.1.1) then some ((false,()),()) else (F44 ((x0.1.2.2.2.2.1,()),((x0.2.1.2.2.2.2.1,()),()))).bind fun y2=>bif (!y2.1.1) then some ((false,()),()) else (F45 ((x0.1.2.2.2.2.2.1,()),((x0.2.1.2.2.2.2.2.1,()),()))).bind fun y3=>bif (!y3.1.1) then some ((false,()),()) else bif !iEq x0.1.2.2.2.2.2.2.1 x0.2.1.2.2.2.2.2.2.1 then some ((false,()),()) else bif !iEq x0.1.2.2.2.2.2.2.2.1 x0.2.1.2.2.2.2.2.2.2.1 then some ((false,()),()) else (F46 ((x0.1.2.2.2.2.2.2.2.2.1,(x0.1.2.2.2.2.2.2.2.2.2.1,(x0.1.2.2.2.2.2.2.2.2.2.2.1,()))),((x0.2.1.2.2.2.2.2.2.2.2.1,(x0.2.1.2.2.2.2.2.2.2.2.2.1,(x0.2.1.2.2.2.2.2.2.2.2.2.2.1,()))),()))).bind fun y4=>bif (!y4.1.1) then some ((false,()),()) else (F47 ((x0.1.2.2.2.2.2.2.2.2.2.2.2.1,(x0.1.2.2.2.2.2.2.2.2.2.2.2.2.1,(x0.1.2.2.2.2.2.2.2.2.2.2.2.2.2.1,()))),((x0.2.1.2.2.2.2.2.2.2.2.2.2.2.1,(x0.2.1.2.2.2.2.2.2.2.2.2.2.2.2.1,(x0.2.1.2.2.2.2.2.2.2.2.2.2.2.2.2.1,()))),()))).bind fun y5=>bif (!y5.1.1) then some ((false,()),()) else bif !iEq x0.1.2.2.2.2.2.2.2.2.2.2.2.2.2.2.1 x0.2.1.2.2.2.2.2.2.2.2.2.2.2.2.2.2.1 then some ((false,()),()) else (F48 ((x0.1.2.2.2.2.2.2.2.2.2.2.2.2.2.2.2.1,()),((x0.2.1.2.2.2.2.2.2.2.2.2.2.2.2.2.2.2.1,()),()))).bind fun y6=>bif (!y6.1.1) then some ((false,()),()) else (F49 ((x0.1.2.2.2.2.2.2.2.2.2.2.2.2.2.2.2.2.1,()),((x0.2.1.2.2.2.2.2.2.2.2.2.2.2.2.2.2.2.2.1,()),()))).bind fun y7=>bif (!y7.1.1) then some ((false,()),()) else (F50 ((x0.1.2.2.2.2.2.2.2.2.2.2.2.2.2.2.2.2.2.1,()),((x0.2.1.2.2.2.2.2.2.2.2.2.2.2.2.2.2.2.2.2.1,()),()))).bind fun y8=>bif (!y8.1.1) then some ((false,()),()) else (F51 ((x0.1.2.2.2.2.2.2.2.2.2.2.2.2.2.2.2.2.2.2.1,()),((x0.2.1.2.2.2.2.2.2.2.2.2.2.2.2.2.2.2.2.2.2.1,()),()))).bind fun y9=>bif (!y9.1.1) then some ((false,()),()) else (F52 ((x0.1.2.2.2.2.2.2.2.2.2.2.2.2.2.2.2.2.2.2.2.1,()),((x0.2.1.2.2.2.2.2.2.2.2.2.2.2.2.2.2.2.2.2.2.2.1,()),()))).bind fun y10=>bif (!y10.1.1) then some ((false,()),()) else some ((true,()),())
noncomputable def c8:Con:=⟨i8,o8,F8⟩
def i53:List Grp:= [⟨.agg,e109,[]⟩,⟨.agg,e109,[]⟩]
def o53:List Grp:= [⟨.c,(.cons .bool .nil),[]⟩]
noncomputable def F53:(D109×(D109×Unit))→Option (((Bool×Unit)×Unit)):=fun x0=>bif !iEq x0.1.1 x0.2.1.1 then some ((false,()),()) else bif !sEq x0.1.2.1 x0.2.1.2.1 then some ((false,()),()) else bif !iEq x0.1.2.2.1 x0.2.1.2.2.1 then some ((false,()),()) else (F45 ((x0.1.2.2.2.1,()),((x0.2.1.2.2.2.1,()),()))).bind fun y1=>bif (!y1.1.1) then some ((false,()),()) else (F137 ((x0.1.2.2.2.2.1,(x0.1.2.2.2.2.2.1,(x0.1.2.2.2.2.2.2.1,()))),((x0.2.1.2.2.2.2.1,(x0.2.1.2.2.2.2.2.1,(x0.2.1.2.2.2.2.2.2.1,()))),()))).bind fun y2=>bif (!y2.1.1) then some ((false,()),()) else (F138 ((x0.1.2.2.2.2.2.2.2.1,(x0.1.2.2.2.2.2.2.2.2.1,(x0.1.2.2.2.2.2.2.2.2.2.1,()))),((x0.2.1.2.2.2.2.2.2.2.1,(x0.2.1.2.2.2.2.2.2.2.2.1,(x0.2.1.2.2.2.2.2.2.2.2.2.1,()))),()))).bind fun y3=>bif (!y3.1.1) then some ((false,()),()) else (F46 ((x0.1.2.2.2.2.2.2.2.2.2.2.1,(x0.1.2.2.2.2.2.2.2.2.2.2.2.1,(x0.1.2.2.2.2.2.2.2.2.2.2.2.2.1,()))),((x0.2.1.2.2.2.2.2.2.2.2.2.2.1,(x0.2.1.2.2.2.2.2.2.2.2.2.2.2.1,(x0.2.1.2.2.2.2.2.2.2.2.2.2.2.2.1,()))),()))).bind fun y4=>bif (!y4.1.1) then some ((false,()),()) else (F47 ((x0.1.2.2.2.2.2.2.2.2.2.2.2.2.2.1,(x0.1.2.2.2.2.2.2.2.2.2.2.2.2.2.2.1,(x0.1.2.2.2.2.2.2.2.2.2.2.2.2.2.2.2.1,()))),((x0.2.1.2.2.2.2.2.2.2.2.2.2.2.2.2.1,(x0.2.1.2.2.2.2.2.2.2.2.2.2.2.2.2.2.1,(x0.2.1.2.2.2.2.2.2.2.2.2.2.2.2.2.2.2.1,()))),()))).bind fun y5=>bif (!y5.1.1) then some ((false,()),()) else some ((true,()),())
noncomputable def c53:Con:=⟨i53,o53,F53⟩
def i9:List Grp:= [⟨.c,(.cons (.sl e109) .nil),[]⟩,⟨.c,(.cons (.sl e109) .nil),[]⟩]
def o9:List Grp:= [⟨.c,(.cons .bool .nil),[]⟩]
noncomputable def F9.b0 (x0:((List D109×Unit)×((List D109×Unit)×Unit))):(v1:(Int×Unit))→Option (Sum (Int×Unit) (Sum (Int×Unit) (((Bool×Unit)×Unit)))):=fun v1=>bif iLt v1.1 (List.length x0.1.1:Int) then (getI x0.1.1 v1.1).bind fun x2=>(getI x0.2.1.1 v1.1).bind fun x3=>(F53 (x2,(x3,()))).bind fun y4=>bif (!y4.1.1) then some (.inr (.inr ((false,()),()))) else some (.inl (iAdd .i64 v1.1 (1:Int),())) else some (.inr (.inl (v1.1,())))
noncomputable def F9:((List D109×Unit)×((List D109×Unit)×Unit))→Option (((Bool×Unit)×Unit)):=fun x0=>bif !iEq (List.length x0.1.1:Int) (List.length x0.2.1.1:Int) then some ((false,()),()) else (loopF (F9.b0 x0) ((0:Int),())).bind fun r6=>Sum.elim (fun v5=>some ((true,()),())) some r6
noncomputable def c9:Con:=⟨i9,o9,F9⟩
def i54:List Grp:= [⟨.agg,e112,[]⟩,⟨.agg,e112,[]⟩]
def o54:List Grp:= [⟨.c,(.cons .bool .nil),[]⟩]
noncomputable def F54:(D112×(D112×Unit))→Option (((Bool×Unit)×Unit)):=fun x0=>bif !iEq x0.1.1 x0.2.1.1 then some ((false,()),()) else bif !iEq x0.1.2.1 x0.2.1.2.1 then some ((false,()),()) else bif !iEq x0.1.2.2.1 x0.2.1.2.2.1 then some ((false,()),()) else bif !iEq x0.1.2.2.2.1 x0.2.1.2.2.2.1 then some ((false,()),()) else bif !sEq x0.1.2.2.2.2.1 x0.2.1.2.2.2.2.1 then some ((false,()),()) else some ((true,()),())
noncomputable def c54:Con:=⟨i54,o54,F54⟩
def i10:List Grp:= [⟨.c,(.cons (.sl e112) .nil),[]⟩,⟨.c,(.cons (.sl e112) .nil),[]⟩]
def o10:List Grp:= [⟨.c,(.cons .bool .nil),[]⟩]
noncomputable def F10.b0 (x0:((List D112×Unit)×((List D112×Unit)×Unit))):(v1:(Int×Unit))→Option (Sum (Int×Unit) (Sum (Int×Unit) (((Bool×Unit)×Unit)))):=fun v1=>bif iLt v1.1 (List.length x0.1.1:Int) then (getI x0.1.1 v1.1).bind fun x2=>(getI x0.2.1.1 v1.1).bind fun x3=>(F54 (x2,(x3,()))).bind fun y4=>bif (!y4.1.1) then some (.inr (.inr ((false,()),()))) else some (.inl (iAdd .i64 v1.1 (1:Int),())) else some (.inr (.inl (v1.1,())))
noncomputable def F10:((List D112×Unit)×((List D112×Unit)×Unit))→Option (((Bool×Unit)×Unit)):=fun x0=>bif !iEq (List.length x0.1.1:Int) (List.length x0.2.1.1:Int) then some ((false,()),()) else (loopF (F10.b0 x0) ((0:Int),())).bind fun r6=>Sum.elim (fun v5=>some ((true,()),())) some r6
noncomputable def c10:Con:=⟨i10,o10,F10⟩
def i65:List Grp:= [⟨.c,(.cons (.int .i64) .nil),[]⟩]
def o65:List Grp:= [⟨.c,(.cons .str .nil),[]⟩]
noncomputable def F65.b0:(v1:(Int×(ByteArray×Unit)))→Option (Sum (Int×(ByteArray×Unit)) (Sum (Int×(ByteArray×Unit)) (((ByteArray×Unit)×Unit)))):=fun v1=>bif iLt (0:Int) v1.1 then bif iEq (10:Int) 0 then none else bif sRoom (bytesStr ([(IntKind.wrap .u8 (iAdd .i64 (48:Int) (iRem v1.1 (10:Int))),())]:List (D5))) v1.2.1 then bif iEq (10:Int) 0 then none else some (.inl (iQuo .i64 v1.1 (10:Int),(sApp (bytesStr ([(IntKind.wrap .u8 (iAdd .i64 (48:Int) (iRem v1.1 (10:Int))),())]:List (D5))) v1.2.1,()))) else none else some (.inr (.inl (v1.1,(v1.2.1,()))))
noncomputable def F65:((Int×Unit)×Unit)→Option (((ByteArray×Unit)×Unit)):=fun x0=>bif iLe x0.1.1 (0:Int) then some ((⟨#[109,48]⟩,()),()) else (loopF F65.b0 (x0.1.1,(⟨#[]⟩,()))).bind fun r3=>Sum.elim (fun v2=>bif sRoom ⟨#[109]⟩ v2.2.1 then some ((sApp ⟨#[109]⟩ v2.2.1,()),()) else none) some r3
noncomputable def c65:Con:=⟨i65,o65,F65⟩
def i182:List Grp:= [⟨.wc,(.cons (.sl e229) .nil),[(.own [])]⟩,⟨.c,(.cons (.int .i64) .nil),[]⟩]
def o182:List Grp:= [⟨.c,(.cons (.int .i64) .nil),[]⟩,⟨.wc,(.cons (.sl e229) .nil),[(.own [])]⟩]
noncomputable def F182:((List D229×Unit)×((Int×Unit)×Unit))→Option (((Int×Unit)×((List D229×Unit)×Unit))):=markSl e229 F65 ((),((),()))
noncomputable def c182:Con:=⟨i182,o182,F182⟩
def i141:List Grp:= [⟨.wc,(.cons (.sl e207) .nil),[(.own m0)]⟩,⟨.c,(.cons (.int .i64) .nil),[]⟩]
def o141:List Grp:= [⟨.c,(.cons (.int .i64) .nil),[]⟩,⟨.wc,(.cons (.sl e207) .nil),[(.own m0)]⟩]
noncomputable def F141:((List D207×Unit)×((Int×Unit)×Unit))→Option (((Int×Unit)×((List D207×Unit)×Unit))):=markSl e207 F65 ((),((),((),((),(F182,())))))
noncomputable def c141:Con:=⟨i141,o141,F141⟩
def i55:List Grp:= [⟨.wa,e42,[.sh,(.own m0)]⟩,⟨.c,(.cons (.int .i64) .nil),[]⟩]
def o55:List Grp:= [⟨.c,(.cons (.int .i64) .nil),[]⟩,⟨.wa,e42,[.sh,(.own m0)]⟩]
noncomputable def F55:(D42×((Int×Unit)×Unit))→Option (((Int×Unit)×(D42×Unit))):=fun x0=>(F141 ((x0.1.2.1,()),(x0.2.1,()))).bind fun y1=>some (y1.1,((x0.1.1,(y1.2.1.1,())),()))
noncomputable def c55:Con:=⟨i55,o55,F55⟩
def i56:List Grp:= [⟨.wc,(.cons (.sl e163) .nil),[(.own [])]⟩,⟨.c,(.cons (.int .i64) .nil),[]⟩]
def o56:List Grp:= [⟨.c,(.cons (.int .i64) .nil),[]⟩,⟨.wc,(.cons (.sl e163) .nil),[(.own [])]⟩]
noncomputable def F56:((List D163×Unit)×((Int×Unit)×Unit))→Option (((Int×Unit)×((List D163×Unit)×Unit))):=markSl e163 F65 ((),((),()))
noncomputable def c56:Con:=⟨i56,o56,F56⟩
def i66:List Grp:= [⟨.wc,(.cons (.sl e9) .nil),[(.own [])]⟩,⟨.c,(.cons (.int .i64) .nil),[]⟩]
def o66:List Grp:= [⟨.c,(.cons (.int .i64) .nil),[]⟩,⟨.wc,(.cons (.sl e9) .nil),[(.own [])]⟩]
noncomputable def F66:((List D9×Unit)×((Int×Unit)×Unit))→Option (((Int×Unit)×((List D9×Unit)×Unit))):=markSl e9 F65 ((),())
noncomputable def c66:Con:=⟨i66,o66,F66⟩
def i62:List Grp:= [⟨.wc,(.cons (.sl e3) .nil),[(.own [])]⟩,⟨.c,(.cons (.int .i64) .nil),[]⟩]
def o62:List Grp:= [⟨.c,(.cons (.int .i64) .nil),[]⟩,⟨.wc,(.cons (.sl e3) .nil),[(.own [])]⟩]
noncomputable def F62:((List D3×Unit)×((Int×Unit)×Unit))→Option (((Int×Unit)×((List D3×Unit)×Unit))):=markSl e3 F65 ((),())
noncomputable def c62:Con:=⟨i62,o62,F62⟩
def i63:List Grp:= [⟨.wc,(.cons (.sl e169) .nil),[(.own [])]⟩,⟨.c,(.cons (.int .i64) .nil),[]⟩]
def o63:List Grp:= [⟨.c,(.cons (.int .i64) .nil),[]⟩,⟨.wc,(.cons (.sl e169) .nil),[(.own [])]⟩]
noncomputable def F63:((List D169×Unit)×((Int×Unit)×Unit))→Option (((Int×Unit)×((List D169×Unit)×Unit))):=markSl e169 F65 ((),((),((),((),((),())))))
noncomputable def c63:Con:=⟨i63,o63,F63⟩
def i57:List Grp:= [⟨.wc,(.cons (.sl e154) .nil),[(.own m2)]⟩,⟨.c,(.cons (.int .i64) .nil),[]⟩]
def o57:List Grp:= [⟨.c,(.cons (.int .i64) .nil),[]⟩,⟨.wc,(.cons (.sl e154) .nil),[(.own m2)]⟩]
noncomputable def F57:((List D154×Unit)×((Int×Unit)×Unit))→Option (((Int×Unit)×((List D154×Unit)×Unit))):=markSl e154 F65 ((),((),((),((),((),((),(F66,((),(F66,(F62,(F63,((),(F56,((),()))))))))))))))
noncomputable def c57:Con:=⟨i57,o57,F57⟩
def i58:List Grp:= [⟨.wa,e29,[.sh,.sh,(.own [])]⟩,⟨.c,(.cons (.int .i64) .nil),[]⟩]
def o58:List Grp:= [⟨.c,(.cons (.int .i64) .nil),[]⟩,⟨.wa,e29,[.sh,.sh,(.own [])]⟩]
noncomputable def F58:(D29×((Int×Unit)×Unit))→Option (((Int×Unit)×(D29×Unit))):=fun x0=>(F66 ((x0.1.2.2.1,()),(x0.2.1,()))).bind fun y1=>some (y1.1,((x0.1.1,(x0.1.2.1,(y1.2.1.1,()))),()))
noncomputable def c58:Con:=⟨i58,o58,F58⟩
def i59:List Grp:= [⟨.wa,e32,m1⟩,⟨.c,(.cons (.int .i64) .nil),[]⟩]
def o59:List Grp:= [⟨.c,(.cons (.int .i64) .nil),[]⟩,⟨.wa,e32,m1⟩]
noncomputable def F59:(D32×((Int×Unit)×Unit))→Option (((Int×Unit)×(D32×Unit))):=fun x0=>(F66 ((x0.1.2.1,()),(x0.2.1,()))).bind fun y1=>(F62 ((x0.1.2.2.1,()),(y1.1,()))).bind fun y2=>some (y2.1,((x0.1.1,(y1.2.1.1,(y2.2.1.1,()))),()))
noncomputable def c59:Con:=⟨i59,o59,F59⟩
def i60:List Grp:= [⟨.wc,(.cons (.sl e105) .nil),[(.own [])]⟩,⟨.c,(.cons (.int .i64) .nil),[]⟩]
def o60:List Grp:= [⟨.c,(.cons (.int .i64) .nil),[]⟩,⟨.wc,(.cons (.sl e105) .nil),[(.own [])]⟩]
noncomputable def F60:((List D105×Unit)×((Int×Unit)×Unit))→Option (((Int×Unit)×((List D105×Unit)×Unit))):=markSl e105 F65 ((),((),((),())))
noncomputable def c60:Con:=⟨i60,o60,F60⟩
end Go.Proofs.YtbhckidcagloeaaGreat
-- no more blanks than needed
