/- What the functions that the laws reach compute, as functions over plain data; each one's equation with the program is checked by the kernel. Conditions: none. -/
import Derived.Test.YtmjkakjeiopieaaGreatTm4
import Derived.Test.YtmjkakjeiopieaaGreatProg
namespace Go.Proofs.YtmjkakjeiopieaaGreat
open Go Go.Tm
set_option linter.unusedVariables false
set_option maxRecDepth 100000
def e3:Tys:=(.cons (.int .i64) .nil)
abbrev D3:Type:=(Int×Unit)
def e4:Tys:=(.cons .bool .nil)
abbrev D4:Type:=(Bool×Unit)
def e9:Tys:=(.cons .str .nil)
abbrev D9:Type:=(ByteArray×Unit)
def e254:Tys:=(.cons (.int .i64) (.cons (.int .i64) .nil))
abbrev D254:Type:=(Int×(Int×Unit))
def e170:Tys:=(.cons .str (.cons (.int .i64) (.cons (.int .i64) (.cons (.int .i64) (.cons (.sl e254) .nil)))))
abbrev D170:Type:=(ByteArray×(Int×(Int×(Int×(List D254×Unit)))))
def e24:Tys:=(.cons (.int .i64) (.cons (.sl e170) .nil))
abbrev D24:Type:=(Int×(List D170×Unit))
def e230:Tys:=(.cons .str (.cons (.int .i64) .nil))
abbrev D230:Type:=(ByteArray×(Int×Unit))
def e232:Tys:=(.cons (.int .i64) (.cons .str (.cons .str (.cons (.int .i64) (.cons (.int .i64) .nil)))))
abbrev D232:Type:=(Int×(ByteArray×(ByteArray×(Int×(Int×Unit)))))
def e108:Tys:=(.cons (.int .i64) (.cons (.int .i64) (.cons (.int .i64) (.cons .str (.cons (.int .i64) (.cons (.int .i64) (.cons (.sl e9) (.cons (.int .i64) (.cons (.sl e9) (.cons (.sl e3) (.cons (.sl e232) (.cons .bool (.cons (.sl e230) (.cons .str .nil))))))))))))))
abbrev D108:Type:=(Int×(Int×(Int×(ByteArray×(Int×(Int×(List D9×(Int×(List D9×(List D3×(List D232×(Bool×(List D230×(ByteArray×Unit))))))))))))))
def e114:Tys:=(.cons (.int .i64) (.cons (.int .i64) (.cons .str .nil)))
abbrev D114:Type:=(Int×(Int×(ByteArray×Unit)))
def e116:Tys:=(.cons (.int .i64) (.cons (.int .i64) (.cons .str .nil)))
abbrev D116:Type:=(Int×(Int×(ByteArray×Unit)))
def e235:Tys:=(.cons (.int .i64) (.cons (.sl e108) (.cons (.int .i64) (.cons (.int .i64) (.cons (.sl e9) .nil)))))
abbrev D235:Type:=(Int×(List D108×(Int×(Int×(List D9×Unit)))))
def e105:Tys:=(.cons .str (.cons (.int .i64) (.cons (.int .i64) (.cons (.sl e170) (.cons (.sl e230) (.cons (.sl e108) (.cons (.int .i64) (.cons (.int .i64) (.cons (.int .i64) (.cons (.int .i64) (.cons (.sl e9) (.cons (.int .i64) (.cons (.sl e9) (.cons (.sl e3) (.cons (.int .i64) (.cons (.sl e114) (.cons (.sl e116) (.cons (.sl e3) (.cons (.sl e232) (.cons (.sl e235) .nil))))))))))))))))))))
abbrev D105:Type:=(ByteArray×(Int×(Int×(List D170×(List D230×(List D108×(Int×(Int×(Int×(Int×(List D9×(Int×(List D9×(List D3×(Int×(List D114×(List D116×(List D3×(List D232×(List D235×Unit))))))))))))))))))))
def e111:Tys:=(.cons (.int .i64) (.cons (.int .i64) (.cons (.int .i64) (.cons (.int .i64) (.cons .str .nil)))))
abbrev D111:Type:=(Int×(Int×(Int×(Int×(ByteArray×Unit)))))
def e118:Tys:=(.cons (.int .i64) (.cons .str (.cons (.int .i64) (.cons (.sl e108) (.cons (.int .i64) (.cons (.int .i64) (.cons .str (.cons (.int .i64) (.cons (.int .i64) (.cons .str (.cons (.int .i64) (.cons (.int .i64) (.cons (.sl e9) (.cons (.int .i64) (.cons (.sl e9) (.cons (.sl e3) .nil))))))))))))))))
abbrev D118:Type:=(Int×(ByteArray×(Int×(List D108×(Int×(Int×(ByteArray×(Int×(Int×(ByteArray×(Int×(Int×(List D9×(Int×(List D9×(List D3×Unit))))))))))))))))
def e31:Tys:=(.cons (.int .i64) (.cons (.sl e170) (.cons (.sl e9) (.cons (.sl e105) (.cons (.sl e108) (.cons (.sl e111) (.cons (.sl e118) .nil)))))))
abbrev D31:Type:=(Int×(List D170×(List D9×(List D105×(List D108×(List D111×(List D118×Unit)))))))
def e129:Tys:=(.cons (.int .i64) (.cons (.int .i64) .nil))
abbrev D129:Type:=(Int×(Int×Unit))
def e127:Tys:=(.cons .str (.cons (.int .i64) (.cons (.int .i64) (.cons (.int .i64) (.cons (.sl e129) .nil)))))
abbrev D127:Type:=(ByteArray×(Int×(Int×(Int×(List D129×Unit)))))
def e36:Tys:=(.cons (.int .i64) (.cons (.sl e127) .nil))
abbrev D36:Type:=(Int×(List D127×Unit))
def e209:Tys:=(.cons .str (.cons (.int .i64) .nil))
abbrev D209:Type:=(ByteArray×(Int×Unit))
def e122:Tys:=(.cons (.int .i64) (.cons .str (.cons .str (.cons (.int .i64) (.cons (.int .i64) .nil)))))
abbrev D122:Type:=(Int×(ByteArray×(ByteArray×(Int×(Int×Unit)))))
def e71:Tys:=(.cons (.int .i64) (.cons (.int .i64) (.cons (.int .i64) (.cons .str (.cons (.int .i64) (.cons (.int .i64) (.cons (.sl e9) (.cons (.int .i64) (.cons (.sl e9) (.cons (.sl e3) (.cons (.sl e122) (.cons .bool (.cons (.sl e209) (.cons .str .nil))))))))))))))
abbrev D71:Type:=(Int×(Int×(Int×(ByteArray×(Int×(Int×(List D9×(Int×(List D9×(List D3×(List D122×(Bool×(List D209×(ByteArray×Unit))))))))))))))
def e140:Tys:=(.cons (.int .i64) (.cons (.int .i64) (.cons .str .nil)))
abbrev D140:Type:=(Int×(Int×(ByteArray×Unit)))
def e141:Tys:=(.cons (.int .i64) (.cons (.int .i64) (.cons .str .nil)))
abbrev D141:Type:=(Int×(Int×(ByteArray×Unit)))
def e211:Tys:=(.cons (.int .i64) (.cons (.sl e71) (.cons (.int .i64) (.cons (.int .i64) (.cons (.sl e9) .nil)))))
abbrev D211:Type:=(Int×(List D71×(Int×(Int×(List D9×Unit)))))
def e135:Tys:=(.cons .str (.cons (.int .i64) (.cons (.int .i64) (.cons (.sl e127) (.cons (.sl e209) (.cons (.sl e71) (.cons (.int .i64) (.cons (.int .i64) (.cons (.int .i64) (.cons (.int .i64) (.cons (.sl e9) (.cons (.int .i64) (.cons (.sl e9) (.cons (.sl e3) (.cons (.int .i64) (.cons (.sl e140) (.cons (.sl e141) (.cons (.sl e3) (.cons (.sl e122) (.cons (.sl e211) .nil))))))))))))))))))))
abbrev D135:Type:=(ByteArray×(Int×(Int×(List D127×(List D209×(List D71×(Int×(Int×(Int×(Int×(List D9×(Int×(List D9×(List D3×(Int×(List D140×(List D141×(List D3×(List D122×(List D211×Unit))))))))))))))))))))
def e138:Tys:=(.cons (.int .i64) (.cons (.int .i64) (.cons (.int .i64) (.cons (.int .i64) (.cons .str .nil)))))
abbrev D138:Type:=(Int×(Int×(Int×(Int×(ByteArray×Unit)))))
def e143:Tys:=(.cons (.int .i64) (.cons .str (.cons (.int .i64) (.cons (.sl e71) (.cons (.int .i64) (.cons (.int .i64) (.cons .str (.cons (.int .i64) (.cons (.int .i64) (.cons .str (.cons (.int .i64) (.cons (.int .i64) (.cons (.sl e9) (.cons (.int .i64) (.cons (.sl e9) (.cons (.sl e3) .nil))))))))))))))))
abbrev D143:Type:=(Int×(ByteArray×(Int×(List D71×(Int×(Int×(ByteArray×(Int×(Int×(ByteArray×(Int×(Int×(List D9×(Int×(List D9×(List D3×Unit))))))))))))))))
def e44:Tys:=(.cons (.int .i64) (.cons (.sl e127) (.cons (.sl e9) (.cons (.sl e135) (.cons (.sl e71) (.cons (.sl e138) (.cons (.sl e143) .nil)))))))
abbrev D44:Type:=(Int×(List D127×(List D9×(List D135×(List D71×(List D138×(List D143×Unit)))))))
def e65:Tys:=(.cons (.int .i64) (.cons (.int .i64) (.cons (.sl e9) .nil)))
abbrev D65:Type:=(Int×(Int×(List D9×Unit)))
def e67:Tys:=(.cons (.int .i64) (.cons (.sl e9) (.cons (.sl e3) .nil)))
abbrev D67:Type:=(Int×(List D9×(List D3×Unit)))
def e92:Tys:=(.cons .bool (.cons .bool (.cons .bool (.cons .bool .nil))))
abbrev D92:Type:=(Bool×(Bool×(Bool×(Bool×Unit))))
def e98:Tys:=(.cons (.int .i64) (.cons (.int .i64) (.cons (.sl e9) .nil)))
abbrev D98:Type:=(Int×(Int×(List D9×Unit)))
def e99:Tys:=(.cons (.int .i64) (.cons (.sl e9) (.cons (.sl e3) .nil)))
abbrev D99:Type:=(Int×(List D9×(List D3×Unit)))
def m0:List Md:= [.sh,.sh,.sh,.sh,(.own [])]
def m1:List Md:= [.sh,(.own []),(.own [])]
def m2:List Md:= [.sh,.sh,.sh,.sh,.sh,.sh,(.own []),.sh,(.own []),(.own []),(.own []),.sh,(.own [])]
def m3:List Md:= [.sh,(.own m2),.sh,.sh,(.own [])]
def m4:List Md:= [.sh,.sh,.sh,(.own m0),(.own []),(.own m2),.sh,.sh,.sh,.sh,(.own []),.sh,(.own []),(.own []),.sh,(.own []),(.own []),(.own []),(.own []),(.own m3)]
def m5:List Md:= [.sh,.sh,.sh,(.own m2),.sh,.sh,.sh,.sh,.sh,.sh,.sh,.sh,(.own []),.sh,(.own []),(.own [])]
def m6:List Md:= [.sh,(.own m0),(.own []),(.own m4),(.own m2),(.own []),(.own m5)]
def TTL:List (Nat×TI):= [(3,⟨1,8,.int .i64,[(.int .i64 (0:Int))],[],[],none⟩),(4,⟨1,1,.bool,[(.bool false)],[],[],none⟩),(5,⟨1,1,.int .u8,[(.int .u8 (0:Int))],[],[],none⟩),(9,⟨1,16,.str,[(.str ⟨#[]⟩)],[],[],none⟩),(22,⟨1,24,.slice 170,[.nils],[],[],none⟩),(24,⟨2,32,.struct,[(.int .i64 (0:Int)),.nils],[(0,1),(1,1)],[false,false],none⟩),(25,⟨1,24,.slice 9,[.nils],[],[],none⟩),(26,⟨1,24,.slice 105,[.nils],[],[],none⟩),(27,⟨1,24,.slice 108,[.nils],[],[],none⟩),(28,⟨1,24,.slice 111,[.nils],[],[],none⟩),(29,⟨1,24,.slice 118,[.nils],[],[],none⟩),(31,⟨7,152,.struct,[(.int .i64 (0:Int)),.nils,.nils,.nils,.nils,.nils,.nils],[(0,2),(2,1),(3,1),(4,1),(5,1),(6,1)],[true,false,false,false,false,false],none⟩),(32,⟨1,24,.slice 3,[.nils],[],[],none⟩),(34,⟨1,24,.slice 127,[.nils],[],[],none⟩),(36,⟨2,32,.struct,[(.int .i64 (0:Int)),.nils],[(0,1),(1,1)],[false,false],none⟩),(39,⟨1,24,.slice 135,[.nils],[],[],none⟩),(40,⟨1,24,.slice 71,[.nils],[],[],none⟩),(41,⟨1,24,.slice 138,[.nils],[],[],none⟩),(42,⟨1,24,.slice 143,[.nils],[],[],none⟩),(44,⟨7,152,.struct,[(.int .i64 (0:Int)),.nils,.nils,.nils,.nils,.nils,.nils],[(0,2),(2,1),(3,1),(4,1),(5,1),(6,1)],[true,false,false,false,false,false],none⟩),(65,⟨3,40,.struct,[(.int .i64 (0:Int)),(.int .i64 (0:Int)),.nils],[(0,1),(1,1),(2,1)],[false,false,false],none⟩),(67,⟨3,56,.struct,[(.int .i64 (0:Int)),.nils,.nils],[(0,1),(1,1),(2,1)],[false,false,false],none⟩),(68,⟨1,24,.slice 122,[.nils],[],[],none⟩),(69,⟨1,24,.slice 209,[.nils],[],[],none⟩),(71,⟨14,208,.struct,[(.int .i64 (0:Int)),(.int .i64 (0:Int)),(.int .i64 (0:Int)),(.str ⟨#[]⟩),(.int .i64 (0:Int)),(.int .i64 (0:Int)),.nils,(.int .i64 (0:Int)),.nils,.nils,.nils,(.bool false),.nils,(.str ⟨#[]⟩)],[(0,1),(1,1),(2,1),(3,1),(4,3),(7,3),(10,1),(11,1),(12,1),(13,1)],[false,false,false,false,true,true,false,false,false,false],none⟩),(92,⟨4,4,.struct,[(.bool false),(.bool false),(.bool false),(.bool false)],[(0,1),(1,1),(2,1),(3,1)],[],none⟩),(94,⟨1,24,.slice 4,[.nils],[],[],none⟩),(97,⟨1,24,.slice 230,[.nils],[],[],none⟩),(98,⟨3,40,.struct,[(.int .i64 (0:Int)),(.int .i64 (0:Int)),.nils],[(0,1),(1,1),(2,1)],[false,false,false],none⟩),(99,⟨3,56,.struct,[(.int .i64 (0:Int)),.nils,.nils],[(0,1),(1,1),(2,1)],[false,false,false],none⟩),(100,⟨1,24,.slice 114,[.nils],[],[],none⟩),(101,⟨1,24,.slice 116,[.nils],[],[],none⟩),(102,⟨1,24,.slice 232,[.nils],[],[],none⟩),(103,⟨1,24,.slice 235,[.nils],[],[],none⟩),(105,⟨20,344,.struct,[(.str ⟨#[]⟩),(.int .i64 (0:Int)),(.int .i64 (0:Int)),.nils,.nils,.nils,(.int .i64 (0:Int)),(.int .i64 (0:Int)),(.int .i64 (0:Int)),(.int .i64 (0:Int)),.nils,(.int .i64 (0:Int)),.nils,.nils,(.int .i64 (0:Int)),.nils,.nils,.nils,.nils,.nils],[(0,1),(1,1),(2,2),(4,1),(5,1),(6,1),(7,1),(8,3),(11,3),(14,1),(15,1),(16,1),(17,1),(18,1),(19,1)],[false,false,true,false,false,false,false,true,true,false,false,false,false,false,false],none⟩),(108,⟨14,208,.struct,[(.int .i64 (0:Int)),(.int .i64 (0:Int)),(.int .i64 (0:Int)),(.str ⟨#[]⟩),(.int .i64 (0:Int)),(.int .i64 (0:Int)),.nils,(.int .i64 (0:Int)),.nils,.nils,.nils,(.bool false),.nils,(.str ⟨#[]⟩)],[(0,1),(1,1),(2,1),(3,1),(4,3),(7,3),(10,1),(11,1),(12,1),(13,1)],[false,false,false,false,true,true,false,false,false,false],none⟩),(111,⟨5,48,.struct,[(.int .i64 (0:Int)),(.int .i64 (0:Int)),(.int .i64 (0:Int)),(.int .i64 (0:Int)),(.str ⟨#[]⟩)],[(0,1),(1,1),(2,1),(3,1),(4,1)],[false,false,false,false,false],(some [.int .i64,.int .i64,.int .i64,.int .i64,.str])⟩),(114,⟨3,32,.struct,[(.int .i64 (0:Int)),(.int .i64 (0:Int)),(.str ⟨#[]⟩)],[(0,1),(1,1),(2,1)],[false,false,false],(some [.int .i64,.int .i64,.str])⟩),(116,⟨3,32,.struct,[(.int .i64 (0:Int)),(.int .i64 (0:Int)),(.str ⟨#[]⟩)],[(0,1),(1,1),(2,1)],[false,false,false],(some [.int .i64,.int .i64,.str])⟩),(118,⟨16,216,.struct,[(.int .i64 (0:Int)),(.str ⟨#[]⟩),(.int .i64 (0:Int)),.nils,(.int .i64 (0:Int)),(.int .i64 (0:Int)),(.str ⟨#[]⟩),(.int .i64 (0:Int)),(.int .i64 (0:Int)),(.str ⟨#[]⟩),(.int .i64 (0:Int)),(.int .i64 (0:Int)),.nils,(.int .i64 (0:Int)),.nils,.nils],[(0,1),(1,1),(2,1),(3,1),(4,3),(7,3),(10,3),(13,3)],[false,false,false,false,true,true,true,true],none⟩),(122,⟨5,56,.struct,[(.int .i64 (0:Int)),(.str ⟨#[]⟩),(.str ⟨#[]⟩),(.int .i64 (0:Int)),(.int .i64 (0:Int))],[(0,1),(1,1),(2,1),(3,1),(4,1)],[false,false,false,false,false],(some [.int .i64,.str,.str,.int .i64,.int .i64])⟩),(125,⟨1,24,.slice 129,[.nils],[],[],none⟩),(127,⟨5,64,.struct,[(.str ⟨#[]⟩),(.int .i64 (0:Int)),(.int .i64 (0:Int)),(.int .i64 (0:Int)),.nils],[(0,1),(1,1),(2,1),(3,1),(4,1)],[false,false,false,false,false],none⟩),(129,⟨2,16,.struct,[(.int .i64 (0:Int)),(.int .i64 (0:Int))],[(0,1),(1,1)],[false,false],(some [.int .i64,.int .i64])⟩),(131,⟨1,24,.slice 140,[.nils],[],[],none⟩),(132,⟨1,24,.slice 141,[.nils],[],[],none⟩),(133,⟨1,24,.slice 211,[.nils],[],[],none⟩),(135,⟨20,344,.struct,[(.str ⟨#[]⟩),(.int .i64 (0:Int)),(.int .i64 (0:Int)),.nils,.nils,.nils,(.int .i64 (0:Int)),(.int .i64 (0:Int)),(.int .i64 (0:Int)),(.int .i64 (0:Int)),.nils,(.int .i64 (0:Int)),.nils,.nils,(.int .i64 (0:Int)),.nils,.nils,.nils,.nils,.nils],[(0,1),(1,1),(2,2),(4,1),(5,1),(6,1),(7,1),(8,3),(11,3),(14,1),(15,1),(16,1),(17,1),(18,1),(19,1)],[false,false,true,false,false,false,false,true,true,false,false,false,false,false,false],none⟩),(138,⟨5,48,.struct,[(.int .i64 (0:Int)),(.int .i64 (0:Int)),(.int .i64 (0:Int)),(.int .i64 (0:Int)),(.str ⟨#[]⟩)],[(0,1),(1,1),(2,1),(3,1),(4,1)],[false,false,false,false,false],(some [.int .i64,.int .i64,.int .i64,.int .i64,.str])⟩),(140,⟨3,32,.struct,[(.int .i64 (0:Int)),(.int .i64 (0:Int)),(.str ⟨#[]⟩)],[(0,1),(1,1),(2,1)],[false,false,false],(some [.int .i64,.int .i64,.str])⟩),(141,⟨3,32,.struct,[(.int .i64 (0:Int)),(.int .i64 (0:Int)),(.str ⟨#[]⟩)],[(0,1),(1,1),(2,1)],[false,false,false],(some [.int .i64,.int .i64,.str])⟩),(143,⟨16,216,.struct,[(.int .i64 (0:Int)),(.str ⟨#[]⟩),(.int .i64 (0:Int)),.nils,(.int .i64 (0:Int)),(.int .i64 (0:Int)),(.str ⟨#[]⟩),(.int .i64 (0:Int)),(.int .i64 (0:Int)),(.str ⟨#[]⟩),(.int .i64 (0:Int)),(.int .i64 (0:Int)),.nils,(.int .i64 (0:Int)),.nils,.nils],[(0,1),(1,1),(2,1),(3,1),(4,3),(7,3),(10,3),(13,3)],[false,false,false,false,true,true,true,true],none⟩),(168,⟨1,24,.slice 254,[.nils],[],[],none⟩),(170,⟨5,64,.struct,[(.str ⟨#[]⟩),(.int .i64 (0:Int)),(.int .i64 (0:Int)),(.int .i64 (0:Int)),.nils],[(0,1),(1,1),(2,1),(3,1),(4,1)],[false,false,false,false,false],none⟩),(209,⟨2,24,.struct,[(.str ⟨#[]⟩),(.int .i64 (0:Int))],[(0,1),(1,1)],[false,false],(some [.str,.int .i64])⟩),(211,⟨5,72,.struct,[(.int .i64 (0:Int)),.nils,(.int .i64 (0:Int)),(.int .i64 (0:Int)),.nils],[(0,1),(1,1),(2,3)],[false,false,true],none⟩),(230,⟨2,24,.struct,[(.str ⟨#[]⟩),(.int .i64 (0:Int))],[(0,1),(1,1)],[false,false],(some [.str,.int .i64])⟩),(232,⟨5,56,.struct,[(.int .i64 (0:Int)),(.str ⟨#[]⟩),(.str ⟨#[]⟩),(.int .i64 (0:Int)),(.int .i64 (0:Int))],[(0,1),(1,1),(2,1),(3,1),(4,1)],[false,false,false,false,false],(some [.int .i64,.str,.str,.int .i64,.int .i64])⟩),(235,⟨5,72,.struct,[(.int .i64 (0:Int)),.nils,(.int .i64 (0:Int)),(.int .i64 (0:Int)),.nils],[(0,1),(1,1),(2,3)],[false,false,true],none⟩),(254,⟨2,16,.struct,[(.int .i64 (0:Int)),(.int .i64 (0:Int))],[(0,1),(1,1)],[false,false],(some [.int .i64,.int .i64])⟩)]
theorem tt_ok:TTL.map (fun p=>tiOf Tryz.prog p.1)=TTL.map (fun p=>some p.2):=by kernel_rfl
def TT:Nat→Option TI:=lookT TTL
def EE:Nat→Tys:=fun n=>(bif Nat.ble n 114 then (bif Nat.ble n 65 then (bif Nat.ble n 24 then (bif Nat.ble n 4 then (bif Nat.ble n 3 then (bif Nat.beq n 3 then e3 else .nil) else (bif Nat.beq n 4 then e4 else .nil)) else (bif Nat.ble n 9 then (bif Nat.beq n 9 then e9 else .nil) else (bif Nat.beq n 24 then e24 else .nil))) else (bif Nat.ble n 36 then (bif Nat.ble n 31 then (bif Nat.beq n 31 then e31 else .nil) else (bif Nat.beq n 36 then e36 else .nil)) else (bif Nat.ble n 44 then (bif Nat.beq n 44 then e44 else .nil) else (bif Nat.beq n 65 then e65 else .nil)))) else (bif Nat.ble n 98 then (bif Nat.ble n 71 then (bif Nat.ble n 67 then (bif Nat.beq n 67 then e67 else .nil) else (bif Nat.beq n 71 then e71 else .nil)) else (bif Nat.ble n 92 then (bif Nat.beq n 92 then e92 else .nil) else (bif Nat.beq n 98 then e98 else .nil))) else (bif Nat.ble n 105 then (bif Nat.ble n 99 then (bif Nat.beq n 99 then e99 else .nil) else (bif Nat.beq n 105 then e105 else .nil)) else (bif Nat.ble n 108 then (bif Nat.beq n 108 then e108 else .nil) else (bif Nat.ble n 111 then (bif Nat.beq n 111 then e111 else .nil) else (bif Nat.beq n 114 then e114 else .nil)))))) else (bif Nat.ble n 140 then (bif Nat.ble n 127 then (bif Nat.ble n 118 then (bif Nat.ble n 116 then (bif Nat.beq n 116 then e116 else .nil) else (bif Nat.beq n 118 then e118 else .nil)) else (bif Nat.ble n 122 then (bif Nat.beq n 122 then e122 else .nil) else (bif Nat.beq n 127 then e127 else .nil))) else (bif Nat.ble n 135 then (bif Nat.ble n 129 then (bif Nat.beq n 129 then e129 else .nil) else (bif Nat.beq n 135 then e135 else .nil)) else (bif Nat.ble n 138 then (bif Nat.beq n 138 then e138 else .nil) else (bif Nat.beq n 140 then e140 else .nil)))) else (bif Nat.ble n 209 then (bif Nat.ble n 143 then (bif Nat.ble n 141 then (bif Nat.beq n 141 then e141 else .nil) else (bif Nat.beq n 143 then e143 else .nil)) else (bif Nat.ble n 170 then (bif Nat.beq n 170 then e170 else .nil) else (bif Nat.beq n 209 then e209 else .nil))) else (bif Nat.ble n 230 then (bif Nat.ble n 211 then (bif Nat.beq n 211 then e211 else .nil) else (bif Nat.beq n 230 then e230 else .nil)) else (bif Nat.ble n 232 then (bif Nat.beq n 232 then e232 else .nil) else (bif Nat.ble n 235 then (bif Nat.beq n 235 then e235 else .nil) else (bif Nat.beq n 254 then e254 else .nil)))))))
def lk {α:Type _}:List (Nat×α)→Nat→Option α
 | [],_=>none
 |(k,v)::r,n=>bif Nat.beq n k then some v else lk r n
def li (a:Nat):Nat→List Nat
 |0=> []
 |n+1=>a::li (a+1) n
def at2 (l:List (Nat×List (Nat×List Md))) (r i:Nat):List Md:=match lk l r with
 |none=> []
 |some z=>match lk z i with
  |none=> []
  |some m=>m
noncomputable def cx (nt:Nat) (con:List (Nat×Con)) (site:List (Nat×List (Nat×List Md))) (lp jn:List (Nat×Ann)):Ctx:=⟨nt,TT,EE,lk con,at2 site,lk lp,lk jn⟩
def i184:List Grp:= [⟨.c,(.cons (.sl e254) .nil),[]⟩,⟨.c,(.cons (.int .i64) .nil),[]⟩]
def o184:List Grp:= [⟨.c,(.cons (.int .i64) .nil),[]⟩]
noncomputable def F184:((List D254×Unit)×((Int×Unit)×Unit))→Option (((Int×Unit)×Unit)):=fun x0=>bif iLt (iSub .i64 x0.2.1.1 (List.length x0.1.1:Int)) (0:Int) then some (((-1:Int),()),()) else some ((iSub .i64 x0.2.1.1 (List.length x0.1.1:Int),()),())
noncomputable def c184:Con:=⟨i184,o184,F184⟩
def i109:List Grp:= [⟨.agg,e170,[]⟩,⟨.c,(.cons (.int .i64) .nil),[]⟩]
def o109:List Grp:= [⟨.c,(.cons (.int .i64) .nil),[]⟩]
noncomputable def F109:(D170×((Int×Unit)×Unit))→Option (((Int×Unit)×Unit)):=fun x0=>bif iLt (iSub .i64 x0.2.1.1 (ByteArray.size x0.1.1:Int)) (0:Int) then some (((-1:Int),()),()) else (F184 ((x0.1.2.2.2.2.1,()),((iSub .i64 x0.2.1.1 (ByteArray.size x0.1.1:Int),()),()))).bind fun y1=>bif iLt y1.1.1 (0:Int) then some (((-1:Int),()),()) else some (y1.1,())
noncomputable def c109:Con:=⟨i109,o109,F109⟩
def i61:List Grp:= [⟨.c,(.cons (.sl e170) .nil),[]⟩,⟨.c,(.cons (.int .i64) .nil),[]⟩]
def o61:List Grp:= [⟨.c,(.cons (.int .i64) .nil),[]⟩]
noncomputable def F61.b0 (x0:((List D170×Unit)×((Int×Unit)×Unit))):(v1:(Int×(Int×Unit)))→Option (Sum (Int×(Int×Unit)) (Sum (Int×(Int×Unit)) (((Int×Unit)×Unit)))):=fun v1=>bif iLt v1.2.1 (List.length x0.1.1:Int) then (getI x0.1.1 v1.2.1).bind fun x2=>(F109 (x2,((v1.1,()),()))).bind fun y3=>bif iLt y3.1.1 (0:Int) then some (.inr (.inr (((-1:Int),()),()))) else some (.inl (y3.1.1,(iAdd .i64 v1.2.1 (1:Int),()))) else some (.inr (.inl (v1.1,(v1.2.1,()))))
noncomputable def F61:((List D170×Unit)×((Int×Unit)×Unit))→Option (((Int×Unit)×Unit)):=fun x0=>bif iLt (iSub .i64 x0.2.1.1 (List.length x0.1.1:Int)) (0:Int) then some (((-1:Int),()),()) else (loopF (F61.b0 x0) (iSub .i64 x0.2.1.1 (List.length x0.1.1:Int),((0:Int),()))).bind fun r5=>Sum.elim (fun v4=>some ((v4.1,()),())) some r5
noncomputable def c61:Con:=⟨i61,o61,F61⟩
def i19:List Grp:= [⟨.agg,e24,[]⟩,⟨.c,(.cons (.int .i64) .nil),[]⟩]
def o19:List Grp:= [⟨.c,(.cons (.int .i64) .nil),[]⟩]
noncomputable def F19:(D24×((Int×Unit)×Unit))→Option (((Int×Unit)×Unit)):=fun x0=>(F61 ((x0.1.2.1,()),(x0.2.1,()))).bind fun y1=>bif iLt y1.1.1 (0:Int) then some (((-1:Int),()),()) else some (y1.1,())
noncomputable def c19:Con:=⟨i19,o19,F19⟩
def i20:List Grp:= [⟨.c,(.cons (.sl e9) .nil),[]⟩,⟨.c,(.cons (.int .i64) .nil),[]⟩]
def o20:List Grp:= [⟨.c,(.cons (.int .i64) .nil),[]⟩]
noncomputable def F20.b0 (x0:((List D9×Unit)×((Int×Unit)×Unit))):(v1:(Int×(Int×Unit)))→Option (Sum (Int×(Int×Unit)) (Sum (Int×(Int×Unit)) (((Int×Unit)×Unit)))):=fun v1=>bif iLt v1.2.1 (List.length x0.1.1:Int) then (getI x0.1.1 v1.2.1).bind fun x2=>bif iLt (iSub .i64 v1.1 (ByteArray.size x2.1:Int)) (0:Int) then some (.inr (.inr (((-1:Int),()),()))) else some (.inl (iSub .i64 v1.1 (ByteArray.size x2.1:Int),(iAdd .i64 v1.2.1 (1:Int),()))) else some (.inr (.inl (v1.1,(v1.2.1,()))))
noncomputable def F20:((List D9×Unit)×((Int×Unit)×Unit))→Option (((Int×Unit)×Unit)):=fun x0=>bif iLt (iSub .i64 x0.2.1.1 (List.length x0.1.1:Int)) (0:Int) then some (((-1:Int),()),()) else (loopF (F20.b0 x0) (iSub .i64 x0.2.1.1 (List.length x0.1.1:Int),((0:Int),()))).bind fun r4=>Sum.elim (fun v3=>some ((v3.1,()),())) some r4
noncomputable def c20:Con:=⟨i20,o20,F20⟩
def i185:List Grp:= [⟨.agg,e230,[]⟩,⟨.c,(.cons (.int .i64) .nil),[]⟩]
def o185:List Grp:= [⟨.c,(.cons (.int .i64) .nil),[]⟩]
noncomputable def F185:(D230×((Int×Unit)×Unit))→Option (((Int×Unit)×Unit)):=fun x0=>bif iLt (iSub .i64 x0.2.1.1 (ByteArray.size x0.1.1:Int)) (0:Int) then some (((-1:Int),()),()) else some ((iSub .i64 x0.2.1.1 (ByteArray.size x0.1.1:Int),()),())
noncomputable def c185:Con:=⟨i185,o185,F185⟩
def i110:List Grp:= [⟨.c,(.cons (.sl e230) .nil),[]⟩,⟨.c,(.cons (.int .i64) .nil),[]⟩]
def o110:List Grp:= [⟨.c,(.cons (.int .i64) .nil),[]⟩]
noncomputable def F110.b0 (x0:((List D230×Unit)×((Int×Unit)×Unit))):(v1:(Int×(Int×Unit)))→Option (Sum (Int×(Int×Unit)) (Sum (Int×(Int×Unit)) (((Int×Unit)×Unit)))):=fun v1=>bif iLt v1.2.1 (List.length x0.1.1:Int) then (getI x0.1.1 v1.2.1).bind fun x2=>(F185 (x2,((v1.1,()),()))).bind fun y3=>bif iLt y3.1.1 (0:Int) then some (.inr (.inr (((-1:Int),()),()))) else some (.inl (y3.1.1,(iAdd .i64 v1.2.1 (1:Int),()))) else some (.inr (.inl (v1.1,(v1.2.1,()))))
noncomputable def F110:((List D230×Unit)×((Int×Unit)×Unit))→Option (((Int×Unit)×Unit)):=fun x0=>bif iLt (iSub .i64 x0.2.1.1 (List.length x0.1.1:Int)) (0:Int) then some (((-1:Int),()),()) else (loopF (F110.b0 x0) (iSub .i64 x0.2.1.1 (List.length x0.1.1:Int),((0:Int),()))).bind fun r5=>Sum.elim (fun v4=>some ((v4.1,()),())) some r5
noncomputable def c110:Con:=⟨i110,o110,F110⟩
def i111:List Grp:= [⟨.agg,e98,[]⟩,⟨.c,(.cons (.int .i64) .nil),[]⟩]
def o111:List Grp:= [⟨.c,(.cons (.int .i64) .nil),[]⟩]
noncomputable def F111:(D98×((Int×Unit)×Unit))→Option (((Int×Unit)×Unit)):=fun x0=>(F20 ((x0.1.2.2.1,()),(x0.2.1,()))).bind fun y1=>bif iLt y1.1.1 (0:Int) then some (((-1:Int),()),()) else some (y1.1,())
noncomputable def c111:Con:=⟨i111,o111,F111⟩
def i115:List Grp:= [⟨.c,(.cons (.sl e3) .nil),[]⟩,⟨.c,(.cons (.int .i64) .nil),[]⟩]
def o115:List Grp:= [⟨.c,(.cons (.int .i64) .nil),[]⟩]
noncomputable def F115:((List D3×Unit)×((Int×Unit)×Unit))→Option (((Int×Unit)×Unit)):=fun x0=>bif iLt (iSub .i64 x0.2.1.1 (List.length x0.1.1:Int)) (0:Int) then some (((-1:Int),()),()) else some ((iSub .i64 x0.2.1.1 (List.length x0.1.1:Int),()),())
noncomputable def c115:Con:=⟨i115,o115,F115⟩
def i112:List Grp:= [⟨.agg,e99,[]⟩,⟨.c,(.cons (.int .i64) .nil),[]⟩]
def o112:List Grp:= [⟨.c,(.cons (.int .i64) .nil),[]⟩]
noncomputable def F112:(D99×((Int×Unit)×Unit))→Option (((Int×Unit)×Unit)):=fun x0=>(F20 ((x0.1.2.1,()),(x0.2.1,()))).bind fun y1=>bif iLt y1.1.1 (0:Int) then some (((-1:Int),()),()) else (F115 ((x0.1.2.2.1,()),(y1.1,()))).bind fun y2=>bif iLt y2.1.1 (0:Int) then some (((-1:Int),()),()) else some (y2.1,())
noncomputable def c112:Con:=⟨i112,o112,F112⟩
def i186:List Grp:= [⟨.agg,e232,[]⟩,⟨.c,(.cons (.int .i64) .nil),[]⟩]
def o186:List Grp:= [⟨.c,(.cons (.int .i64) .nil),[]⟩]
noncomputable def F186:(D232×((Int×Unit)×Unit))→Option (((Int×Unit)×Unit)):=fun x0=>bif iLt (iSub .i64 x0.2.1.1 (ByteArray.size x0.1.2.1:Int)) (0:Int) then some (((-1:Int),()),()) else bif iLt (iSub .i64 (iSub .i64 x0.2.1.1 (ByteArray.size x0.1.2.1:Int)) (ByteArray.size x0.1.2.2.1:Int)) (0:Int) then some (((-1:Int),()),()) else some ((iSub .i64 (iSub .i64 x0.2.1.1 (ByteArray.size x0.1.2.1:Int)) (ByteArray.size x0.1.2.2.1:Int),()),())
noncomputable def c186:Con:=⟨i186,o186,F186⟩
def i116:List Grp:= [⟨.c,(.cons (.sl e232) .nil),[]⟩,⟨.c,(.cons (.int .i64) .nil),[]⟩]
def o116:List Grp:= [⟨.c,(.cons (.int .i64) .nil),[]⟩]
noncomputable def F116.b0 (x0:((List D232×Unit)×((Int×Unit)×Unit))):(v1:(Int×(Int×Unit)))→Option (Sum (Int×(Int×Unit)) (Sum (Int×(Int×Unit)) (((Int×Unit)×Unit)))):=fun v1=>bif iLt v1.2.1 (List.length x0.1.1:Int) then (getI x0.1.1 v1.2.1).bind fun x2=>(F186 (x2,((v1.1,()),()))).bind fun y3=>bif iLt y3.1.1 (0:Int) then some (.inr (.inr (((-1:Int),()),()))) else some (.inl (y3.1.1,(iAdd .i64 v1.2.1 (1:Int),()))) else some (.inr (.inl (v1.1,(v1.2.1,()))))
noncomputable def F116:((List D232×Unit)×((Int×Unit)×Unit))→Option (((Int×Unit)×Unit)):=fun x0=>bif iLt (iSub .i64 x0.2.1.1 (List.length x0.1.1:Int)) (0:Int) then some (((-1:Int),()),()) else (loopF (F116.b0 x0) (iSub .i64 x0.2.1.1 (List.length x0.1.1:Int),((0:Int),()))).bind fun r5=>Sum.elim (fun v4=>some ((v4.1,()),())) some r5
noncomputable def c116:Con:=⟨i116,o116,F116⟩
def i63:List Grp:= [⟨.agg,e108,[]⟩,⟨.c,(.cons (.int .i64) .nil),[]⟩]
def o63:List Grp:= [⟨.c,(.cons (.int .i64) .nil),[]⟩]
noncomputable def F63:(D108×((Int×Unit)×Unit))→Option (((Int×Unit)×Unit)):=fun x0=>bif iLt (iSub .i64 x0.2.1.1 (ByteArray.size x0.1.2.2.2.1:Int)) (0:Int) then some (((-1:Int),()),()) else (F111 ((x0.1.2.2.2.2.1,(x0.1.2.2.2.2.2.1,(x0.1.2.2.2.2.2.2.1,()))),((iSub .i64 x0.2.1.1 (ByteArray.size x0.1.2.2.2.1:Int),()),()))).bind fun y1=>bif iLt y1.1.1 (0:Int) then some (((-1:Int),()),()) else (F112 ((x0.1.2.2.2.2.2.2.2.1,(x0.1.2.2.2.2.2.2.2.2.1,(x0.1.2.2.2.2.2.2.2.2.2.1,()))),(y1.1,()))).bind fun y2=>bif iLt y2.1.1 (0:Int) then some (((-1:Int),()),()) else (F116 ((x0.1.2.2.2.2.2.2.2.2.2.2.1,()),(y2.1,()))).bind fun y3=>bif iLt y3.1.1 (0:Int) then some (((-1:Int),()),()) else (F110 ((x0.1.2.2.2.2.2.2.2.2.2.2.2.2.1,()),(y3.1,()))).bind fun y4=>bif iLt y4.1.1 (0:Int) then some (((-1:Int),()),()) else bif iLt (iSub .i64 y4.1.1 (ByteArray.size x0.1.2.2.2.2.2.2.2.2.2.2.2.2.2.1:Int)) (0:Int) then some (((-1:Int),()),()) else some ((iSub .i64 y4.1.1 (ByteArray.size x0.1.2.2.2.2.2.2.2.2.2.2.2.2.2.1:Int),()),())
noncomputable def c63:Con:=⟨i63,o63,F63⟩
def i22:List Grp:= [⟨.c,(.cons (.sl e108) .nil),[]⟩,⟨.c,(.cons (.int .i64) .nil),[]⟩]
def o22:List Grp:= [⟨.c,(.cons (.int .i64) .nil),[]⟩]
noncomputable def F22.b0 (x0:((List D108×Unit)×((Int×Unit)×Unit))):(v1:(Int×(Int×Unit)))→Option (Sum (Int×(Int×Unit)) (Sum (Int×(Int×Unit)) (((Int×Unit)×Unit)))):=fun v1=>bif iLt v1.2.1 (List.length x0.1.1:Int) then (getI x0.1.1 v1.2.1).bind fun x2=>(F63 (x2,((v1.1,()),()))).bind fun y3=>bif iLt y3.1.1 (0:Int) then some (.inr (.inr (((-1:Int),()),()))) else some (.inl (y3.1.1,(iAdd .i64 v1.2.1 (1:Int),()))) else some (.inr (.inl (v1.1,(v1.2.1,()))))
noncomputable def F22:((List D108×Unit)×((Int×Unit)×Unit))→Option (((Int×Unit)×Unit)):=fun x0=>bif iLt (iSub .i64 x0.2.1.1 (List.length x0.1.1:Int)) (0:Int) then some (((-1:Int),()),()) else (loopF (F22.b0 x0) (iSub .i64 x0.2.1.1 (List.length x0.1.1:Int),((0:Int),()))).bind fun r5=>Sum.elim (fun v4=>some ((v4.1,()),())) some r5
noncomputable def c22:Con:=⟨i22,o22,F22⟩
def i118:List Grp:= [⟨.agg,e114,[]⟩,⟨.c,(.cons (.int .i64) .nil),[]⟩]
def o118:List Grp:= [⟨.c,(.cons (.int .i64) .nil),[]⟩]
noncomputable def F118:(D114×((Int×Unit)×Unit))→Option (((Int×Unit)×Unit)):=fun x0=>bif iLt (iSub .i64 x0.2.1.1 (ByteArray.size x0.1.2.2.1:Int)) (0:Int) then some (((-1:Int),()),()) else some ((iSub .i64 x0.2.1.1 (ByteArray.size x0.1.2.2.1:Int),()),())
noncomputable def c118:Con:=⟨i118,o118,F118⟩
def i113:List Grp:= [⟨.c,(.cons (.sl e114) .nil),[]⟩,⟨.c,(.cons (.int .i64) .nil),[]⟩]
def o113:List Grp:= [⟨.c,(.cons (.int .i64) .nil),[]⟩]
noncomputable def F113.b0 (x0:((List D114×Unit)×((Int×Unit)×Unit))):(v1:(Int×(Int×Unit)))→Option (Sum (Int×(Int×Unit)) (Sum (Int×(Int×Unit)) (((Int×Unit)×Unit)))):=fun v1=>bif iLt v1.2.1 (List.length x0.1.1:Int) then (getI x0.1.1 v1.2.1).bind fun x2=>(F118 (x2,((v1.1,()),()))).bind fun y3=>bif iLt y3.1.1 (0:Int) then some (.inr (.inr (((-1:Int),()),()))) else some (.inl (y3.1.1,(iAdd .i64 v1.2.1 (1:Int),()))) else some (.inr (.inl (v1.1,(v1.2.1,()))))
noncomputable def F113:((List D114×Unit)×((Int×Unit)×Unit))→Option (((Int×Unit)×Unit)):=fun x0=>bif iLt (iSub .i64 x0.2.1.1 (List.length x0.1.1:Int)) (0:Int) then some (((-1:Int),()),()) else (loopF (F113.b0 x0) (iSub .i64 x0.2.1.1 (List.length x0.1.1:Int),((0:Int),()))).bind fun r5=>Sum.elim (fun v4=>some ((v4.1,()),())) some r5
noncomputable def c113:Con:=⟨i113,o113,F113⟩
def i119:List Grp:= [⟨.agg,e114,[]⟩,⟨.c,(.cons (.int .i64) .nil),[]⟩]
def o119:List Grp:= [⟨.c,(.cons (.int .i64) .nil),[]⟩]
noncomputable def F119:(D114×((Int×Unit)×Unit))→Option (((Int×Unit)×Unit)):=fun x0=>bif iLt (iSub .i64 x0.2.1.1 (ByteArray.size x0.1.2.2.1:Int)) (0:Int) then some (((-1:Int),()),()) else some ((iSub .i64 x0.2.1.1 (ByteArray.size x0.1.2.2.1:Int),()),())
noncomputable def c119:Con:=⟨i119,o119,F119⟩
def i114:List Grp:= [⟨.c,(.cons (.sl e116) .nil),[]⟩,⟨.c,(.cons (.int .i64) .nil),[]⟩]
def o114:List Grp:= [⟨.c,(.cons (.int .i64) .nil),[]⟩]
noncomputable def F114.b0 (x0:((List D116×Unit)×((Int×Unit)×Unit))):(v1:(Int×(Int×Unit)))→Option (Sum (Int×(Int×Unit)) (Sum (Int×(Int×Unit)) (((Int×Unit)×Unit)))):=fun v1=>bif iLt v1.2.1 (List.length x0.1.1:Int) then (getI x0.1.1 v1.2.1).bind fun x2=>(F119 (x2,((v1.1,()),()))).bind fun y3=>bif iLt y3.1.1 (0:Int) then some (.inr (.inr (((-1:Int),()),()))) else some (.inl (y3.1.1,(iAdd .i64 v1.2.1 (1:Int),()))) else some (.inr (.inl (v1.1,(v1.2.1,()))))
noncomputable def F114:((List D116×Unit)×((Int×Unit)×Unit))→Option (((Int×Unit)×Unit)):=fun x0=>bif iLt (iSub .i64 x0.2.1.1 (List.length x0.1.1:Int)) (0:Int) then some (((-1:Int),()),()) else (loopF (F114.b0 x0) (iSub .i64 x0.2.1.1 (List.length x0.1.1:Int),((0:Int),()))).bind fun r5=>Sum.elim (fun v4=>some ((v4.1,()),())) some r5
noncomputable def c114:Con:=⟨i114,o114,F114⟩
def i187:List Grp:= [⟨.agg,e235,[]⟩,⟨.c,(.cons (.int .i64) .nil),[]⟩]
def o187:List Grp:= [⟨.c,(.cons (.int .i64) .nil),[]⟩]
noncomputable def F187:(D235×((Int×Unit)×Unit))→Option (((Int×Unit)×Unit)):=fun x0=>(F22 ((x0.1.2.1,()),(x0.2.1,()))).bind fun y1=>bif iLt y1.1.1 (0:Int) then some (((-1:Int),()),()) else (F111 ((x0.1.2.2.1,(x0.1.2.2.2.1,(x0.1.2.2.2.2.1,()))),(y1.1,()))).bind fun y2=>bif iLt y2.1.1 (0:Int) then some (((-1:Int),()),()) else some (y2.1,())
noncomputable def c187:Con:=⟨i187,o187,F187⟩
def i117:List Grp:= [⟨.c,(.cons (.sl e235) .nil),[]⟩,⟨.c,(.cons (.int .i64) .nil),[]⟩]
def o117:List Grp:= [⟨.c,(.cons (.int .i64) .nil),[]⟩]
noncomputable def F117.b0 (x0:((List D235×Unit)×((Int×Unit)×Unit))):(v1:(Int×(Int×Unit)))→Option (Sum (Int×(Int×Unit)) (Sum (Int×(Int×Unit)) (((Int×Unit)×Unit)))):=fun v1=>bif iLt v1.2.1 (List.length x0.1.1:Int) then (getI x0.1.1 v1.2.1).bind fun x2=>(F187 (x2,((v1.1,()),()))).bind fun y3=>bif iLt y3.1.1 (0:Int) then some (.inr (.inr (((-1:Int),()),()))) else some (.inl (y3.1.1,(iAdd .i64 v1.2.1 (1:Int),()))) else some (.inr (.inl (v1.1,(v1.2.1,()))))
noncomputable def F117:((List D235×Unit)×((Int×Unit)×Unit))→Option (((Int×Unit)×Unit)):=fun x0=>bif iLt (iSub .i64 x0.2.1.1 (List.length x0.1.1:Int)) (0:Int) then some (((-1:Int),()),()) else (loopF (F117.b0 x0) (iSub .i64 x0.2.1.1 (List.length x0.1.1:Int),((0:Int),()))).bind fun r5=>Sum.elim (fun v4=>some ((v4.1,()),())) some r5
noncomputable def c117:Con:=⟨i117,o117,F117⟩
def i62:List Grp:= [⟨.agg,e105,[]⟩,⟨.c,(.cons (.int .i64) .nil),[]⟩]
def o62:List Grp:= [⟨.c,(.cons (.int .i64) .nil),[]⟩]
noncomputable def F62:(D105×((Int×Unit)×Unit))→Option (((Int×Unit)×Unit)):=fun x0=>bif iLt (iSub .i64 x0.2.1.1 (ByteArray.size x0.1.1:Int)) (0:Int) then some (((-1:Int),()),()) else (F19 ((x0.1.2.2.1,(x0.1.2.2.2.1,())),((iSub .i64 x0.2.1.1 (ByteArray.size x0.1.1:Int),()),()))).bind fun y1=>bif iLt y1.1.1 (0:Int) then some (((-1:Int),()),()) else (F110 ((x0.1.2.2.2.2.1,()),(y1.1,()))).bind fun y2=>bif iLt y2.1.1 (0:Int) then some (((-1:Int),()),()) else (F22 ((x0.1.2.2.2.2.2.1,()),(y2.1,()))).bind fun y3=>bif iLt y3.1.1 (0:Int) then some (((-1:Int),()),()) else (F111 ((x0.1.2.2.2.2.2.2.2.2.1,(x0.1.2.2.2.2.2.2.2.2.2.1,(x0.1.2.2.2.2.2.2.2.2.2.2.1,()))),(y3.1,()))).bind fun y4=>bif iLt y4.1.1 (0:Int) then some (((-1:Int),()),()) else (F112 ((x0.1.2.2.2.2.2.2.2.2.2.2.2.1,(x0.1.2.2.2.2.2.2.2.2.2.2.2.2.1,(x0.1.2.2.2.2.2.2.2.2.2.2.2.2.2.1,()))),(y4.1,()))).bind fun y5=>bif iLt y5.1.1 (0:Int) then some (((-1:Int),()),()) else (F113 ((x0.1.2.2.2.2.2.2.2.2.2.2.2.2.2.2.2.1,()),(y5.1,()))).bind fun y6=>bif iLt y6.1.1 (0:Int) then some (((-1:Int),()),()) else (F114 ((x0.1.2.2.2.2.2.2.2.2.2.2.2.2.2.2.2.2.1,()),(y6.1,()))).bind fun y7=>bif iLt y7.1.1 (0:Int) then some (((-1:Int),()),()) else (F115 ((x0.1.2.2.2.2.2.2.2.2.2.2.2.2.2.2.2.2.2.1,()),(y7.1,()))).bind fun y8=>bif iLt y8.1.1 (0:Int) then some (((-1:Int),()),()) else (F116 ((x0.1.2.2.2.2.2.2.2.2.2.2.2.2.2.2.2.2.2.2.1,()),(y8.1,()))).bind fun y9=>bif iLt y9.1.1 (0:Int) then some (((-1:Int),()),()) else (F117 ((x0.1.2.2.2.2.2.2.2.2.2.2.2.2.2.2.2.2.2.2.2.1,()),(y9.1,()))).bind fun y10=>bif iLt y10.1.1 (0:Int) then some (((-1:Int),()),()) else some (y10.1,())
noncomputable def c62:Con:=⟨i62,o62,F62⟩
def i21:List Grp:= [⟨.c,(.cons (.sl e105) .nil),[]⟩,⟨.c,(.cons (.int .i64) .nil),[]⟩]
def o21:List Grp:= [⟨.c,(.cons (.int .i64) .nil),[]⟩]
noncomputable def F21.b0 (x0:((List D105×Unit)×((Int×Unit)×Unit))):(v1:(Int×(Int×Unit)))→Option (Sum (Int×(Int×Unit)) (Sum (Int×(Int×Unit)) (((Int×Unit)×Unit)))):=fun v1=>bif iLt v1.2.1 (List.length x0.1.1:Int) then (getI x0.1.1 v1.2.1).bind fun x2=>(F62 (x2,((v1.1,()),()))).bind fun y3=>bif iLt y3.1.1 (0:Int) then some (.inr (.inr (((-1:Int),()),()))) else some (.inl (y3.1.1,(iAdd .i64 v1.2.1 (1:Int),()))) else some (.inr (.inl (v1.1,(v1.2.1,()))))
noncomputable def F21:((List D105×Unit)×((Int×Unit)×Unit))→Option (((Int×Unit)×Unit)):=fun x0=>bif iLt (iSub .i64 x0.2.1.1 (List.length x0.1.1:Int)) (0:Int) then some (((-1:Int),()),()) else (loopF (F21.b0 x0) (iSub .i64 x0.2.1.1 (List.length x0.1.1:Int),((0:Int),()))).bind fun r5=>Sum.elim (fun v4=>some ((v4.1,()),())) some r5
noncomputable def c21:Con:=⟨i21,o21,F21⟩
def i64:List Grp:= [⟨.agg,e111,[]⟩,⟨.c,(.cons (.int .i64) .nil),[]⟩]
def o64:List Grp:= [⟨.c,(.cons (.int .i64) .nil),[]⟩]
noncomputable def F64:(D111×((Int×Unit)×Unit))→Option (((Int×Unit)×Unit)):=fun x0=>bif iLt (iSub .i64 x0.2.1.1 (ByteArray.size x0.1.2.2.2.2.1:Int)) (0:Int) then some (((-1:Int),()),()) else some ((iSub .i64 x0.2.1.1 (ByteArray.size x0.1.2.2.2.2.1:Int),()),())
noncomputable def c64:Con:=⟨i64,o64,F64⟩
def i23:List Grp:= [⟨.c,(.cons (.sl e111) .nil),[]⟩,⟨.c,(.cons (.int .i64) .nil),[]⟩]
def o23:List Grp:= [⟨.c,(.cons (.int .i64) .nil),[]⟩]
noncomputable def F23.b0 (x0:((List D111×Unit)×((Int×Unit)×Unit))):(v1:(Int×(Int×Unit)))→Option (Sum (Int×(Int×Unit)) (Sum (Int×(Int×Unit)) (((Int×Unit)×Unit)))):=fun v1=>bif iLt v1.2.1 (List.length x0.1.1:Int) then (getI x0.1.1 v1.2.1).bind fun x2=>(F64 (x2,((v1.1,()),()))).bind fun y3=>bif iLt y3.1.1 (0:Int) then some (.inr (.inr (((-1:Int),()),()))) else some (.inl (y3.1.1,(iAdd .i64 v1.2.1 (1:Int),()))) else some (.inr (.inl (v1.1,(v1.2.1,()))))
noncomputable def F23:((List D111×Unit)×((Int×Unit)×Unit))→Option (((Int×Unit)×Unit)):=fun x0=>bif iLt (iSub .i64 x0.2.1.1 (List.length x0.1.1:Int)) (0:Int) then some (((-1:Int),()),()) else (loopF (F23.b0 x0) (iSub .i64 x0.2.1.1 (List.length x0.1.1:Int),((0:Int),()))).bind fun r5=>Sum.elim (fun v4=>some ((v4.1,()),())) some r5
noncomputable def c23:Con:=⟨i23,o23,F23⟩
def i65:List Grp:= [⟨.agg,e118,[]⟩,⟨.c,(.cons (.int .i64) .nil),[]⟩]
def o65:List Grp:= [⟨.c,(.cons (.int .i64) .nil),[]⟩]
noncomputable def F65:(D118×((Int×Unit)×Unit))→Option (((Int×Unit)×Unit)):=fun x0=>bif iLt (iSub .i64 x0.2.1.1 (ByteArray.size x0.1.2.1:Int)) (0:Int) then some (((-1:Int),()),()) else (F22 ((x0.1.2.2.2.1,()),((iSub .i64 x0.2.1.1 (ByteArray.size x0.1.2.1:Int),()),()))).bind fun y1=>bif iLt y1.1.1 (0:Int) then some (((-1:Int),()),()) else (F118 ((x0.1.2.2.2.2.1,(x0.1.2.2.2.2.2.1,(x0.1.2.2.2.2.2.2.1,()))),(y1.1,()))).bind fun y2=>bif iLt y2.1.1 (0:Int) then some (((-1:Int),()),()) else (F119 ((x0.1.2.2.2.2.2.2.2.1,(x0.1.2.2.2.2.2.2.2.2.1,(x0.1.2.2.2.2.2.2.2.2.2.1,()))),(y2.1,()))).bind fun y3=>bif iLt y3.1.1 (0:Int) then some (((-1:Int),()),()) else (F111 ((x0.1.2.2.2.2.2.2.2.2.2.2.1,(x0.1.2.2.2.2.2.2.2.2.2.2.2.1,(x0.1.2.2.2.2.2.2.2.2.2.2.2.2.1,()))),(y3.1,()))).bind fun y4=>bif iLt y4.1.1 (0:Int) then some (((-1:Int),()),()) else (F112 ((x0.1.2.2.2.2.2.2.2.2.2.2.2.2.2.1,(x0.1.2.2.2.2.2.2.2.2.2.2.2.2.2.2.1,(x0.1.2.2.2.2.2.2.2.2.2.2.2.2.2.2.2.1,()))),(y4.1,()))).bind fun y5=>bif iLt y5.1.1 (0:Int) then some (((-1:Int),()),()) else some (y5.1,())
noncomputable def c65:Con:=⟨i65,o65,F65⟩
def i24:List Grp:= [⟨.c,(.cons (.sl e118) .nil),[]⟩,⟨.c,(.cons (.int .i64) .nil),[]⟩]
def o24:List Grp:= [⟨.c,(.cons (.int .i64) .nil),[]⟩]
noncomputable def F24.b0 (x0:((List D118×Unit)×((Int×Unit)×Unit))):(v1:(Int×(Int×Unit)))→Option (Sum (Int×(Int×Unit)) (Sum (Int×(Int×Unit)) (((Int×Unit)×Unit)))):=fun v1=>bif iLt v1.2.1 (List.length x0.1.1:Int) then (getI x0.1.1 v1.2.1).bind fun x2=>(F65 (x2,((v1.1,()),()))).bind fun y3=>bif iLt y3.1.1 (0:Int) then some (.inr (.inr (((-1:Int),()),()))) else some (.inl (y3.1.1,(iAdd .i64 v1.2.1 (1:Int),()))) else some (.inr (.inl (v1.1,(v1.2.1,()))))
noncomputable def F24:((List D118×Unit)×((Int×Unit)×Unit))→Option (((Int×Unit)×Unit)):=fun x0=>bif iLt (iSub .i64 x0.2.1.1 (List.length x0.1.1:Int)) (0:Int) then some (((-1:Int),()),()) else (loopF (F24.b0 x0) (iSub .i64 x0.2.1.1 (List.length x0.1.1:Int),((0:Int),()))).bind fun r5=>Sum.elim (fun v4=>some ((v4.1,()),())) some r5
noncomputable def c24:Con:=⟨i24,o24,F24⟩
def i5:List Grp:= [⟨.agg,e31,[]⟩,⟨.c,(.cons (.int .i64) .nil),[]⟩]
def o5:List Grp:= [⟨.c,(.cons (.int .i64) .nil),[]⟩]
noncomputable def F5:(D31×((Int×Unit)×Unit))→Option (((Int×Unit)×Unit)):=fun x0=>(F19 ((x0.1.1,(x0.1.2.1,())),(x0.2.1,()))).bind fun y1=>bif iLt y1.1.1 (0:Int) then some (((-1:Int),()),()) else (F20 ((x0.1.2.2.1,()),(y1.1,()))).bind fun y2=>bif iLt y2.1.1 (0:Int) then some (((-1:Int),()),()) else (F21 ((x0.1.2.2.2.1,()),(y2.1,()))).bind fun y3=>bif iLt y3.1.1 (0:Int) then some (((-1:Int),()),()) else (F22 ((x0.1.2.2.2.2.1,()),(y3.1,()))).bind fun y4=>bif iLt y4.1.1 (0:Int) then some (((-1:Int),()),()) else (F23 ((x0.1.2.2.2.2.2.1,()),(y4.1,()))).bind fun y5=>bif iLt y5.1.1 (0:Int) then some (((-1:Int),()),()) else (F24 ((x0.1.2.2.2.2.2.2.1,()),(y5.1,()))).bind fun y6=>bif iLt y6.1.1 (0:Int) then some (((-1:Int),()),()) else some (y6.1,())
noncomputable def c5:Con:=⟨i5,o5,F5⟩
def i223:List Grp:= [⟨.agg,e254,[]⟩]
def o223:List Grp:= [⟨.agg,e254,[]⟩]
noncomputable def F223:(D254×Unit)→Option ((D254×Unit)):=fun x0=>some (x0.1,())
noncomputable def c223:Con:=⟨i223,o223,F223⟩
def i192:List Grp:= [⟨.c,(.cons (.sl e254) .nil),[]⟩]
def o192:List Grp:= [⟨.c,(.cons (.sl e129) .nil),[(.own [])]⟩]
noncomputable def F192.b0 (x0:((List D254×Unit)×Unit)):(v1:(Int×(List (D129)×Unit)))→Option (Sum (Int×(List (D129)×Unit)) (Sum (Int×(List (D129)×Unit)) (((List D129×Unit)×Unit)))):=fun v1=>bif iLt v1.1 (List.length x0.1.1:Int) then (getI x0.1.1 v1.1).bind fun x2=>(F223 (x2,())).bind fun y3=>(getI v1.2.1 v1.1).bind fun _=>(getN v1.2.1 (Int.toNat v1.1)).bind fun x4=>(some (List.set v1.2.1 (Int.toNat v1.1) (y3.1.1,(y3.1.2.1,())))).bind fun z5=>some (.inl (iAdd .i64 v1.1 (1:Int),(z5,()))) else some (.inr (.inl (v1.1,(v1.2.1,()))))
noncomputable def F192:((List D254×Unit)×Unit)→Option (((List D129×Unit)×Unit)):=fun x0=>bif mkOk (List.length x0.1.1:Int) (List.length x0.1.1:Int) 16 then (loopF (F192.b0 x0) ((0:Int),(List.replicate (Int.toNat (List.length x0.1.1:Int)) ((0:Int),((0:Int),())),()))).bind fun r7=>Sum.elim (fun v6=>some ((v6.2.1,()),())) some r7 else none
noncomputable def c192:Con:=⟨i192,o192,F192⟩
def i124:List Grp:= [⟨.agg,e170,[]⟩]
def o124:List Grp:= [⟨.agg,e127,m0⟩]
noncomputable def F124:(D170×Unit)→Option ((D127×Unit)):=fun x0=>(F192 ((x0.1.2.2.2.2.1,()),())).bind fun y1=>some ((x0.1.1,(x0.1.2.1,(x0.1.2.2.1,(x0.1.2.2.2.1,(y1.1.1,()))))),())
noncomputable def c124:Con:=⟨i124,o124,F124⟩
def i69:List Grp:= [⟨.c,(.cons (.sl e170) .nil),[]⟩]
def o69:List Grp:= [⟨.c,(.cons (.sl e127) .nil),[(.own m0)]⟩]
noncomputable def F69.b0 (x0:((List D170×Unit)×Unit)):(v1:(Int×(List (D127)×Unit)))→Option (Sum (Int×(List (D127)×Unit)) (Sum (Int×(List (D127)×Unit)) (((List D127×Unit)×Unit)))):=fun v1=>bif iLt v1.1 (List.length x0.1.1:Int) then (getI x0.1.1 v1.1).bind fun x2=>(F124 (x2,())).bind fun y3=>(getI v1.2.1 v1.1).bind fun _=>(getN v1.2.1 (Int.toNat v1.1)).bind fun x4=>(some (List.set v1.2.1 (Int.toNat v1.1) (y3.1.1,(y3.1.2.1,(y3.1.2.2.1,(y3.1.2.2.2.1,(y3.1.2.2.2.2.1,()))))))).bind fun z5=>some (.inl (iAdd .i64 v1.1 (1:Int),(z5,()))) else some (.inr (.inl (v1.1,(v1.2.1,()))))
noncomputable def F69:((List D170×Unit)×Unit)→Option (((List D127×Unit)×Unit)):=fun x0=>bif mkOk (List.length x0.1.1:Int) (List.length x0.1.1:Int) 64 then (loopF (F69.b0 x0) ((0:Int),(List.replicate (Int.toNat (List.length x0.1.1:Int)) (⟨#[]⟩,((0:Int),((0:Int),((0:Int),([],()))))),()))).bind fun r7=>Sum.elim (fun v6=>some ((v6.2.1,()),())) some r7 else none
noncomputable def c69:Con:=⟨i69,o69,F69⟩
def i29:List Grp:= [⟨.agg,e24,[]⟩]
def o29:List Grp:= [⟨.agg,e36,[.sh,(.own m0)]⟩]
noncomputable def F29:(D24×Unit)→Option ((D36×Unit)):=fun x0=>(F69 ((x0.1.2.1,()),())).bind fun y1=>some ((x0.1.1,(y1.1.1,())),())
noncomputable def c29:Con:=⟨i29,o29,F29⟩
def i30:List Grp:= [⟨.c,(.cons (.sl e9) .nil),[]⟩]
def o30:List Grp:= [⟨.c,(.cons (.sl e9) .nil),[(.own [])]⟩]
noncomputable def F30.b0 (x0:((List D9×Unit)×Unit)):(v1:(Int×(List (D9)×Unit)))→Option (Sum (Int×(List (D9)×Unit)) (Sum (Int×(List (D9)×Unit)) (((List D9×Unit)×Unit)))):=fun v1=>bif iLt v1.1 (List.length x0.1.1:Int) then (getI x0.1.1 v1.1).bind fun x2=>(getI v1.2.1 v1.1).bind fun _=>(getN v1.2.1 (Int.toNat v1.1)).bind fun x3=>(some (List.set v1.2.1 (Int.toNat v1.1) (x2.1,()))).bind fun z4=>some (.inl (iAdd .i64 v1.1 (1:Int),(z4,()))) else some (.inr (.inl (v1.1,(v1.2.1,()))))
noncomputable def F30:((List D9×Unit)×Unit)→Option (((List D9×Unit)×Unit)):=fun x0=>bif mkOk (List.length x0.1.1:Int) (List.length x0.1.1:Int) 16 then (loopF (F30.b0 x0) ((0:Int),(List.replicate (Int.toNat (List.length x0.1.1:Int)) (⟨#[]⟩,()),()))).bind fun r6=>Sum.elim (fun v5=>some ((v5.2.1,()),())) some r6 else none
noncomputable def c30:Con:=⟨i30,o30,F30⟩
def i193:List Grp:= [⟨.agg,e230,[]⟩]
def o193:List Grp:= [⟨.agg,e230,[]⟩]
noncomputable def F193:(D230×Unit)→Option ((D230×Unit)):=fun x0=>some (x0.1,())
noncomputable def c193:Con:=⟨i193,o193,F193⟩
def i125:List Grp:= [⟨.c,(.cons (.sl e230) .nil),[]⟩]
def o125:List Grp:= [⟨.c,(.cons (.sl e209) .nil),[(.own [])]⟩]
noncomputable def F125.b0 (x0:((List D230×Unit)×Unit)):(v1:(Int×(List (D209)×Unit)))→Option (Sum (Int×(List (D209)×Unit)) (Sum (Int×(List (D209)×Unit)) (((List D209×Unit)×Unit)))):=fun v1=>bif iLt v1.1 (List.length x0.1.1:Int) then (getI x0.1.1 v1.1).bind fun x2=>(F193 (x2,())).bind fun y3=>(getI v1.2.1 v1.1).bind fun _=>(getN v1.2.1 (Int.toNat v1.1)).bind fun x4=>(some (List.set v1.2.1 (Int.toNat v1.1) (y3.1.1,(y3.1.2.1,())))).bind fun z5=>some (.inl (iAdd .i64 v1.1 (1:Int),(z5,()))) else some (.inr (.inl (v1.1,(v1.2.1,()))))
noncomputable def F125:((List D230×Unit)×Unit)→Option (((List D209×Unit)×Unit)):=fun x0=>bif mkOk (List.length x0.1.1:Int) (List.length x0.1.1:Int) 24 then (loopF (F125.b0 x0) ((0:Int),(List.replicate (Int.toNat (List.length x0.1.1:Int)) (⟨#[]⟩,((0:Int),())),()))).bind fun r7=>Sum.elim (fun v6=>some ((v6.2.1,()),())) some r7 else none
noncomputable def c125:Con:=⟨i125,o125,F125⟩
def i126:List Grp:= [⟨.agg,e98,[]⟩]
def o126:List Grp:= [⟨.agg,e98,[.sh,.sh,(.own [])]⟩]
noncomputable def F126:(D98×Unit)→Option ((D98×Unit)):=fun x0=>(F30 ((x0.1.2.2.1,()),())).bind fun y1=>some ((x0.1.1,(x0.1.2.1,(y1.1.1,()))),())
noncomputable def c126:Con:=⟨i126,o126,F126⟩
def i8:List Grp:= [⟨.c,(.cons (.sl e3) .nil),[]⟩]
def o8:List Grp:= [⟨.c,(.cons (.sl e3) .nil),[(.own [])]⟩]
noncomputable def F8.b0 (x0:((List D3×Unit)×Unit)):(v1:(Int×(List (D3)×Unit)))→Option (Sum (Int×(List (D3)×Unit)) (Sum (Int×(List (D3)×Unit)) (((List D3×Unit)×Unit)))):=fun v1=>bif iLt v1.1 (List.length x0.1.1:Int) then (getI x0.1.1 v1.1).bind fun x2=>(getI v1.2.1 v1.1).bind fun _=>(getN v1.2.1 (Int.toNat v1.1)).bind fun x3=>(some (List.set v1.2.1 (Int.toNat v1.1) (x2.1,()))).bind fun z4=>some (.inl (iAdd .i64 v1.1 (1:Int),(z4,()))) else some (.inr (.inl (v1.1,(v1.2.1,()))))
noncomputable def F8:((List D3×Unit)×Unit)→Option (((List D3×Unit)×Unit)):=fun x0=>bif mkOk (List.length x0.1.1:Int) (List.length x0.1.1:Int) 8 then (loopF (F8.b0 x0) ((0:Int),(List.replicate (Int.toNat (List.length x0.1.1:Int)) ((0:Int),()),()))).bind fun r6=>Sum.elim (fun v5=>some ((v5.2.1,()),())) some r6 else none
noncomputable def c8:Con:=⟨i8,o8,F8⟩
def i127:List Grp:= [⟨.agg,e99,[]⟩]
def o127:List Grp:= [⟨.agg,e99,m1⟩]
noncomputable def F127:(D99×Unit)→Option ((D99×Unit)):=fun x0=>(F30 ((x0.1.2.1,()),())).bind fun y1=>(F8 ((x0.1.2.2.1,()),())).bind fun y2=>some ((x0.1.1,(y1.1.1,(y2.1.1,()))),())
noncomputable def c127:Con:=⟨i127,o127,F127⟩
def i194:List Grp:= [⟨.agg,e232,[]⟩]
def o194:List Grp:= [⟨.agg,e232,[]⟩]
noncomputable def F194:(D232×Unit)→Option ((D232×Unit)):=fun x0=>some (x0.1,())
noncomputable def c194:Con:=⟨i194,o194,F194⟩
def i130:List Grp:= [⟨.c,(.cons (.sl e232) .nil),[]⟩]
def o130:List Grp:= [⟨.c,(.cons (.sl e122) .nil),[(.own [])]⟩]
noncomputable def F130.b0 (x0:((List D232×Unit)×Unit)):(v1:(Int×(List (D122)×Unit)))→Option (Sum (Int×(List (D122)×Unit)) (Sum (Int×(List (D122)×Unit)) (((List D122×Unit)×Unit)))):=fun v1=>bif iLt v1.1 (List.length x0.1.1:Int) then (getI x0.1.1 v1.1).bind fun x2=>(F194 (x2,())).bind fun y3=>(getI v1.2.1 v1.1).bind fun _=>(getN v1.2.1 (Int.toNat v1.1)).bind fun x4=>(some (List.set v1.2.1 (Int.toNat v1.1) (y3.1.1,(y3.1.2.1,(y3.1.2.2.1,(y3.1.2.2.2.1,(y3.1.2.2.2.2.1,()))))))).bind fun z5=>some (.inl (iAdd .i64 v1.1 (1:Int),(z5,()))) else some (.inr (.inl (v1.1,(v1.2.1,()))))
noncomputable def F130:((List D232×Unit)×Unit)→Option (((List D122×Unit)×Unit)):=fun x0=>bif mkOk (List.length x0.1.1:Int) (List.length x0.1.1:Int) 56 then (loopF (F130.b0 x0) ((0:Int),(List.replicate (Int.toNat (List.length x0.1.1:Int)) ((0:Int),(⟨#[]⟩,(⟨#[]⟩,((0:Int),((0:Int),()))))),()))).bind fun r7=>Sum.elim (fun v6=>some ((v6.2.1,()),())) some r7 else none
noncomputable def c130:Con:=⟨i130,o130,F130⟩
def i71:List Grp:= [⟨.agg,e108,[]⟩]
def o71:List Grp:= [⟨.agg,e71,m2⟩]
noncomputable def F71:(D108×Unit)→Option ((D71×Unit)):=fun x0=>(F126 ((x0.1.2.2.2.2.1,(x0.1.2.2.2.2.2.1,(x0.1.2.2.2.2.2.2.1,()))),())).bind fun y1=>(F127 ((x0.1.2.2.2.2.2.2.2.1,(x0.1.2.2.2.2.2.2.2.2.1,(x0.1.2.2.2.2.2.2.2.2.2.1,()))),())).bind fun y2=>(F130 ((x0.1.2.2.2.2.2.2.2.2.2.2.1,()),())).bind fun y3=>(F125 ((x0.1.2.2.2.2.2.2.2.2.2.2.2.2.1,()),())).bind fun y4=>some ((x0.1.1,(x0.1.2.1,(x0.1.2.2.1,(x0.1.2.2.2.1,(y1.1.1,(y1.1.2.1,(y1.1.2.2.1,(y2.1.1,(y2.1.2.1,(y2.1.2.2.1,(y3.1.1,(x0.1.2.2.2.2.2.2.2.2.2.2.2.1,(y4.1.1,(x0.1.2.2.2.2.2.2.2.2.2.2.2.2.2.1,())))))))))))))),())
noncomputable def c71:Con:=⟨i71,o71,F71⟩
def i32:List Grp:= [⟨.c,(.cons (.sl e108) .nil),[]⟩]
def o32:List Grp:= [⟨.c,(.cons (.sl e71) .nil),[(.own m2)]⟩]
noncomputable def F32.b0 (x0:((List D108×Unit)×Unit)):(v1:(Int×(List (D71)×Unit)))→Option (Sum (Int×(List (D71)×Unit)) (Sum (Int×(List (D71)×Unit)) (((List D71×Unit)×Unit)))):=fun v1=>bif iLt v1.1 (List.length x0.1.1:Int) then (getI x0.1.1 v1.1).bind fun x2=>(F71 (x2,())).bind fun y3=>(getI v1.2.1 v1.1).bind fun _=>(getN v1.2.1 (Int.toNat v1.1)).bind fun x4=>(some (List.set v1.2.1 (Int.toNat v1.1) (y3.1.1,(y3.1.2.1,(y3.1.2.2.1,(y3.1.2.2.2.1,(y3.1.2.2.2.2.1,(y3.1.2.2.2.2.2.1,(y3.1.2.2.2.2.2.2.1,(y3.1.2.2.2.2.2.2.2.1,(y3.1.2.2.2.2.2.2.2.2.1,(y3.1.2.2.2.2.2.2.2.2.2.1,(y3.1.2.2.2.2.2.2.2.2.2.2.1,(y3.1.2.2.2.2.2.2.2.2.2.2.2.1,(y3.1.2.2.2.2.2.2.2.2.2.2.2.2.1,(y3.1.2.2.2.2.2.2.2.2.2.2.2.2.2.1,())))))))))))))))).bind fun z5=>some (.inl (iAdd .i64 v1.1 (1:Int),(z5,()))) else some (.inr (.inl (v1.1,(v1.2.1,()))))
noncomputable def F32:((List D108×Unit)×Unit)→Option (((List D71×Unit)×Unit)):=fun x0=>bif mkOk (List.length x0.1.1:Int) (List.length x0.1.1:Int) 208 then (loopF (F32.b0 x0) ((0:Int),(List.replicate (Int.toNat (List.length x0.1.1:Int)) ((0:Int),((0:Int),((0:Int),(⟨#[]⟩,((0:Int),((0:Int),([],((0:Int),([],([],([],(false,([],(⟨#[]⟩,())))))))))))))),()))).bind fun r7=>Sum.elim (fun v6=>some ((v6.2.1,()),())) some r7 else none
noncomputable def c32:Con:=⟨i32,o32,F32⟩
def i132:List Grp:= [⟨.agg,e114,[]⟩]
def o132:List Grp:= [⟨.agg,e114,[]⟩]
noncomputable def F132:(D114×Unit)→Option ((D114×Unit)):=fun x0=>some (x0.1,())
noncomputable def c132:Con:=⟨i132,o132,F132⟩
def i128:List Grp:= [⟨.c,(.cons (.sl e114) .nil),[]⟩]
def o128:List Grp:= [⟨.c,(.cons (.sl e140) .nil),[(.own [])]⟩]
noncomputable def F128.b0 (x0:((List D114×Unit)×Unit)):(v1:(Int×(List (D140)×Unit)))→Option (Sum (Int×(List (D140)×Unit)) (Sum (Int×(List (D140)×Unit)) (((List D140×Unit)×Unit)))):=fun v1=>bif iLt v1.1 (List.length x0.1.1:Int) then (getI x0.1.1 v1.1).bind fun x2=>(F132 (x2,())).bind fun y3=>(getI v1.2.1 v1.1).bind fun _=>(getN v1.2.1 (Int.toNat v1.1)).bind fun x4=>(some (List.set v1.2.1 (Int.toNat v1.1) (y3.1.1,(y3.1.2.1,(y3.1.2.2.1,()))))).bind fun z5=>some (.inl (iAdd .i64 v1.1 (1:Int),(z5,()))) else some (.inr (.inl (v1.1,(v1.2.1,()))))
noncomputable def F128:((List D114×Unit)×Unit)→Option (((List D140×Unit)×Unit)):=fun x0=>bif mkOk (List.length x0.1.1:Int) (List.length x0.1.1:Int) 32 then (loopF (F128.b0 x0) ((0:Int),(List.replicate (Int.toNat (List.length x0.1.1:Int)) ((0:Int),((0:Int),(⟨#[]⟩,()))),()))).bind fun r7=>Sum.elim (fun v6=>some ((v6.2.1,()),())) some r7 else none
noncomputable def c128:Con:=⟨i128,o128,F128⟩
def i133:List Grp:= [⟨.agg,e114,[]⟩]
def o133:List Grp:= [⟨.agg,e114,[]⟩]
noncomputable def F133:(D114×Unit)→Option ((D114×Unit)):=fun x0=>some (x0.1,())
noncomputable def c133:Con:=⟨i133,o133,F133⟩
def i129:List Grp:= [⟨.c,(.cons (.sl e116) .nil),[]⟩]
def o129:List Grp:= [⟨.c,(.cons (.sl e141) .nil),[(.own [])]⟩]
noncomputable def F129.b0 (x0:((List D116×Unit)×Unit)):(v1:(Int×(List (D141)×Unit)))→Option (Sum (Int×(List (D141)×Unit)) (Sum (Int×(List (D141)×Unit)) (((List D141×Unit)×Unit)))):=fun v1=>bif iLt v1.1 (List.length x0.1.1:Int) then (getI x0.1.1 v1.1).bind fun x2=>(F133 (x2,())).bind fun y3=>(getI v1.2.1 v1.1).bind fun _=>(getN v1.2.1 (Int.toNat v1.1)).bind fun x4=>(some (List.set v1.2.1 (Int.toNat v1.1) (y3.1.1,(y3.1.2.1,(y3.1.2.2.1,()))))).bind fun z5=>some (.inl (iAdd .i64 v1.1 (1:Int),(z5,()))) else some (.inr (.inl (v1.1,(v1.2.1,()))))
noncomputable def F129:((List D116×Unit)×Unit)→Option (((List D141×Unit)×Unit)):=fun x0=>bif mkOk (List.length x0.1.1:Int) (List.length x0.1.1:Int) 32 then (loopF (F129.b0 x0) ((0:Int),(List.replicate (Int.toNat (List.length x0.1.1:Int)) ((0:Int),((0:Int),(⟨#[]⟩,()))),()))).bind fun r7=>Sum.elim (fun v6=>some ((v6.2.1,()),())) some r7 else none
noncomputable def c129:Con:=⟨i129,o129,F129⟩
def i195:List Grp:= [⟨.agg,e235,[]⟩]
def o195:List Grp:= [⟨.agg,e211,m3⟩]
noncomputable def F195:(D235×Unit)→Option ((D211×Unit)):=fun x0=>(F32 ((x0.1.2.1,()),())).bind fun y1=>(F126 ((x0.1.2.2.1,(x0.1.2.2.2.1,(x0.1.2.2.2.2.1,()))),())).bind fun y2=>some ((x0.1.1,(y1.1.1,(y2.1.1,(y2.1.2.1,(y2.1.2.2.1,()))))),())
noncomputable def c195:Con:=⟨i195,o195,F195⟩
def i131:List Grp:= [⟨.c,(.cons (.sl e235) .nil),[]⟩]
def o131:List Grp:= [⟨.c,(.cons (.sl e211) .nil),[(.own m3)]⟩]
noncomputable def F131.b0 (x0:((List D235×Unit)×Unit)):(v1:(Int×(List (D211)×Unit)))→Option (Sum (Int×(List (D211)×Unit)) (Sum (Int×(List (D211)×Unit)) (((List D211×Unit)×Unit)))):=fun v1=>bif iLt v1.1 (List.length x0.1.1:Int) then (getI x0.1.1 v1.1).bind fun x2=>(F195 (x2,())).bind fun y3=>(getI v1.2.1 v1.1).bind fun _=>(getN v1.2.1 (Int.toNat v1.1)).bind fun x4=>(some (List.set v1.2.1 (Int.toNat v1.1) (y3.1.1,(y3.1.2.1,(y3.1.2.2.1,(y3.1.2.2.2.1,(y3.1.2.2.2.2.1,()))))))).bind fun z5=>some (.inl (iAdd .i64 v1.1 (1:Int),(z5,()))) else some (.inr (.inl (v1.1,(v1.2.1,()))))
noncomputable def F131:((List D235×Unit)×Unit)→Option (((List D211×Unit)×Unit)):=fun x0=>bif mkOk (List.length x0.1.1:Int) (List.length x0.1.1:Int) 72 then (loopF (F131.b0 x0) ((0:Int),(List.replicate (Int.toNat (List.length x0.1.1:Int)) ((0:Int),([],((0:Int),((0:Int),([],()))))),()))).bind fun r7=>Sum.elim (fun v6=>some ((v6.2.1,()),())) some r7 else none
noncomputable def c131:Con:=⟨i131,o131,F131⟩
def i70:List Grp:= [⟨.agg,e105,[]⟩]
def o70:List Grp:= [⟨.agg,e135,m4⟩]
noncomputable def F70:(D105×Unit)→Option ((D135×Unit)):=fun x0=>(F29 ((x0.1.2.2.1,(x0.1.2.2.2.1,())),())).bind fun y1=>(F125 ((x0.1.2.2.2.2.1,()),())).bind fun y2=>(F32 ((x0.1.2.2.2.2.2.1,()),())).bind fun y3=>(F126 ((x0.1.2.2.2.2.2.2.2.2.1,(x0.1.2.2.2.2.2.2.2.2.2.1,(x0.1.2.2.2.2.2.2.2.2.2.2.1,()))),())).bind fun y4=>(F127 ((x0.1.2.2.2.2.2.2.2.2.2.2.2.1,(x0.1.2.2.2.2.2.2.2.2.2.2.2.2.1,(x0.1.2.2.2.2.2.2.2.2.2.2.2.2.2.1,()))),())).bind fun y5=>(F128 ((x0.1.2.2.2.2.2.2.2.2.2.2.2.2.2.2.2.1,()),())).bind fun y6=>(F129 ((x0.1.2.2.2.2.2.2.2.2.2.2.2.2.2.2.2.2.1,()),())).bind fun y7=>(F8 ((x0.1.2.2.2.2.2.2.2.2.2.2.2.2.2.2.2.2.2.1,()),())).bind fun y8=>(F130 ((x0.1.2.2.2.2.2.2.2.2.2.2.2.2.2.2.2.2.2.2.1,()),())).bind fun y9=>(F131 ((x0.1.2.2.2.2.2.2.2.2.2.2.2.2.2.2.2.2.2.2.2.1,()),())).bind fun y10=>some ((x0.1.1,(x0.1.2.1,(y1.1.1,(y1.1.2.1,(y2.1.1,(y3.1.1,(x0.1.2.2.2.2.2.2.1,(x0.1.2.2.2.2.2.2.2.1,(y4.1.1,(y4.1.2.1,(y4.1.2.2.1,(y5.1.1,(y5.1.2.1,(y5.1.2.2.1,(x0.1.2.2.2.2.2.2.2.2.2.2.2.2.2.2.1,(y6.1.1,(y7.1.1,(y8.1.1,(y9.1.1,(y10.1.1,())))))))))))))))))))),())
noncomputable def c70:Con:=⟨i70,o70,F70⟩
def i31:List Grp:= [⟨.c,(.cons (.sl e105) .nil),[]⟩]
def o31:List Grp:= [⟨.c,(.cons (.sl e135) .nil),[(.own m4)]⟩]
noncomputable def F31.b0 (x0:((List D105×Unit)×Unit)):(v1:(Int×(List (D135)×Unit)))→Option (Sum (Int×(List (D135)×Unit)) (Sum (Int×(List (D135)×Unit)) (((List D135×Unit)×Unit)))):=fun v1=>bif iLt v1.1 (List.length x0.1.1:Int) then (getI x0.1.1 v1.1).bind fun x2=>(F70 (x2,())).bind fun y3=>(getI v1.2.1 v1.1).bind fun _=>(getN v1.2.1 (Int.toNat v1.1)).bind fun x4=>(some (List.set v1.2.1 (Int.toNat v1.1) (y3.1.1,(y3.1.2.1,(y3.1.2.2.1,(y3.1.2.2.2.1,(y3.1.2.2.2.2.1,(y3.1.2.2.2.2.2.1,(y3.1.2.2.2.2.2.2.1,(y3.1.2.2.2.2.2.2.2.1,(y3.1.2.2.2.2.2.2.2.2.1,(y3.1.2.2.2.2.2.2.2.2.2.1,(y3.1.2.2.2.2.2.2.2.2.2.2.1,(y3.1.2.2.2.2.2.2.2.2.2.2.2.1,(y3.1.2.2.2.2.2.2.2.2.2.2.2.2.1,(y3.1.2.2.2.2.2.2.2.2.2.2.2.2.2.1,(y3.1.2.2.2.2.2.2.2.2.2.2.2.2.2.2.1,(y3.1.2.2.2.2.2.2.2.2.2.2.2.2.2.2.2.1,(y3.1.2.2.2.2.2.2.2.2.2.2.2.2.2.2.2.2.1,(y3.1.2.2.2.2.2.2.2.2.2.2.2.2.2.2.2.2.2.1,(y3.1.2.2.2.2.2.2.2.2.2.2.2.2.2.2.2.2.2.2.1,(y3.1.2.2.2.2.2.2.2.2.2.2.2.2.2.2.2.2.2.2.2.1,())))))))))))))))))))))).bind fun z5=>some (.inl (iAdd .i64 v1.1 (1:Int),(z5,()))) else some (.inr (.inl (v1.1,(v1.2.1,()))))
noncomputable def F31:((List D105×Unit)×Unit)→Option (((List D135×Unit)×Unit)):=fun x0=>bif mkOk (List.length x0.1.1:Int) (List.length x0.1.1:Int) 344 then (loopF (F31.b0 x0) ((0:Int),(List.replicate (Int.toNat (List.length x0.1.1:Int)) (⟨#[]⟩,((0:Int),((0:Int),([],([],([],((0:Int),((0:Int),((0:Int),((0:Int),([],((0:Int),([],([],((0:Int),([],([],([],([],([],())))))))))))))))))))),()))).bind fun r7=>Sum.elim (fun v6=>some ((v6.2.1,()),())) some r7 else none
noncomputable def c31:Con:=⟨i31,o31,F31⟩
def i72:List Grp:= [⟨.agg,e111,[]⟩]
def o72:List Grp:= [⟨.agg,e111,[]⟩]
noncomputable def F72:(D111×Unit)→Option ((D111×Unit)):=fun x0=>some (x0.1,())
noncomputable def c72:Con:=⟨i72,o72,F72⟩
def i33:List Grp:= [⟨.c,(.cons (.sl e111) .nil),[]⟩]
def o33:List Grp:= [⟨.c,(.cons (.sl e138) .nil),[(.own [])]⟩]
noncomputable def F33.b0 (x0:((List D111×Unit)×Unit)):(v1:(Int×(List (D138)×Unit)))→Option (Sum (Int×(List (D138)×Unit)) (Sum (Int×(List (D138)×Unit)) (((List D138×Unit)×Unit)))):=fun v1=>bif iLt v1.1 (List.length x0.1.1:Int) then (getI x0.1.1 v1.1).bind fun x2=>(F72 (x2,())).bind fun y3=>(getI v1.2.1 v1.1).bind fun _=>(getN v1.2.1 (Int.toNat v1.1)).bind fun x4=>(some (List.set v1.2.1 (Int.toNat v1.1) (y3.1.1,(y3.1.2.1,(y3.1.2.2.1,(y3.1.2.2.2.1,(y3.1.2.2.2.2.1,()))))))).bind fun z5=>some (.inl (iAdd .i64 v1.1 (1:Int),(z5,()))) else some (.inr (.inl (v1.1,(v1.2.1,()))))
noncomputable def F33:((List D111×Unit)×Unit)→Option (((List D138×Unit)×Unit)):=fun x0=>bif mkOk (List.length x0.1.1:Int) (List.length x0.1.1:Int) 48 then (loopF (F33.b0 x0) ((0:Int),(List.replicate (Int.toNat (List.length x0.1.1:Int)) ((0:Int),((0:Int),((0:Int),((0:Int),(⟨#[]⟩,()))))),()))).bind fun r7=>Sum.elim (fun v6=>some ((v6.2.1,()),())) some r7 else none
noncomputable def c33:Con:=⟨i33,o33,F33⟩
def i73:List Grp:= [⟨.agg,e118,[]⟩]
def o73:List Grp:= [⟨.agg,e143,m5⟩]
noncomputable def F73:(D118×Unit)→Option ((D143×Unit)):=fun x0=>(F32 ((x0.1.2.2.2.1,()),())).bind fun y1=>(F132 ((x0.1.2.2.2.2.1,(x0.1.2.2.2.2.2.1,(x0.1.2.2.2.2.2.2.1,()))),())).bind fun y2=>(F133 ((x0.1.2.2.2.2.2.2.2.1,(x0.1.2.2.2.2.2.2.2.2.1,(x0.1.2.2.2.2.2.2.2.2.2.1,()))),())).bind fun y3=>(F126 ((x0.1.2.2.2.2.2.2.2.2.2.2.1,(x0.1.2.2.2.2.2.2.2.2.2.2.2.1,(x0.1.2.2.2.2.2.2.2.2.2.2.2.2.1,()))),())).bind fun y4=>(F127 ((x0.1.2.2.2.2.2.2.2.2.2.2.2.2.2.1,(x0.1.2.2.2.2.2.2.2.2.2.2.2.2.2.2.1,(x0.1.2.2.2.2.2.2.2.2.2.2.2.2.2.2.2.1,()))),())).bind fun y5=>some ((x0.1.1,(x0.1.2.1,(x0.1.2.2.1,(y1.1.1,(y2.1.1,(y2.1.2.1,(y2.1.2.2.1,(y3.1.1,(y3.1.2.1,(y3.1.2.2.1,(y4.1.1,(y4.1.2.1,(y4.1.2.2.1,(y5.1.1,(y5.1.2.1,(y5.1.2.2.1,())))))))))))))))),())
noncomputable def c73:Con:=⟨i73,o73,F73⟩
def i34:List Grp:= [⟨.c,(.cons (.sl e118) .nil),[]⟩]
def o34:List Grp:= [⟨.c,(.cons (.sl e143) .nil),[(.own m5)]⟩]
noncomputable def F34.b0 (x0:((List D118×Unit)×Unit)):(v1:(Int×(List (D143)×Unit)))→Option (Sum (Int×(List (D143)×Unit)) (Sum (Int×(List (D143)×Unit)) (((List D143×Unit)×Unit)))):=fun v1=>bif iLt v1.1 (List.length x0.1.1:Int) then (getI x0.1.1 v1.1).bind fun x2=>(F73 (x2,())).bind fun y3=>(getI v1.2.1 v1.1).bind fun _=>(getN v1.2.1 (Int.toNat v1.1)).bind fun x4=>(some (List.set v1.2.1 (Int.toNat v1.1) (y3.1.1,(y3.1.2.1,(y3.1.2.2.1,(y3.1.2.2.2.1,(y3.1.2.2.2.2.1,(y3.1.2.2.2.2.2.1,(y3.1.2.2.2.2.2.2.1,(y3.1.2.2.2.2.2.2.2.1,(y3.1.2.2.2.2.2.2.2.2.1,(y3.1.2.2.2.2.2.2.2.2.2.1,(y3.1.2.2.2.2.2.2.2.2.2.2.1,(y3.1.2.2.2.2.2.2.2.2.2.2.2.1,(y3.1.2.2.2.2.2.2.2.2.2.2.2.2.1,(y3.1.2.2.2.2.2.2.2.2.2.2.2.2.2.1,(y3.1.2.2.2.2.2.2.2.2.2.2.2.2.2.2.1,(y3.1.2.2.2.2.2.2.2.2.2.2.2.2.2.2.2.1,())))))))))))))))))).bind fun z5=>some (.inl (iAdd .i64 v1.1 (1:Int),(z5,()))) else some (.inr (.inl (v1.1,(v1.2.1,()))))
noncomputable def F34:((List D118×Unit)×Unit)→Option (((List D143×Unit)×Unit)):=fun x0=>bif mkOk (List.length x0.1.1:Int) (List.length x0.1.1:Int) 216 then (loopF (F34.b0 x0) ((0:Int),(List.replicate (Int.toNat (List.length x0.1.1:Int)) ((0:Int),(⟨#[]⟩,((0:Int),([],((0:Int),((0:Int),(⟨#[]⟩,((0:Int),((0:Int),(⟨#[]⟩,((0:Int),((0:Int),([],((0:Int),([],([],())))))))))))))))),()))).bind fun r7=>Sum.elim (fun v6=>some ((v6.2.1,()),())) some r7 else none
noncomputable def c34:Con:=⟨i34,o34,F34⟩
def i7:List Grp:= [⟨.agg,e31,[]⟩]
def o7:List Grp:= [⟨.agg,e44,m6⟩]
noncomputable def F7:(D31×Unit)→Option ((D44×Unit)):=fun x0=>(F29 ((x0.1.1,(x0.1.2.1,())),())).bind fun y1=>(F30 ((x0.1.2.2.1,()),())).bind fun y2=>(F31 ((x0.1.2.2.2.1,()),())).bind fun y3=>(F32 ((x0.1.2.2.2.2.1,()),())).bind fun y4=>(F33 ((x0.1.2.2.2.2.2.1,()),())).bind fun y5=>(F34 ((x0.1.2.2.2.2.2.2.1,()),())).bind fun y6=>some ((y1.1.1,(y1.1.2.1,(y2.1.1,(y3.1.1,(y4.1.1,(y5.1.1,(y6.1.1,()))))))),())
noncomputable def c7:Con:=⟨i7,o7,F7⟩
def i26:List Grp:= [⟨.c,(.cons (.int .i64) .nil),[]⟩,⟨.c,(.cons (.int .i64) .nil),[]⟩,⟨.c,(.cons (.int .i64) .nil),[]⟩]
def o26:List Grp:= [⟨.c,(.cons .bool .nil),[]⟩]
noncomputable def F26:((Int×Unit)×((Int×Unit)×((Int×Unit)×Unit)))→Option (((Bool×Unit)×Unit)):=fun x0=>bif iLe x0.2.1.1 x0.1.1 then some ((iLe x0.1.1 x0.2.2.1.1,()),()) else some ((false,()),())
noncomputable def c26:Con:=⟨i26,o26,F26⟩
def i150:List Grp:= [⟨.c,(.cons .str .nil),[]⟩]
def o150:List Grp:= [⟨.c,(.cons .bool .nil),[]⟩]
noncomputable def F150.b0 (x0:((ByteArray×Unit)×Unit)):(v1:(Int×Unit))→Option (Sum (Int×Unit) (Sum (Int×Unit) (((Bool×Unit)×Unit)))):=fun v1=>bif iLt v1.1 (ByteArray.size x0.1.1:Int) then (getI (ByteArray.data x0.1.1).toList v1.1).bind fun b2=>(F26 ((IntKind.wrap .i64 (UInt8.toNat b2:Int),()),(((97:Int),()),(((122:Int),()),())))).bind fun y3=>bif (!y3.1.1) then (getI (ByteArray.data x0.1.1).toList v1.1).bind fun b4=>(F26 ((IntKind.wrap .i64 (UInt8.toNat b4:Int),()),(((48:Int),()),(((57:Int),()),())))).bind fun y5=>bif (!y5.1.1) then some (.inr (.inr ((false,()),()))) else some (.inl (iAdd .i64 v1.1 (1:Int),())) else some (.inl (iAdd .i64 v1.1 (1:Int),())) else some (.inr (.inl (v1.1,())))
noncomputable def F150:((ByteArray×Unit)×Unit)→Option (((Bool×Unit)×Unit)):=fun x0=>(loopF (F150.b0 x0) ((0:Int),())).bind fun r7=>Sum.elim (fun v6=>(F26 (((ByteArray.size x0.1.1:Int),()),(((1:Int),()),(((8:Int),()),())))).bind fun y8=>some (y8.1,())) some r7
noncomputable def c150:Con:=⟨i150,o150,F150⟩
def i190:List Grp:= [⟨.agg,e127,[]⟩]
def o190:List Grp:= [⟨.c,(.cons .bool .nil),[]⟩]
noncomputable def F190.b0 (x0:(D127×Unit)):(v5:(Int×Unit))→Option (Sum (Int×Unit) (Sum (Int×Unit) (((Bool×Unit)×Unit)))):=fun v5=>bif iLt v5.1 (List.length x0.1.2.2.2.2.1:Int) then (getI x0.1.2.2.2.2.1 v5.1).bind fun x6=>(F26 ((x6.1,()),(((1:Int),()),(((1000000:Int),()),())))).bind fun y7=>bif (!y7.1.1) then some (.inr (.inr ((false,()),()))) else (F26 ((x6.2.1,()),(((0:Int),()),(((1000:Int),()),())))).bind fun y8=>bif (!y8.1.1) then some (.inr (.inr ((false,()),()))) else bif iLt (0:Int) v5.1 then (getI x0.1.2.2.2.2.1 (iSub .i64 v5.1 (1:Int))).bind fun x9=>bif iLe x6.2.1 x9.2.1 then some (.inr (.inr ((false,()),()))) else some (.inl (iAdd .i64 v5.1 (1:Int),())) else some (.inl (iAdd .i64 v5.1 (1:Int),())) else some (.inr (.inl (v5.1,())))
noncomputable def F190:(D127×Unit)→Option (((Bool×Unit)×Unit)):=fun x0=>(F150 ((x0.1.1,()),())).bind fun y1=>bif (!y1.1.1) then some ((false,()),()) else (F26 ((x0.1.2.1,()),(((0:Int),()),(((1000000:Int),()),())))).bind fun y2=>bif (!y2.1.1) then some ((false,()),()) else (F26 ((x0.1.2.2.1,()),(((0:Int),()),(((10000:Int),()),())))).bind fun y3=>bif (!y3.1.1) then some ((false,()),()) else (F26 ((x0.1.2.2.2.1,()),(((0:Int),()),(((1000000:Int),()),())))).bind fun y4=>bif (!y4.1.1) then some ((false,()),()) else bif iLt (4:Int) (List.length x0.1.2.2.2.2.1:Int) then some ((false,()),()) else (loopF (F190.b0 x0) ((0:Int),())).bind fun r11=>Sum.elim (fun v10=>some ((true,()),())) some r11
noncomputable def c190:Con:=⟨i190,o190,F190⟩
def i222:List Grp:= [⟨.agg,e127,[]⟩]
def o222:List Grp:= [⟨.c,(.cons (.int .i64) .nil),[]⟩]
noncomputable def F222.b0 (x0:(D127×Unit)):(v1:(Int×(Int×Unit)))→Option (Sum (Int×(Int×Unit)) (Sum (Int×(Int×Unit)) (((Int×Unit)×Unit)))):=fun v1=>bif iLt v1.2.1 (List.length x0.1.2.2.2.2.1:Int) then (getI x0.1.2.2.2.2.1 v1.2.1).bind fun x2=>some (.inl (iAdd .i64 v1.1 x2.1,(iAdd .i64 v1.2.1 (1:Int),()))) else some (.inr (.inl (v1.1,(v1.2.1,()))))
noncomputable def F222:(D127×Unit)→Option (((Int×Unit)×Unit)):=fun x0=>(loopF (F222.b0 x0) (iAdd .i64 x0.1.2.1 x0.1.2.2.2.1,((0:Int),()))).bind fun r4=>Sum.elim (fun v3=>some ((v3.1,()),())) some r4
noncomputable def c222:Con:=⟨i222,o222,F222⟩
def i191:List Grp:= [⟨.c,(.cons (.sl e127) .nil),[]⟩]
def o191:List Grp:= [⟨.c,(.cons (.int .i64) .nil),[]⟩]
noncomputable def F191.b0 (x0:((List D127×Unit)×Unit)):(v1:(Int×(Int×Unit)))→Option (Sum (Int×(Int×Unit)) (Sum (Int×(Int×Unit)) (((Int×Unit)×Unit)))):=fun v1=>bif iLt v1.2.1 (List.length x0.1.1:Int) then (getI x0.1.1 v1.2.1).bind fun x2=>(F222 (x2,())).bind fun y3=>some (.inl (iAdd .i64 v1.1 y3.1.1,(iAdd .i64 v1.2.1 (1:Int),()))) else some (.inr (.inl (v1.1,(v1.2.1,()))))
noncomputable def F191:((List D127×Unit)×Unit)→Option (((Int×Unit)×Unit)):=fun x0=>(loopF (F191.b0 x0) ((0:Int),((0:Int),()))).bind fun r5=>Sum.elim (fun v4=>some ((v4.1,()),())) some r5
noncomputable def c191:Con:=⟨i191,o191,F191⟩
def i123:List Grp:= [⟨.c,(.cons (.sl e127) .nil),[]⟩]
def o123:List Grp:= [⟨.c,(.cons .bool .nil),[]⟩]
noncomputable def F123.b0 (x0:((List D127×Unit)×Unit)):(v1:(Int×Unit))→Option (Sum (Int×Unit) (Sum (Int×Unit) (((Bool×Unit)×Unit)))):=fun v1=>bif iLt v1.1 (List.length x0.1.1:Int) then (getI x0.1.1 v1.1).bind fun x2=>(F190 (x2,())).bind fun y3=>bif (!y3.1.1) then some (.inr (.inr ((false,()),()))) else bif iLt (0:Int) v1.1 then (getI x0.1.1 (iSub .i64 v1.1 (1:Int))).bind fun x4=>(getI x0.1.1 v1.1).bind fun x5=>bif !sLt x4.1 x5.1 then some (.inr (.inr ((false,()),()))) else some (.inl (iAdd .i64 v1.1 (1:Int),())) else some (.inl (iAdd .i64 v1.1 (1:Int),())) else some (.inr (.inl (v1.1,())))
noncomputable def F123:((List D127×Unit)×Unit)→Option (((Bool×Unit)×Unit)):=fun x0=>(loopF (F123.b0 x0) ((0:Int),())).bind fun r7=>Sum.elim (fun v6=>bif iLe (List.length x0.1.1:Int) (12:Int) then (F191 (x0.1,())).bind fun y8=>some ((iLe y8.1.1 (1000000:Int),()),()) else some ((false,()),())) some r7
noncomputable def c123:Con:=⟨i123,o123,F123⟩
def i68:List Grp:= [⟨.agg,e36,[]⟩]
def o68:List Grp:= [⟨.c,(.cons .bool .nil),[]⟩]
noncomputable def F68:(D36×Unit)→Option (((Bool×Unit)×Unit)):=fun x0=>(F26 ((x0.1.1,()),(((0:Int),()),(((900:Int),()),())))).bind fun y1=>bif y1.1.1 then (F123 ((x0.1.2.1,()),())).bind fun y2=>some (y2.1,()) else some ((false,()),())
noncomputable def c68:Con:=⟨i68,o68,F68⟩
def i90:List Grp:= [⟨.c,(.cons (.sl e9) .nil),[]⟩]
def o90:List Grp:= [⟨.c,(.cons .bool .nil),[]⟩]
noncomputable def F90.b0 (x0:((List D9×Unit)×Unit)):(v1:(Int×Unit))→Option (Sum (Int×Unit) (Sum (Int×Unit) (((Bool×Unit)×Unit)))):=fun v1=>bif iLt v1.1 (List.length x0.1.1:Int) then (getI x0.1.1 v1.1).bind fun x2=>(F150 (x2,())).bind fun y3=>bif (!y3.1.1) then some (.inr (.inr ((false,()),()))) else bif iLt (0:Int) v1.1 then (getI x0.1.1 (iSub .i64 v1.1 (1:Int))).bind fun x4=>(getI x0.1.1 v1.1).bind fun x5=>bif !sLt x4.1 x5.1 then some (.inr (.inr ((false,()),()))) else some (.inl (iAdd .i64 v1.1 (1:Int),())) else some (.inl (iAdd .i64 v1.1 (1:Int),())) else some (.inr (.inl (v1.1,())))
noncomputable def F90:((List D9×Unit)×Unit)→Option (((Bool×Unit)×Unit)):=fun x0=>(loopF (F90.b0 x0) ((0:Int),())).bind fun r7=>Sum.elim (fun v6=>some ((iLe (List.length x0.1.1:Int) (20:Int),()),())) some r7
noncomputable def c90:Con:=⟨i90,o90,F90⟩
def i155:List Grp:= [⟨.agg,e98,[]⟩]
def o155:List Grp:= [⟨.c,(.cons .bool .nil),[]⟩]
noncomputable def F155:(D98×Unit)→Option (((Bool×Unit)×Unit)):=fun x0=>bif iEq x0.1.1 (0:Int) then bif iEq x0.1.2.1 (-1:Int) then some ((iEq (List.length x0.1.2.2.1:Int) (0:Int),()),()) else some ((false,()),()) else some ((false,()),())
noncomputable def c155:Con:=⟨i155,o155,F155⟩
def i151:List Grp:= [⟨.agg,e71,[]⟩]
def o151:List Grp:= [⟨.c,(.cons .bool .nil),[]⟩]
noncomputable def F151:(D71×Unit)→Option (((Bool×Unit)×Unit)):=fun x0=>(F155 ((x0.1.2.2.2.2.1,(x0.1.2.2.2.2.2.1,(x0.1.2.2.2.2.2.2.1,()))),())).bind fun y1=>bif y1.1.1 then some ((true,()),()) else (F26 ((x0.1.2.2.2.2.1,()),(((1:Int),()),((iSub .i64 x0.1.2.2.1 (1:Int),()),())))).bind fun y2=>bif y2.1.1 then (F26 ((x0.1.2.2.2.2.2.1,()),(((0:Int),()),((iSub .i64 x0.1.1 (1:Int),()),())))).bind fun y3=>bif y3.1.1 then (F90 ((x0.1.2.2.2.2.2.2.1,()),())).bind fun y4=>some (y4.1,()) else some ((false,()),()) else some ((false,()),())
noncomputable def c151:Con:=⟨i151,o151,F151⟩
def i157:List Grp:= [⟨.agg,e99,[]⟩]
def o157:List Grp:= [⟨.c,(.cons .bool .nil),[]⟩]
noncomputable def F157:(D99×Unit)→Option (((Bool×Unit)×Unit)):=fun x0=>bif iEq x0.1.1 (0:Int) then bif iEq (List.length x0.1.2.1:Int) (0:Int) then some ((iEq (List.length x0.1.2.2.1:Int) (0:Int),()),()) else some ((false,()),()) else some ((false,()),())
noncomputable def c157:Con:=⟨i157,o157,F157⟩
def i152:List Grp:= [⟨.agg,e71,[]⟩]
def o152:List Grp:= [⟨.c,(.cons .bool .nil),[]⟩]
noncomputable def F152.b0 (x0:(D71×Unit)):(v4:(Int×Unit))→Option (Sum (Int×Unit) (Sum (Int×Unit) (((Bool×Unit)×Unit)))):=fun v4=>bif iLt v4.1 (List.length x0.1.2.2.2.2.2.2.2.2.2.1:Int) then (getI x0.1.2.2.2.2.2.2.2.2.2.1 v4.1).bind fun x5=>(F26 (x5,(((0:Int),()),((iSub .i64 x0.1.2.2.2.2.2.2.2.1 (1:Int),()),())))).bind fun y6=>bif (!y6.1.1) then some (.inr (.inr ((false,()),()))) else some (.inl (iAdd .i64 v4.1 (1:Int),())) else some (.inr (.inl (v4.1,())))
noncomputable def F152:(D71×Unit)→Option (((Bool×Unit)×Unit)):=fun x0=>(F157 ((x0.1.2.2.2.2.2.2.2.1,(x0.1.2.2.2.2.2.2.2.2.1,(x0.1.2.2.2.2.2.2.2.2.2.1,()))),())).bind fun y1=>bif y1.1.1 then some ((true,()),()) else (F26 ((x0.1.2.2.2.2.2.2.2.1,()),(((1:Int),()),((iSub .i64 x0.1.2.2.1 (1:Int),()),())))).bind fun y2=>bif (!y2.1.1) then some ((false,()),()) else (F90 ((x0.1.2.2.2.2.2.2.2.2.1,()),())).bind fun y3=>bif (!y3.1.1) then some ((false,()),()) else bif !iEq (List.length x0.1.2.2.2.2.2.2.2.2.2.1:Int) (List.length x0.1.2.2.2.2.2.2.2.2.1:Int) then some ((false,()),()) else (loopF (F152.b0 x0) ((0:Int),())).bind fun r8=>Sum.elim (fun v7=>some ((true,()),())) some r8
noncomputable def c152:Con:=⟨i152,o152,F152⟩
def i120:List Grp:= [⟨.agg,e232,[]⟩]
def o120:List Grp:= [⟨.c,(.cons .bool .nil),[]⟩]
noncomputable def F120:(D232×Unit)→Option (((Bool×Unit)×Unit)):=fun x0=>(F150 ((x0.1.2.1,()),())).bind fun y1=>bif (!y1.1.1) then some ((false,()),()) else (F26 ((x0.1.2.2.2.1,()),(((1:Int),()),(((1000000:Int),()),())))).bind fun y2=>bif (!y2.1.1) then some ((false,()),()) else (F26 ((x0.1.2.2.2.2.1,()),(((0:Int),()),(((10000:Int),()),())))).bind fun y3=>bif (!y3.1.1) then some ((false,()),()) else bif iEq x0.1.1 (1:Int) then (F150 ((x0.1.2.2.1,()),())).bind fun y4=>some (y4.1,()) else (F26 ((x0.1.1,()),(((2:Int),()),(((3:Int),()),())))).bind fun y5=>bif y5.1.1 then some ((sEq x0.1.2.2.1 ⟨#[]⟩,()),()) else some ((false,()),())
noncomputable def c120:Con:=⟨i120,o120,F120⟩
def i153:List Grp:= [⟨.c,(.cons (.sl e209) .nil),[]⟩]
def o153:List Grp:= [⟨.c,(.cons .bool .nil),[]⟩]
noncomputable def F153.b0 (x0:((List D209×Unit)×Unit)):(v1:(Int×Unit))→Option (Sum (Int×Unit) (Sum (Int×Unit) (((Bool×Unit)×Unit)))):=fun v1=>bif iLt v1.1 (List.length x0.1.1:Int) then (getI x0.1.1 v1.1).bind fun x2=>(F150 ((x2.1,()),())).bind fun y3=>bif (!y3.1.1) then some (.inr (.inr ((false,()),()))) else (getI x0.1.1 v1.1).bind fun x4=>(F26 ((x4.2.1,()),(((1:Int),()),(((1000000:Int),()),())))).bind fun y5=>bif (!y5.1.1) then some (.inr (.inr ((false,()),()))) else bif iLt (0:Int) v1.1 then (getI x0.1.1 (iSub .i64 v1.1 (1:Int))).bind fun x6=>(getI x0.1.1 v1.1).bind fun x7=>bif !sLt x6.1 x7.1 then some (.inr (.inr ((false,()),()))) else some (.inl (iAdd .i64 v1.1 (1:Int),())) else some (.inl (iAdd .i64 v1.1 (1:Int),())) else some (.inr (.inl (v1.1,())))
noncomputable def F153:((List D209×Unit)×Unit)→Option (((Bool×Unit)×Unit)):=fun x0=>(loopF (F153.b0 x0) ((0:Int),())).bind fun r9=>Sum.elim (fun v8=>(F26 (((List.length x0.1.1:Int),()),(((1:Int),()),(((12:Int),()),())))).bind fun y10=>some (y10.1,())) some r9
noncomputable def c153:Con:=⟨i153,o153,F153⟩
def i91:List Grp:= [⟨.agg,e71,[]⟩]
def o91:List Grp:= [⟨.c,(.cons .bool .nil),[]⟩]
noncomputable def F91.b0 (x0:(D71×Unit)):(v7:(Int×Unit))→Option (Sum (Int×Unit) (Sum (Int×Unit) (((Bool×Unit)×Unit)))):=fun v7=>bif iLt v7.1 (List.length x0.1.2.2.2.2.2.2.2.2.2.2.1:Int) then (getI x0.1.2.2.2.2.2.2.2.2.2.2.1 v7.1).bind fun x8=>(F120 (x8,())).bind fun y9=>bif (!y9.1.1) then some (.inr (.inr ((false,()),()))) else some (.inl (iAdd .i64 v7.1 (1:Int),())) else some (.inr (.inl (v7.1,())))
noncomputable def F91:(D71×Unit)→Option (((Bool×Unit)×Unit)):=fun x0=>(F26 ((x0.1.1,()),(((0:Int),()),(((100000:Int),()),())))).bind fun y1=>bif (!y1.1.1) then some ((false,()),()) else (F26 ((x0.1.2.1,()),(((0:Int),()),(((900:Int),()),())))).bind fun y2=>bif (!y2.1.1) then some ((false,()),()) else (F26 ((x0.1.2.2.1,()),(((1:Int),()),(((10000:Int),()),())))).bind fun y3=>bif (!y3.1.1) then some ((false,()),()) else (F150 ((x0.1.2.2.2.1,()),())).bind fun y4=>bif (!y4.1.1) then some ((false,()),()) else (F151 (x0.1,())).bind fun y5=>bif (!y5.1.1) then some ((false,()),()) else (F152 (x0.1,())).bind fun y6=>bif (!y6.1.1) then some ((false,()),()) else bif iLt (4:Int) (List.length x0.1.2.2.2.2.2.2.2.2.2.2.1:Int) then some ((false,()),()) else (loopF (F91.b0 x0) ((0:Int),())).bind fun r11=>Sum.elim (fun v10=>bif (!x0.1.2.2.2.2.2.2.2.2.2.2.2.1) then bif iEq (List.length x0.1.2.2.2.2.2.2.2.2.2.2.2.2.1:Int) (0:Int) then some ((sEq x0.1.2.2.2.2.2.2.2.2.2.2.2.2.2.1 ⟨#[]⟩,()),()) else some ((false,()),()) else (F153 ((x0.1.2.2.2.2.2.2.2.2.2.2.2.2.1,()),())).bind fun y12=>bif y12.1.1 then some ((iEq (ByteArray.size x0.1.2.2.2.2.2.2.2.2.2.2.2.2.2.1:Int) (32:Int),()),()) else some ((false,()),())) some r11
noncomputable def c91:Con:=⟨i91,o91,F91⟩
def i154:List Grp:= [⟨.agg,e143,[]⟩]
def o154:List Grp:= [⟨.c,(.cons .bool .nil),[]⟩]
noncomputable def F154.b0 (x0:(D143×Unit)):(v3:(Int×Unit))→Option (Sum (Int×Unit) (Sum (Int×Unit) (((Bool×Unit)×Unit)))):=fun v3=>bif iLt v3.1 (List.length x0.1.2.2.2.1:Int) then (getI x0.1.2.2.2.1 v3.1).bind fun x4=>(F91 (x4,())).bind fun y5=>bif (!y5.1.1) then some (.inr (.inr ((false,()),()))) else (getI x0.1.2.2.2.1 v3.1).bind fun x6=>bif !iEq x6.2.1 x0.1.2.2.1 then some (.inr (.inr ((false,()),()))) else some (.inl (iAdd .i64 v3.1 (1:Int),())) else some (.inr (.inl (v3.1,())))
noncomputable def F154:(D143×Unit)→Option (((Bool×Unit)×Unit)):=fun x0=>Option.bind (bif iEq x0.1.1 (1:Int) then some (.inl ((1:Int),())) else bif iEq x0.1.1 (4:Int) then some (.inl ((400:Int),())) else some (.inl ((0:Int),()))) fun r2=>Sum.elim (fun v1=>(loopF (F154.b0 x0) ((0:Int),())).bind fun r8=>Sum.elim (fun v7=>bif iLe (List.length x0.1.2.2.2.1:Int) v1.1 then bif !iEq x0.1.1 (1:Int) then some ((true,()),()) else some ((iEq (List.length x0.1.2.2.2.1:Int) (1:Int),()),()) else some ((false,()),())) some r8) some r2
noncomputable def c154:Con:=⟨i154,o154,F154⟩
def i158:List Grp:= [⟨.agg,e99,[]⟩]
def o158:List Grp:= [⟨.c,(.cons .bool .nil),[]⟩]
noncomputable def F158.b0 (x0:(D99×Unit)):(v4:(Int×Unit))→Option (Sum (Int×Unit) (Sum (Int×Unit) (((Bool×Unit)×Unit)))):=fun v4=>bif iLt v4.1 (List.length x0.1.2.2.1:Int) then (getI x0.1.2.2.1 v4.1).bind fun x5=>(F26 (x5,(((0:Int),()),((iSub .i64 x0.1.1 (1:Int),()),())))).bind fun y6=>bif (!y6.1.1) then some (.inr (.inr ((false,()),()))) else some (.inl (iAdd .i64 v4.1 (1:Int),())) else some (.inr (.inl (v4.1,())))
noncomputable def F158:(D99×Unit)→Option (((Bool×Unit)×Unit)):=fun x0=>(F157 (x0.1,())).bind fun y1=>bif y1.1.1 then some ((true,()),()) else (F26 ((x0.1.1,()),(((1:Int),()),(((10000:Int),()),())))).bind fun y2=>bif (!y2.1.1) then some ((false,()),()) else (F90 ((x0.1.2.1,()),())).bind fun y3=>bif (!y3.1.1) then some ((false,()),()) else bif !iEq (List.length x0.1.2.2.1:Int) (List.length x0.1.2.1:Int) then some ((false,()),()) else (loopF (F158.b0 x0) ((0:Int),())).bind fun r8=>Sum.elim (fun v7=>some ((true,()),())) some r8
noncomputable def c158:Con:=⟨i158,o158,F158⟩
def i156:List Grp:= [⟨.agg,e98,[]⟩]
def o156:List Grp:= [⟨.c,(.cons .bool .nil),[]⟩]
noncomputable def F156:(D98×Unit)→Option (((Bool×Unit)×Unit)):=fun x0=>(F155 (x0.1,())).bind fun y1=>bif y1.1.1 then some ((true,()),()) else (F26 ((x0.1.1,()),(((1:Int),()),(((10000:Int),()),())))).bind fun y2=>bif y2.1.1 then (F26 ((x0.1.2.1,()),(((0:Int),()),(((100000:Int),()),())))).bind fun y3=>bif y3.1.1 then (F90 ((x0.1.2.2.1,()),())).bind fun y4=>some (y4.1,()) else some ((false,()),()) else some ((false,()),())
noncomputable def c156:Con:=⟨i156,o156,F156⟩
def i92:List Grp:= [⟨.agg,e143,[]⟩]
def o92:List Grp:= [⟨.c,(.cons .bool .nil),[]⟩]
noncomputable def F92:(D143×Unit)→Option (((Bool×Unit)×Unit)):=fun x0=>(F150 ((x0.1.2.1,()),())).bind fun y1=>bif (!y1.1.1) then some ((false,()),()) else (F26 ((x0.1.2.2.1,()),(((0:Int),()),(((900:Int),()),())))).bind fun y2=>bif (!y2.1.1) then some ((false,()),()) else (F26 ((x0.1.1,()),(((1:Int),()),(((4:Int),()),())))).bind fun y3=>bif (!y3.1.1) then some ((false,()),()) else (F154 (x0.1,())).bind fun y4=>bif (!y4.1.1) then some ((false,()),()) else Option.bind (bif iEq x0.1.1 (2:Int) then (F26 ((x0.1.2.2.2.2.1,()),(((1:Int),()),(((10000:Int),()),())))).bind fun y5=>bif y5.1.1 then (F26 ((x0.1.2.2.2.2.2.1,()),(((0:Int),()),(((100000:Int),()),())))).bind fun y6=>bif y6.1.1 then (F150 ((x0.1.2.2.2.2.2.2.1,()),())).bind fun y7=>some (.inl (y7.1.1,((iEq x0.1.2.2.2.2.2.2.2.1 (0:Int))&&((iEq x0.1.2.2.2.2.2.2.2.2.1 (0:Int))&&(sEq x0.1.2.2.2.2.2.2.2.2.2.1 ⟨#[]⟩)),()))) else some (.inl (false,((iEq x0.1.2.2.2.2.2.2.2.1 (0:Int))&&((iEq x0.1.2.2.2.2.2.2.2.2.1 (0:Int))&&(sEq x0.1.2.2.2.2.2.2.2.2.2.1 ⟨#[]⟩)),()))) else some (.inl (false,((iEq x0.1.2.2.2.2.2.2.2.1 (0:Int))&&((iEq x0.1.2.2.2.2.2.2.2.2.1 (0:Int))&&(sEq x0.1.2.2.2.2.2.2.2.2.2.1 ⟨#[]⟩)),()))) else bif iEq x0.1.1 (3:Int) then (F26 ((x0.1.2.2.2.2.2.2.2.1,()),(((1:Int),()),(((10000:Int),()),())))).bind fun y8=>bif y8.1.1 then (F26 ((x0.1.2.2.2.2.2.2.2.2.1,()),(((0:Int),()),((iSub .i64 x0.1.2.2.2.2.2.2.2.1 (1:Int),()),())))).bind fun y9=>bif y9.1.1 then bif iEq x0.1.2.2.2.2.2.2.2.2.1 x0.1.2.2.2.2.2.2.2.2.2.2.1 then (F150 ((x0.1.2.2.2.2.2.2.2.2.2.1,()),())).bind fun y10=>some (.inl ((iEq x0.1.2.2.2.2.1 (0:Int))&&((iEq x0.1.2.2.2.2.2.1 (0:Int))&&(sEq x0.1.2.2.2.2.2.2.1 ⟨#[]⟩)),(y10.1.1,()))) else some (.inl ((iEq x0.1.2.2.2.2.1 (0:Int))&&((iEq x0.1.2.2.2.2.2.1 (0:Int))&&(sEq x0.1.2.2.2.2.2.2.1 ⟨#[]⟩)),(false,()))) else some (.inl ((iEq x0.1.2.2.2.2.1 (0:Int))&&((iEq x0.1.2.2.2.2.2.1 (0:Int))&&(sEq x0.1.2.2.2.2.2.2.1 ⟨#[]⟩)),(false,()))) else some (.inl ((iEq x0.1.2.2.2.2.1 (0:Int))&&((iEq x0.1.2.2.2.2.2.1 (0:Int))&&(sEq x0.1.2.2.2.2.2.2.1 ⟨#[]⟩)),(false,()))) else some (.inl ((iEq x0.1.2.2.2.2.1 (0:Int))&&((iEq x0.1.2.2.2.2.2.1 (0:Int))&&(sEq x0.1.2.2.2.2.2.2.1 ⟨#[]⟩)),((iEq x0.1.2.2.2.2.2.2.2.1 (0:Int))&&((iEq x0.1.2.2.2.2.2.2.2.2.1 (0:Int))&&(sEq x0.1.2.2.2.2.2.2.2.2.2.1 ⟨#[]⟩)),())))) fun r12=>Sum.elim (fun v11=>bif v11.1 then bif v11.2.1 then (F155 ((x0.1.2.2.2.2.2.2.2.2.2.2.1,(x0.1.2.2.2.2.2.2.2.2.2.2.2.1,(x0.1.2.2.2.2.2.2.2.2.2.2.2.2.1,()))),())).bind fun y13=>bif y13.1.1 then (F157 ((x0.1.2.2.2.2.2.2.2.2.2.2.2.2.2.1,(x0.1.2.2.2.2.2.2.2.2.2.2.2.2.2.2.1,(x0.1.2.2.2.2.2.2.2.2.2.2.2.2.2.2.2.1,()))),())).bind fun y14=>bif y14.1.1 then some ((true,()),()) else bif iEq x0.1.1 (4:Int) then (F158 ((x0.1.2.2.2.2.2.2.2.2.2.2.2.2.2.1,(x0.1.2.2.2.2.2.2.2.2.2.2.2.2.2.2.1,(x0.1.2.2.2.2.2.2.2.2.2.2.2.2.2.2.2.1,()))),())).bind fun y15=>some (y15.1,()) else some ((false,()),()) else bif iEq x0.1.1 (4:Int) then (F156 ((x0.1.2.2.2.2.2.2.2.2.2.2.1,(x0.1.2.2.2.2.2.2.2.2.2.2.2.1,(x0.1.2.2.2.2.2.2.2.2.2.2.2.2.1,()))),())).bind fun y16=>bif y16.1.1 then (F157 ((x0.1.2.2.2.2.2.2.2.2.2.2.2.2.2.1,(x0.1.2.2.2.2.2.2.2.2.2.2.2.2.2.2.1,(x0.1.2.2.2.2.2.2.2.2.2.2.2.2.2.2.2.1,()))),())).bind fun y17=>bif y17.1.1 then some ((true,()),()) else bif iEq x0.1.1 (4:Int) then (F158 ((x0.1.2.2.2.2.2.2.2.2.2.2.2.2.2.1,(x0.1.2.2.2.2.2.2.2.2.2.2.2.2.2.2.1,(x0.1.2.2.2.2.2.2.2.2.2.2.2.2.2.2.2.1,()))),())).bind fun y18=>some (y18.1,()) else some ((false,()),()) else some ((false,()),()) else bif iEq x0.1.1 (3:Int) then (F156 ((x0.1.2.2.2.2.2.2.2.2.2.2.1,(x0.1.2.2.2.2.2.2.2.2.2.2.2.1,(x0.1.2.2.2.2.2.2.2.2.2.2.2.2.1,()))),())).bind fun y19=>bif y19.1.1 then (F157 ((x0.1.2.2.2.2.2.2.2.2.2.2.2.2.2.1,(x0.1.2.2.2.2.2.2.2.2.2.2.2.2.2.2.1,(x0.1.2.2.2.2.2.2.2.2.2.2.2.2.2.2.2.1,()))),())).bind fun y20=>bif y20.1.1 then some ((true,()),()) else bif iEq x0.1.1 (4:Int) then (F158 ((x0.1.2.2.2.2.2.2.2.2.2.2.2.2.2.1,(x0.1.2.2.2.2.2.2.2.2.2.2.2.2.2.2.1,(x0.1.2.2.2.2.2.2.2.2.2.2.2.2.2.2.2.1,()))),())).bind fun y21=>some (y21.1,()) else some ((false,()),()) else some ((false,()),()) else some ((false,()),()) else some ((false,()),()) else some ((false,()),())) some r12
noncomputable def c92:Con:=⟨i92,o92,F92⟩
def i93:List Grp:= [⟨.agg,e44,[]⟩,⟨.c,(.cons .str .nil),[]⟩]
def o93:List Grp:= [⟨.c,(.cons (.int .i64) .nil),[]⟩]
noncomputable def F93.b0 (x0:(D44×((ByteArray×Unit)×Unit))):(v1:(Int×Unit))→Option (Sum (Int×Unit) (Sum (Int×Unit) (((Int×Unit)×Unit)))):=fun v1=>bif iLt v1.1 (List.length x0.1.2.2.2.1:Int) then (getI x0.1.2.2.2.1 v1.1).bind fun x2=>bif sEq x2.1 x0.2.1.1 then some (.inr (.inr ((v1.1,()),()))) else some (.inl (iAdd .i64 v1.1 (1:Int),())) else some (.inr (.inl (v1.1,())))
noncomputable def F93:(D44×((ByteArray×Unit)×Unit))→Option (((Int×Unit)×Unit)):=fun x0=>(loopF (F93.b0 x0) ((0:Int),())).bind fun r4=>Sum.elim (fun v3=>some (((-1:Int),()),())) some r4
noncomputable def c93:Con:=⟨i93,o93,F93⟩
def i227:List Grp:= [⟨.c,(.cons (.sl e9) .nil),[]⟩,⟨.c,(.cons (.sl e9) .nil),[]⟩]
def o227:List Grp:= [⟨.c,(.cons .bool .nil),[]⟩]
noncomputable def F227.b0 (x0:((List D9×Unit)×((List D9×Unit)×Unit))):(v1:(Int×Unit))→Option (Sum (Int×Unit) (Sum (Int×Unit) (((Bool×Unit)×Unit)))):=fun v1=>bif iLt v1.1 (List.length x0.1.1:Int) then (getI x0.1.1 v1.1).bind fun x2=>(getI x0.2.1.1 v1.1).bind fun x3=>bif !sEq x2.1 x3.1 then some (.inr (.inr ((false,()),()))) else some (.inl (iAdd .i64 v1.1 (1:Int),())) else some (.inr (.inl (v1.1,())))
noncomputable def F227:((List D9×Unit)×((List D9×Unit)×Unit))→Option (((Bool×Unit)×Unit)):=fun x0=>bif !iEq (List.length x0.1.1:Int) (List.length x0.2.1.1:Int) then some ((false,()),()) else (loopF (F227.b0 x0) ((0:Int),())).bind fun r5=>Sum.elim (fun v4=>some ((true,()),())) some r5
noncomputable def c227:Con:=⟨i227,o227,F227⟩
def i206:List Grp:= [⟨.agg,e98,[]⟩,⟨.agg,e98,[]⟩]
def o206:List Grp:= [⟨.c,(.cons .bool .nil),[]⟩]
noncomputable def F206:(D98×(D98×Unit))→Option (((Bool×Unit)×Unit)):=fun x0=>bif iEq x0.1.1 x0.2.1.1 then bif iEq x0.1.2.1 x0.2.1.2.1 then (F227 ((x0.1.2.2.1,()),((x0.2.1.2.2.1,()),()))).bind fun y1=>some (y1.1,()) else some ((false,()),()) else some ((false,()),())
noncomputable def c206:Con:=⟨i206,o206,F206⟩
def i207:List Grp:= [⟨.agg,e99,[]⟩,⟨.agg,e99,[]⟩]
def o207:List Grp:= [⟨.c,(.cons .bool .nil),[]⟩]
noncomputable def F207.b0 (x0:(D99×(D99×Unit))):(v2:(Int×Unit))→Option (Sum (Int×Unit) (Sum (Int×Unit) (((Bool×Unit)×Unit)))):=fun v2=>bif iLt v2.1 (List.length x0.1.2.2.1:Int) then (getI x0.1.2.2.1 v2.1).bind fun x3=>(getI x0.2.1.2.2.1 v2.1).bind fun x4=>bif !iEq x3.1 x4.1 then some (.inr (.inr ((false,()),()))) else some (.inl (iAdd .i64 v2.1 (1:Int),())) else some (.inr (.inl (v2.1,())))
noncomputable def F207:(D99×(D99×Unit))→Option (((Bool×Unit)×Unit)):=fun x0=>bif !iEq x0.1.1 x0.2.1.1 then some ((false,()),()) else (F227 ((x0.1.2.1,()),((x0.2.1.2.1,()),()))).bind fun y1=>bif (!y1.1.1) then some ((false,()),()) else bif !iEq (List.length x0.1.2.2.1:Int) (List.length x0.2.1.2.2.1:Int) then some ((false,()),()) else (loopF (F207.b0 x0) ((0:Int),())).bind fun r6=>Sum.elim (fun v5=>some ((true,()),())) some r6
noncomputable def c207:Con:=⟨i207,o207,F207⟩
def i208:List Grp:= [⟨.c,(.cons (.sl e122) .nil),[]⟩,⟨.c,(.cons (.sl e122) .nil),[]⟩]
def o208:List Grp:= [⟨.c,(.cons .bool .nil),[]⟩]
noncomputable def F208.b0 (x0:((List D122×Unit)×((List D122×Unit)×Unit))):(v1:(Int×Unit))→Option (Sum (Int×Unit) (Sum (Int×Unit) (((Bool×Unit)×Unit)))):=fun v1=>bif iLt v1.1 (List.length x0.1.1:Int) then (getI x0.1.1 v1.1).bind fun x2=>(getI x0.2.1.1 v1.1).bind fun x3=>bif !((iEq x2.1 x3.1)&&((sEq x2.2.1 x3.2.1)&&((sEq x2.2.2.1 x3.2.2.1)&&((iEq x2.2.2.2.1 x3.2.2.2.1)&&(iEq x2.2.2.2.2.1 x3.2.2.2.2.1))))) then some (.inr (.inr ((false,()),()))) else some (.inl (iAdd .i64 v1.1 (1:Int),())) else some (.inr (.inl (v1.1,())))
noncomputable def F208:((List D122×Unit)×((List D122×Unit)×Unit))→Option (((Bool×Unit)×Unit)):=fun x0=>bif !iEq (List.length x0.1.1:Int) (List.length x0.2.1.1:Int) then some ((false,()),()) else (loopF (F208.b0 x0) ((0:Int),())).bind fun r5=>Sum.elim (fun v4=>some ((true,()),())) some r5
noncomputable def c208:Con:=⟨i208,o208,F208⟩
def i209:List Grp:= [⟨.c,(.cons (.sl e209) .nil),[]⟩,⟨.c,(.cons (.sl e209) .nil),[]⟩]
def o209:List Grp:= [⟨.c,(.cons .bool .nil),[]⟩]
noncomputable def F209.b0 (x0:((List D209×Unit)×((List D209×Unit)×Unit))):(v1:(Int×Unit))→Option (Sum (Int×Unit) (Sum (Int×Unit) (((Bool×Unit)×Unit)))):=fun v1=>bif iLt v1.1 (List.length x0.1.1:Int) then (getI x0.1.1 v1.1).bind fun x2=>(getI x0.2.1.1 v1.1).bind fun x3=>bif !((sEq x2.1 x3.1)&&(iEq x2.2.1 x3.2.1)) then some (.inr (.inr ((false,()),()))) else some (.inl (iAdd .i64 v1.1 (1:Int),())) else some (.inr (.inl (v1.1,())))
noncomputable def F209:((List D209×Unit)×((List D209×Unit)×Unit))→Option (((Bool×Unit)×Unit)):=fun x0=>bif !iEq (List.length x0.1.1:Int) (List.length x0.2.1.1:Int) then some ((false,()),()) else (loopF (F209.b0 x0) ((0:Int),())).bind fun r5=>Sum.elim (fun v4=>some ((true,()),())) some r5
noncomputable def c209:Con:=⟨i209,o209,F209⟩
def i159:List Grp:= [⟨.agg,e71,[]⟩,⟨.agg,e71,[]⟩]
def o159:List Grp:= [⟨.c,(.cons .bool .nil),[]⟩]
noncomputable def F159:(D71×(D71×Unit))→Option (((Bool×Unit)×Unit)):=fun x0=>bif iEq x0.1.1 x0.2.1.1 then bif iEq x0.1.2.1 x0.2.1.2.1 then bif iEq x0.1.2.2.1 x0.2.1.2.2.1 then bif sEq x0.1.2.2.2.1 x0.2.1.2.2.2.1 then (F206 ((x0.1.2.2.2.2.1,(x0.1.2.2.2.2.2.1,(x0.1.2.2.2.2.2.2.1,()))),((x0.2.1.2.2.2.2.1,(x0.2.1.2.2.2.2.2.1,(x0.2.1.2.2.2.2.2.2.1,()))),()))).bind fun y1=>bif y1.1.1 then (F207 ((x0.1.2.2.2.2.2.2.2.1,(x0.1.2.2.2.2.2.2.2.2.1,(x0.1.2.2.2.2.2.2.2.2.2.1,()))),((x0.2.1.2.2.2.2.2.2.2.1,(x0.2.1.2.2.2.2.2.2.2.2.1,(x0.2.1.2.2.2.2.2.2.2.2.2.1,()))),()))).bind fun y2=>bif y2.1.1 then (F208 ((x0.1.2.2.2.2.2.2.2.2.2.2.1,()),((x0.2.1.2.2.2.2.2.2.2.2.2.2.1,()),()))).bind fun y3=>bif y3.1.1 then bif bEq x0.1.2.2.2.2.2.2.2.2.2.2.2.1 x0.2.1.2.2.2.2.2.2.2.2.2.2.2.1 then (F209 ((x0.1.2.2.2.2.2.2.2.2.2.2.2.2.1,()),((x0.2.1.2.2.2.2.2.2.2.2.2.2.2.2.1,()),()))).bind fun y4=>bif y4.1.1 then some ((sEq x0.1.2.2.2.2.2.2.2.2.2.2.2.2.2.1 x0.2.1.2.2.2.2.2.2.2.2.2.2.2.2.2.1,()),()) else some ((false,()),()) else some ((false,()),()) else some ((false,()),()) else some ((false,()),()) else some ((false,()),()) else some ((false,()),()) else some ((false,()),()) else some ((false,()),()) else some ((false,()),())
noncomputable def c159:Con:=⟨i159,o159,F159⟩
def i94:List Grp:= [⟨.agg,e44,[]⟩,⟨.c,(.cons (.sl e71) .nil),[]⟩]
def o94:List Grp:= [⟨.c,(.cons .bool .nil),[]⟩]
noncomputable def F94.b0 (x0:(D44×((List D71×Unit)×Unit))):(v1:(Int×Unit))→Option (Sum (Int×Unit) (Sum (Int×Unit) (((Bool×Unit)×Unit)))):=fun v1=>bif iLt v1.1 (List.length x0.2.1.1:Int) then (getI x0.2.1.1 v1.1).bind fun x2=>(F26 ((x2.1,()),(((0:Int),()),((iSub .i64 (List.length x0.1.2.2.2.2.1:Int) (1:Int),()),())))).bind fun y3=>bif (!y3.1.1) then some (.inr (.inr ((false,()),()))) else (getI x0.2.1.1 v1.1).bind fun x4=>(getI x0.1.2.2.2.2.1 x4.1).bind fun x5=>(getI x0.2.1.1 v1.1).bind fun x6=>(F159 (x5,(x6,()))).bind fun y7=>bif (!y7.1.1) then some (.inr (.inr ((false,()),()))) else some (.inl (iAdd .i64 v1.1 (1:Int),())) else some (.inr (.inl (v1.1,())))
noncomputable def F94:(D44×((List D71×Unit)×Unit))→Option (((Bool×Unit)×Unit)):=fun x0=>(loopF (F94.b0 x0) ((0:Int),())).bind fun r9=>Sum.elim (fun v8=>some ((true,()),())) some r9
noncomputable def c94:Con:=⟨i94,o94,F94⟩
def i228:List Grp:= [⟨.agg,e232,[]⟩,⟨.agg,e232,[]⟩]
def o228:List Grp:= [⟨.c,(.cons .bool .nil),[]⟩]
noncomputable def F228:(D232×(D232×Unit))→Option (((Bool×Unit)×Unit)):=fun x0=>bif !sEq x0.1.2.1 x0.2.1.2.1 then some ((sLt x0.1.2.1 x0.2.1.2.1,()),()) else bif !iEq x0.1.2.2.2.2.1 x0.2.1.2.2.2.2.1 then some ((iLt x0.1.2.2.2.2.1 x0.2.1.2.2.2.2.1,()),()) else bif !iEq x0.1.1 x0.2.1.1 then some ((iLt x0.1.1 x0.2.1.1,()),()) else bif !sEq x0.1.2.2.1 x0.2.1.2.2.1 then some ((sLt x0.1.2.2.1 x0.2.1.2.2.1,()),()) else some ((iLt x0.1.2.2.2.1 x0.2.1.2.2.2.1,()),())
noncomputable def c228:Con:=⟨i228,o228,F228⟩
def i210:List Grp:= [⟨.c,(.cons (.sl e122) .nil),[]⟩]
def o210:List Grp:= [⟨.c,(.cons .bool .nil),[]⟩]
noncomputable def F210.b0 (x0:((List D122×Unit)×Unit)):(v1:(Int×Unit))→Option (Sum (Int×Unit) (Sum (Int×Unit) (((Bool×Unit)×Unit)))):=fun v1=>bif iLt v1.1 (List.length x0.1.1:Int) then (getI x0.1.1 v1.1).bind fun x2=>(F120 (x2,())).bind fun y3=>bif (!y3.1.1) then some (.inr (.inr ((false,()),()))) else bif iLt (0:Int) v1.1 then (getI x0.1.1 (iSub .i64 v1.1 (1:Int))).bind fun x4=>(getI x0.1.1 v1.1).bind fun x5=>(F228 (x4,(x5,()))).bind fun y6=>bif (!y6.1.1) then some (.inr (.inr ((false,()),()))) else some (.inl (iAdd .i64 v1.1 (1:Int),())) else some (.inl (iAdd .i64 v1.1 (1:Int),())) else some (.inr (.inl (v1.1,())))
noncomputable def F210:((List D122×Unit)×Unit)→Option (((Bool×Unit)×Unit)):=fun x0=>(loopF (F210.b0 x0) ((0:Int),())).bind fun r8=>Sum.elim (fun v7=>some ((iLe (List.length x0.1.1:Int) (20:Int),()),())) some r8
noncomputable def c210:Con:=⟨i210,o210,F210⟩
def i229:List Grp:= [⟨.c,(.cons (.sl e71) .nil),[]⟩,⟨.c,(.cons (.int .i64) .nil),[]⟩]
def o229:List Grp:= [⟨.c,(.cons (.int .i64) .nil),[]⟩]
noncomputable def F229.b0 (x0:((List D71×Unit)×((Int×Unit)×Unit))):(v1:(Int×Unit))→Option (Sum (Int×Unit) (Sum (Int×Unit) (((Int×Unit)×Unit)))):=fun v1=>bif iLt v1.1 (List.length x0.1.1:Int) then (getI x0.1.1 v1.1).bind fun x2=>bif iEq x2.1 x0.2.1.1 then some (.inr (.inr ((v1.1,()),()))) else some (.inl (iAdd .i64 v1.1 (1:Int),())) else some (.inr (.inl (v1.1,())))
noncomputable def F229:((List D71×Unit)×((Int×Unit)×Unit))→Option (((Int×Unit)×Unit)):=fun x0=>(loopF (F229.b0 x0) ((0:Int),())).bind fun r4=>Sum.elim (fun v3=>some (((-1:Int),()),())) some r4
noncomputable def c229:Con:=⟨i229,o229,F229⟩
def i211:List Grp:= [⟨.c,(.cons (.sl e71) .nil),[]⟩]
def o211:List Grp:= [⟨.c,(.cons .bool .nil),[]⟩]
noncomputable def F211.b0 (x0:((List D71×Unit)×Unit)):(v1:(Int×Unit))→Option (Sum (Int×Unit) (Sum (Int×Unit) (((Bool×Unit)×Unit)))):=fun v1=>bif iLt v1.1 (List.length x0.1.1:Int) then (getI x0.1.1 v1.1).bind fun x2=>Option.bind ((F91 (x2,())).bind fun y3=>bif (!y3.1.1) then some (.inr (.inr (.inr ((false,()),())))) else (getI x0.1.1 (0:Int)).bind fun x4=>bif !iEq x2.2.1 x4.2.1 then some (.inr (.inr (.inr ((false,()),())))) else bif iLt (0:Int) v1.1 then (getI x0.1.1 (iSub .i64 v1.1 (1:Int))).bind fun x5=>bif iLe x2.1 x5.1 then some (.inr (.inr (.inr ((false,()),())))) else some (.inl ()) else some (.inl ())) fun r7=>Sum.elim (fun v6=>(F155 ((x2.2.2.2.2.1,(x2.2.2.2.2.2.1,(x2.2.2.2.2.2.2.1,()))),())).bind fun y8=>bif (!y8.1.1) then bif cutHi v1.1 (List.length x0.1.1) then (F229 ((List.take ((Int.toNat v1.1) - 0) (List.drop 0 x0.1.1),()),((x2.2.2.2.2.2.1,()),()))).bind fun y9=>bif iLt y9.1.1 (0:Int) then some (.inr (.inr ((false,()),()))) else (getI x0.1.1 y9.1.1).bind fun x10=>bif !iEq x10.2.2.1 x2.2.2.2.2.1 then some (.inr (.inr ((false,()),()))) else some (.inl (iAdd .i64 v1.1 (1:Int),())) else none else some (.inl (iAdd .i64 v1.1 (1:Int),()))) some r7 else some (.inr (.inl (v1.1,())))
noncomputable def F211:((List D71×Unit)×Unit)→Option (((Bool×Unit)×Unit)):=fun x0=>(loopF (F211.b0 x0) ((0:Int),())).bind fun r12=>Sum.elim (fun v11=>some ((iLe (List.length x0.1.1:Int) (400:Int),()),())) some r12
noncomputable def c211:Con:=⟨i211,o211,F211⟩
def i243:List Grp:= [⟨.c,(.cons (.sl e209) .nil),[]⟩,⟨.c,(.cons .str .nil),[]⟩]
def o243:List Grp:= [⟨.c,(.cons .bool .nil),[]⟩]
noncomputable def F243.b0 (x0:((List D209×Unit)×((ByteArray×Unit)×Unit))):(v1:(Int×Unit))→Option (Sum (Int×Unit) (Sum (Int×Unit) (((Bool×Unit)×Unit)))):=fun v1=>bif iLt v1.1 (List.length x0.1.1:Int) then (getI x0.1.1 v1.1).bind fun x2=>bif sEq x2.1 x0.2.1.1 then some (.inr (.inr ((true,()),()))) else some (.inl (iAdd .i64 v1.1 (1:Int),())) else some (.inr (.inl (v1.1,())))
noncomputable def F243:((List D209×Unit)×((ByteArray×Unit)×Unit))→Option (((Bool×Unit)×Unit)):=fun x0=>(loopF (F243.b0 x0) ((0:Int),())).bind fun r4=>Sum.elim (fun v3=>some ((false,()),())) some r4
noncomputable def c243:Con:=⟨i243,o243,F243⟩
def i230:List Grp:= [⟨.c,(.cons (.sl e209) .nil),[]⟩,⟨.c,(.cons (.sl e9) .nil),[]⟩]
def o230:List Grp:= [⟨.c,(.cons .bool .nil),[]⟩]
noncomputable def F230.b0 (x0:((List D209×Unit)×((List D9×Unit)×Unit))):(v1:(Int×Unit))→Option (Sum (Int×Unit) (Sum (Int×Unit) (((Bool×Unit)×Unit)))):=fun v1=>bif iLt v1.1 (List.length x0.2.1.1:Int) then (getI x0.2.1.1 v1.1).bind fun x2=>(F243 (x0.1,(x2,()))).bind fun y3=>bif (!y3.1.1) then some (.inr (.inr ((false,()),()))) else some (.inl (iAdd .i64 v1.1 (1:Int),())) else some (.inr (.inl (v1.1,())))
noncomputable def F230:((List D209×Unit)×((List D9×Unit)×Unit))→Option (((Bool×Unit)×Unit)):=fun x0=>(loopF (F230.b0 x0) ((0:Int),())).bind fun r5=>Sum.elim (fun v4=>(F90 (x0.2.1,())).bind fun y6=>some (y6.1,())) some r5
noncomputable def c230:Con:=⟨i230,o230,F230⟩
def i161:List Grp:= [⟨.c,(.cons (.sl e9) .nil),[]⟩,⟨.c,(.cons .str .nil),[]⟩]
def o161:List Grp:= [⟨.c,(.cons .bool .nil),[]⟩]
noncomputable def F161.b0 (x0:((List D9×Unit)×((ByteArray×Unit)×Unit))):(v1:(Int×Unit))→Option (Sum (Int×Unit) (Sum (Int×Unit) (((Bool×Unit)×Unit)))):=fun v1=>bif iLt v1.1 (List.length x0.1.1:Int) then (getI x0.1.1 v1.1).bind fun x2=>bif sEq x2.1 x0.2.1.1 then some (.inr (.inr ((true,()),()))) else some (.inl (iAdd .i64 v1.1 (1:Int),())) else some (.inr (.inl (v1.1,())))
noncomputable def F161:((List D9×Unit)×((ByteArray×Unit)×Unit))→Option (((Bool×Unit)×Unit)):=fun x0=>(loopF (F161.b0 x0) ((0:Int),())).bind fun r4=>Sum.elim (fun v3=>some ((false,()),())) some r4
noncomputable def c161:Con:=⟨i161,o161,F161⟩
def i244:List Grp:= [⟨.c,(.cons (.sl e209) .nil),[]⟩,⟨.c,(.cons (.sl e9) .nil),[]⟩]
def o244:List Grp:= [⟨.c,(.cons (.int .i64) .nil),[]⟩]
noncomputable def F244.b0 (x0:((List D209×Unit)×((List D9×Unit)×Unit))):(v1:(Int×(Int×Unit)))→Option (Sum (Int×(Int×Unit)) (Sum (Int×(Int×Unit)) (((Int×Unit)×Unit)))):=fun v1=>bif iLt v1.2.1 (List.length x0.1.1:Int) then (getI x0.1.1 v1.2.1).bind fun x2=>(F161 (x0.2.1,((x2.1,()),()))).bind fun y3=>bif y3.1.1 then (getI x0.1.1 v1.2.1).bind fun x4=>some (.inl (iAdd .i64 v1.1 x4.2.1,(iAdd .i64 v1.2.1 (1:Int),()))) else some (.inl (v1.1,(iAdd .i64 v1.2.1 (1:Int),()))) else some (.inr (.inl (v1.1,(v1.2.1,()))))
noncomputable def F244:((List D209×Unit)×((List D9×Unit)×Unit))→Option (((Int×Unit)×Unit)):=fun x0=>(loopF (F244.b0 x0) ((0:Int),((0:Int),()))).bind fun r6=>Sum.elim (fun v5=>some ((v5.1,()),())) some r6
noncomputable def c244:Con:=⟨i244,o244,F244⟩
def i245:List Grp:= [⟨.c,(.cons (.sl e209) .nil),[]⟩]
def o245:List Grp:= [⟨.c,(.cons (.int .i64) .nil),[]⟩]
noncomputable def F245.b0 (x0:((List D209×Unit)×Unit)):(v1:(Int×(Int×Unit)))→Option (Sum (Int×(Int×Unit)) (Sum (Int×(Int×Unit)) (((Int×Unit)×Unit)))):=fun v1=>bif iLt v1.2.1 (List.length x0.1.1:Int) then (getI x0.1.1 v1.2.1).bind fun x2=>some (.inl (iAdd .i64 v1.1 x2.2.1,(iAdd .i64 v1.2.1 (1:Int),()))) else some (.inr (.inl (v1.1,(v1.2.1,()))))
noncomputable def F245:((List D209×Unit)×Unit)→Option (((Int×Unit)×Unit)):=fun x0=>(loopF (F245.b0 x0) ((0:Int),((0:Int),()))).bind fun r4=>Sum.elim (fun v3=>some ((v3.1,()),())) some r4
noncomputable def c245:Con:=⟨i245,o245,F245⟩
def i231:List Grp:= [⟨.c,(.cons (.sl e209) .nil),[]⟩,⟨.c,(.cons (.sl e9) .nil),[]⟩]
def o231:List Grp:= [⟨.c,(.cons .bool .nil),[]⟩]
noncomputable def F231:((List D209×Unit)×((List D9×Unit)×Unit))→Option (((Bool×Unit)×Unit)):=fun x0=>(F244 (x0.1,(x0.2.1,()))).bind fun y1=>(F245 (x0.1,())).bind fun y2=>some ((iLt (iMul .i64 (2:Int) y2.1.1) (iMul .i64 (3:Int) y1.1.1),()),())
noncomputable def c231:Con:=⟨i231,o231,F231⟩
def i212:List Grp:= [⟨.c,(.cons (.sl e209) .nil),[]⟩,⟨.agg,e98,[]⟩]
def o212:List Grp:= [⟨.c,(.cons .bool .nil),[]⟩]
noncomputable def F212:((List D209×Unit)×(D98×Unit))→Option (((Bool×Unit)×Unit)):=fun x0=>(F155 (x0.2.1,())).bind fun y1=>bif y1.1.1 then some ((true,()),()) else (F26 ((x0.2.1.1,()),(((1:Int),()),(((10000:Int),()),())))).bind fun y2=>bif y2.1.1 then (F26 ((x0.2.1.2.1,()),(((0:Int),()),(((100000:Int),()),())))).bind fun y3=>bif y3.1.1 then (F230 (x0.1,((x0.2.1.2.2.1,()),()))).bind fun y4=>bif y4.1.1 then (F231 (x0.1,((x0.2.1.2.2.1,()),()))).bind fun y5=>some (y5.1,()) else some ((false,()),()) else some ((false,()),()) else some ((false,()),())
noncomputable def c212:Con:=⟨i212,o212,F212⟩
def i213:List Grp:= [⟨.c,(.cons (.sl e209) .nil),[]⟩,⟨.agg,e99,[]⟩]
def o213:List Grp:= [⟨.c,(.cons .bool .nil),[]⟩]
noncomputable def F213.b0 (x0:((List D209×Unit)×(D99×Unit))):(v5:(Int×Unit))→Option (Sum (Int×Unit) (Sum (Int×Unit) (((Bool×Unit)×Unit)))):=fun v5=>bif iLt v5.1 (List.length x0.2.1.2.2.1:Int) then (getI x0.2.1.2.2.1 v5.1).bind fun x6=>(F26 (x6,(((0:Int),()),((iSub .i64 x0.2.1.1 (1:Int),()),())))).bind fun y7=>bif (!y7.1.1) then some (.inr (.inr ((false,()),()))) else some (.inl (iAdd .i64 v5.1 (1:Int),())) else some (.inr (.inl (v5.1,())))
noncomputable def F213:((List D209×Unit)×(D99×Unit))→Option (((Bool×Unit)×Unit)):=fun x0=>(F157 (x0.2.1,())).bind fun y1=>bif y1.1.1 then some ((true,()),()) else (F26 ((x0.2.1.1,()),(((1:Int),()),(((10000:Int),()),())))).bind fun y2=>bif (!y2.1.1) then some ((false,()),()) else (F230 (x0.1,((x0.2.1.2.1,()),()))).bind fun y3=>bif (!y3.1.1) then some ((false,()),()) else (F231 (x0.1,((x0.2.1.2.1,()),()))).bind fun y4=>bif (!y4.1.1) then some ((false,()),()) else bif !iEq (List.length x0.2.1.2.2.1:Int) (List.length x0.2.1.2.1:Int) then some ((false,()),()) else (loopF (F213.b0 x0) ((0:Int),())).bind fun r9=>Sum.elim (fun v8=>some ((true,()),())) some r9
noncomputable def c213:Con:=⟨i213,o213,F213⟩
def i160:List Grp:= [⟨.agg,e135,[]⟩]
def o160:List Grp:= [⟨.c,(.cons .bool .nil),[]⟩]
noncomputable def F160:(D135×Unit)→Option (((Bool×Unit)×Unit)):=fun x0=>Option.bind ((F150 ((x0.1.1,()),())).bind fun y1=>bif (!y1.1.1) then some (.inr ((false,()),())) else (F68 ((x0.1.2.2.1,(x0.1.2.2.2.1,())),())).bind fun y2=>bif (!y2.1.1) then some (.inr ((false,()),())) else bif !iEq x0.1.2.2.1 x0.1.2.1 then some (.inr ((false,()),())) else (F210 ((x0.1.2.2.2.2.2.2.2.2.2.2.2.2.2.2.2.2.2.2.1,()),())).bind fun y3=>bif (!y3.1.1) then some (.inr ((false,()),())) else bif iLt (0:Int) (List.length x0.1.2.2.2.2.1:Int) then (F153 ((x0.1.2.2.2.2.1,()),())).bind fun y4=>bif (!y4.1.1) then some (.inr ((false,()),())) else (F211 ((x0.1.2.2.2.2.2.1,()),())).bind fun y5=>bif (!y5.1.1) then some (.inr ((false,()),())) else bif iLt (0:Int) (List.length x0.1.2.2.2.2.2.1:Int) then (getI x0.1.2.2.2.2.2.1 (0:Int)).bind fun x6=>bif !iEq x6.2.1 x0.1.2.1 then some (.inr ((false,()),())) else some (.inl ()) else some (.inl ()) else (F211 ((x0.1.2.2.2.2.2.1,()),())).bind fun y7=>bif (!y7.1.1) then some (.inr ((false,()),())) else bif iLt (0:Int) (List.length x0.1.2.2.2.2.2.1:Int) then (getI x0.1.2.2.2.2.2.1 (0:Int)).bind fun x8=>bif !iEq x8.2.1 x0.1.2.1 then some (.inr ((false,()),())) else some (.inl ()) else some (.inl ())) fun r10=>Sum.elim (fun v9=>(F26 ((x0.1.2.2.2.2.2.2.1,()),(((1:Int),()),(((10000:Int),()),())))).bind fun y11=>bif y11.1.1 then bif iLt x0.1.2.2.2.2.2.2.2.2.1 x0.1.2.2.2.2.2.2.1 then bif iLt x0.1.2.2.2.2.2.2.2.2.2.2.2.1 x0.1.2.2.2.2.2.2.1 then (F26 ((x0.1.2.2.2.2.2.2.2.1,()),(((0:Int),()),(((10000:Int),()),())))).bind fun y12=>bif y12.1.1 then (F26 ((x0.1.2.2.2.2.2.2.2.2.2.2.2.2.2.2.1,()),(((0:Int),()),(((10000:Int),()),())))).bind fun y13=>bif y13.1.1 then (F212 ((x0.1.2.2.2.2.1,()),((x0.1.2.2.2.2.2.2.2.2.1,(x0.1.2.2.2.2.2.2.2.2.2.1,(x0.1.2.2.2.2.2.2.2.2.2.2.1,()))),()))).bind fun y14=>bif y14.1.1 then (F213 ((x0.1.2.2.2.2.1,()),((x0.1.2.2.2.2.2.2.2.2.2.2.2.1,(x0.1.2.2.2.2.2.2.2.2.2.2.2.2.1,(x0.1.2.2.2.2.2.2.2.2.2.2.2.2.2.1,()))),()))).bind fun y15=>bif y15.1.1 then bif iLe (List.length x0.1.2.2.2.2.2.2.2.2.2.2.2.2.2.2.2.1:Int) (1000:Int) then bif iLe (List.length x0.1.2.2.2.2.2.2.2.2.2.2.2.2.2.2.2.2.1:Int) (1000:Int) then bif iLe (List.length x0.1.2.2.2.2.2.2.2.2.2.2.2.2.2.2.2.2.2.1:Int) (200:Int) then some ((iLe (List.length x0.1.2.2.2.2.2.2.2.2.2.2.2.2.2.2.2.2.2.2.2.1:Int) (200:Int),()),()) else some ((false,()),()) else some ((false,()),()) else some ((false,()),()) else some ((false,()),()) else some ((false,()),()) else some ((false,()),()) else some ((false,()),()) else some ((false,()),()) else some ((false,()),()) else some ((false,()),())) some r10
noncomputable def c160:Con:=⟨i160,o160,F160⟩
def i95:List Grp:= [⟨.agg,e44,[]⟩]
def o95:List Grp:= [⟨.c,(.cons .bool .nil),[]⟩]
noncomputable def F95.b0 (x0:(D44×Unit)):(v1:(Int×Unit))→Option (Sum (Int×Unit) (Sum (Int×Unit) (((Bool×Unit)×Unit)))):=fun v1=>bif iLt v1.1 (List.length x0.1.2.2.2.1:Int) then (getI x0.1.2.2.2.1 v1.1).bind fun x2=>(F160 (x2,())).bind fun y3=>bif (!y3.1.1) then some (.inr (.inr ((false,()),()))) else (F161 ((x0.1.2.2.1,()),((x2.1,()),()))).bind fun y4=>bif y4.1.1 then some (.inr (.inr ((false,()),()))) else bif iLt (0:Int) v1.1 then (getI x0.1.2.2.2.1 (iSub .i64 v1.1 (1:Int))).bind fun x5=>bif !sLt x5.1 x2.1 then some (.inr (.inr ((false,()),()))) else (F94 (x0.1,((x2.2.2.2.2.2.1,()),()))).bind fun y6=>bif (!y6.1.1) then some (.inr (.inr ((false,()),()))) else some (.inl (iAdd .i64 v1.1 (1:Int),())) else (F94 (x0.1,((x2.2.2.2.2.2.1,()),()))).bind fun y7=>bif (!y7.1.1) then some (.inr (.inr ((false,()),()))) else some (.inl (iAdd .i64 v1.1 (1:Int),())) else some (.inr (.inl (v1.1,())))
noncomputable def F95:(D44×Unit)→Option (((Bool×Unit)×Unit)):=fun x0=>(loopF (F95.b0 x0) ((0:Int),())).bind fun r9=>Sum.elim (fun v8=>some ((iLe (List.length x0.1.2.2.2.1:Int) (12:Int),()),())) some r9
noncomputable def c95:Con:=⟨i95,o95,F95⟩
def i52:List Grp:= [⟨.agg,e44,[]⟩]
def o52:List Grp:= [⟨.c,(.cons .bool .nil),[]⟩]
noncomputable def F52.b0 (x0:(D44×Unit)):(v3:(Int×Unit))→Option (Sum (Int×Unit) (Sum (Int×Unit) (((Bool×Unit)×Unit)))):=fun v3=>bif iLt v3.1 (List.length x0.1.2.2.2.2.1:Int) then (getI x0.1.2.2.2.2.1 v3.1).bind fun x4=>bif !iEq x4.1 v3.1 then some (.inr (.inr ((false,()),()))) else (getI x0.1.2.2.2.2.1 v3.1).bind fun x5=>(F91 (x5,())).bind fun y6=>bif (!y6.1.1) then some (.inr (.inr ((false,()),()))) else some (.inl (iAdd .i64 v3.1 (1:Int),())) else some (.inr (.inl (v3.1,())))
noncomputable def F52.b1 (x0:(D44×Unit)):(v9:(Int×Unit))→Option (Sum (Int×Unit) (Sum (Int×Unit) (((Bool×Unit)×Unit)))):=fun v9=>bif iLt v9.1 (List.length x0.1.2.2.2.2.2.2.1:Int) then (getI x0.1.2.2.2.2.2.2.1 v9.1).bind fun x10=>(F92 (x10,())).bind fun y11=>bif (!y11.1.1) then some (.inr (.inr ((false,()),()))) else (getI x0.1.2.2.2.2.2.2.1 v9.1).bind fun x12=>(F93 (x0.1,((x12.2.1,()),()))).bind fun y13=>bif iLt y13.1.1 (0:Int) then some (.inr (.inr ((false,()),()))) else (getI x0.1.2.2.2.2.2.2.1 v9.1).bind fun x14=>(F94 (x0.1,((x14.2.2.2.1,()),()))).bind fun y15=>bif (!y15.1.1) then some (.inr (.inr ((false,()),()))) else some (.inl (iAdd .i64 v9.1 (1:Int),())) else some (.inr (.inl (v9.1,())))
noncomputable def F52:(D44×Unit)→Option (((Bool×Unit)×Unit)):=fun x0=>(F68 ((x0.1.1,(x0.1.2.1,())),())).bind fun y1=>bif (!y1.1.1) then some ((false,()),()) else (F90 ((x0.1.2.2.1,()),())).bind fun y2=>bif (!y2.1.1) then some ((false,()),()) else bif iLt (1000:Int) (List.length x0.1.2.2.2.2.1:Int) then some ((false,()),()) else bif iLt (400:Int) (List.length x0.1.2.2.2.2.2.2.1:Int) then some ((false,()),()) else (loopF (F52.b0 x0) ((0:Int),())).bind fun r8=>Sum.elim (fun v7=>(loopF (F52.b1 x0) ((0:Int),())).bind fun r17=>Sum.elim (fun v16=>(F95 (x0.1,())).bind fun y18=>some (y18.1,())) some r17) some r8
noncomputable def c52:Con:=⟨i52,o52,F52⟩
def i53:List Grp:= [⟨.agg,e44,[]⟩]
def o53:List Grp:= [⟨.c,(.cons .bool .nil),[]⟩]
noncomputable def F53.b1 (v1:(Int×Unit)) (x0:(D44×Unit)):(v2:(Int×Unit))→Option (Sum (Int×Unit) (Sum (Int×Unit) (Sum (Int×Unit) (Sum (Int×Unit) (((Bool×Unit)×Unit)))))):=fun v2=>bif iLt v2.1 v1.1 then (getI x0.1.2.2.2.2.2.1 v1.1).bind fun x3=>(getI x0.1.2.2.2.2.2.1 v2.1).bind fun x4=>bif iEq x3.1 (1:Int) then bif iEq x4.1 (1:Int) then bif iEq x3.2.1 x4.2.1 then bif iEq x3.2.2.1 x4.2.2.1 then bif sEq x3.2.2.2.2.1 x4.2.2.2.2.1 then bif !iEq x3.2.2.2.1 x4.2.2.2.1 then some (.inr (.inr (.inr (.inr ((false,()),()))))) else some (.inl (iAdd .i64 v2.1 (1:Int),())) else some (.inl (iAdd .i64 v2.1 (1:Int),())) else some (.inl (iAdd .i64 v2.1 (1:Int),())) else some (.inl (iAdd .i64 v2.1 (1:Int),())) else some (.inl (iAdd .i64 v2.1 (1:Int),())) else some (.inl (iAdd .i64 v2.1 (1:Int),())) else some (.inr (.inl (v2.1,())))
noncomputable def F53.b0 (x0:(D44×Unit)):(v1:(Int×Unit))→Option (Sum (Int×Unit) (Sum (Int×Unit) (((Bool×Unit)×Unit)))):=fun v1=>bif iLt v1.1 (List.length x0.1.2.2.2.2.2.1:Int) then (loopF (F53.b1 v1 x0) ((0:Int),())).bind fun r6=>Sum.elim (fun v5=>some (.inl (iAdd .i64 v1.1 (1:Int),()))) some r6 else some (.inr (.inl (v1.1,())))
noncomputable def F53:(D44×Unit)→Option (((Bool×Unit)×Unit)):=fun x0=>(loopF (F53.b0 x0) ((0:Int),())).bind fun r8=>Sum.elim (fun v7=>some ((true,()),())) some r8
noncomputable def c53:Con:=⟨i53,o53,F53⟩
def i96:List Grp:= [⟨.c,(.cons (.sl e3) .nil),[]⟩,⟨.c,(.cons (.sl e3) .nil),[]⟩]
def o96:List Grp:= [⟨.c,(.cons .bool .nil),[]⟩]
noncomputable def F96.b0 (x0:((List D3×Unit)×((List D3×Unit)×Unit))):(v1:(Int×Unit))→Option (Sum (Int×Unit) (Sum (Int×Unit) (((Bool×Unit)×Unit)))):=fun v1=>bif iLt v1.1 (List.length x0.1.1:Int) then bif iLt v1.1 (List.length x0.2.1.1:Int) then (getI x0.1.1 v1.1).bind fun x2=>(getI x0.2.1.1 v1.1).bind fun x3=>bif !iEq x2.1 x3.1 then some (.inr (.inr ((false,()),()))) else some (.inl (iAdd .i64 v1.1 (1:Int),())) else some (.inr (.inl (v1.1,()))) else some (.inr (.inl (v1.1,())))
noncomputable def F96:((List D3×Unit)×((List D3×Unit)×Unit))→Option (((Bool×Unit)×Unit)):=fun x0=>(loopF (F96.b0 x0) ((0:Int),())).bind fun r5=>Sum.elim (fun v4=>some ((true,()),())) some r5
noncomputable def c96:Con:=⟨i96,o96,F96⟩
def i54:List Grp:= [⟨.agg,e44,[]⟩]
def o54:List Grp:= [⟨.c,(.cons .bool .nil),[]⟩]
noncomputable def F54.b1 (v1:(Int×Unit)) (x0:(D44×Unit)):(v2:(Int×Unit))→Option (Sum (Int×Unit) (Sum (Int×Unit) (Sum (Int×Unit) (Sum (Int×Unit) (((Bool×Unit)×Unit)))))):=fun v2=>bif iLt v2.1 v1.1 then (getI x0.1.2.2.2.1 v1.1).bind fun x3=>(getI x0.1.2.2.2.1 v2.1).bind fun x4=>(F96 ((x3.2.2.2.2.2.2.2.2.2.2.2.2.2.2.2.2.2.1,()),((x4.2.2.2.2.2.2.2.2.2.2.2.2.2.2.2.2.2.1,()),()))).bind fun y5=>bif (!y5.1.1) then some (.inr (.inr (.inr (.inr ((false,()),()))))) else some (.inl (iAdd .i64 v2.1 (1:Int),())) else some (.inr (.inl (v2.1,())))
noncomputable def F54.b0 (x0:(D44×Unit)):(v1:(Int×Unit))→Option (Sum (Int×Unit) (Sum (Int×Unit) (((Bool×Unit)×Unit)))):=fun v1=>bif iLt v1.1 (List.length x0.1.2.2.2.1:Int) then (loopF (F54.b1 v1 x0) ((0:Int),())).bind fun r7=>Sum.elim (fun v6=>some (.inl (iAdd .i64 v1.1 (1:Int),()))) some r7 else some (.inr (.inl (v1.1,())))
noncomputable def F54:(D44×Unit)→Option (((Bool×Unit)×Unit)):=fun x0=>(loopF (F54.b0 x0) ((0:Int),())).bind fun r9=>Sum.elim (fun v8=>some ((true,()),())) some r9
noncomputable def c54:Con:=⟨i54,o54,F54⟩
def i97:List Grp:= [⟨.agg,e44,[]⟩,⟨.c,(.cons (.sl e3) .nil),[]⟩]
def o97:List Grp:= [⟨.c,(.cons (.int .i64) .nil),[]⟩]
noncomputable def F97.b0 (x0:(D44×((List D3×Unit)×Unit))):(v1:(Int×(Int×Unit)))→Option (Sum (Int×(Int×Unit)) (Sum (Int×(Int×Unit)) (((Int×Unit)×Unit)))):=fun v1=>bif iLt v1.2.1 (List.length x0.2.1.1:Int) then (getI x0.2.1.1 v1.2.1).bind fun x2=>(F26 (x2,(((0:Int),()),((iSub .i64 (List.length x0.1.2.2.2.2.1:Int) (1:Int),()),())))).bind fun y3=>bif y3.1.1 then (getI x0.2.1.1 v1.2.1).bind fun x4=>(getI x0.1.2.2.2.2.1 x4.1).bind fun x5=>bif x5.2.2.2.2.2.2.2.2.2.2.2.1 then some (.inl (iAdd .i64 v1.2.1 (1:Int),(iAdd .i64 v1.2.1 (1:Int),()))) else some (.inl (v1.1,(iAdd .i64 v1.2.1 (1:Int),()))) else some (.inl (v1.1,(iAdd .i64 v1.2.1 (1:Int),()))) else some (.inr (.inl (v1.1,(v1.2.1,()))))
noncomputable def F97:(D44×((List D3×Unit)×Unit))→Option (((Int×Unit)×Unit)):=fun x0=>(loopF (F97.b0 x0) ((0:Int),((0:Int),()))).bind fun r7=>Sum.elim (fun v6=>some ((v6.1,()),())) some r7
noncomputable def c97:Con:=⟨i97,o97,F97⟩
def i66:List Grp:= [⟨.c,(.cons (.sl e127) .nil),[]⟩]
def o66:List Grp:= [⟨.c,(.cons (.sl e127) .nil),[(.own m0)]⟩]
noncomputable def F66.b0 (x0:((List D127×Unit)×Unit)):(v1:(List (D127)×(Int×Unit)))→Option (Sum (List (D127)×(Int×Unit)) (Sum (List (D127)×(Int×Unit)) (((List D127×Unit)×Unit)))):=fun v1=>bif iLt v1.2.1 (List.length x0.1.1:Int) then (getI x0.1.1 v1.2.1).bind fun x2=>bif room (List.length ([]:List (D129))+List.length x2.2.2.2.2.1) 16 then bif room (List.length v1.1+List.length ([(x2.1,(x2.2.1,(x2.2.2.1,(x2.2.2.2.1,(lapp ([]:List (D129)) x2.2.2.2.2.1,())))))]:List (D127))) 64 then some (.inl (lapp v1.1 ([(x2.1,(x2.2.1,(x2.2.2.1,(x2.2.2.2.1,(lapp ([]:List (D129)) x2.2.2.2.2.1,())))))]:List (D127)),(iAdd .i64 v1.2.1 (1:Int),()))) else none else none else some (.inr (.inl (v1.1,(v1.2.1,()))))
noncomputable def F66:((List D127×Unit)×Unit)→Option (((List D127×Unit)×Unit)):=fun x0=>(loopF (F66.b0 x0) (([]:List (D127)),((0:Int),()))).bind fun r4=>Sum.elim (fun v3=>some ((v3.1,()),())) some r4
noncomputable def c66:Con:=⟨i66,o66,F66⟩
def i25:List Grp:= [⟨.agg,e36,[]⟩]
def o25:List Grp:= [⟨.agg,e36,[.sh,(.own m0)]⟩]
noncomputable def F25:(D36×Unit)→Option ((D36×Unit)):=fun x0=>(F66 ((x0.1.2.1,()),())).bind fun y1=>some ((x0.1.1,(y1.1.1,())),())
noncomputable def c25:Con:=⟨i25,o25,F25⟩
def i121:List Grp:= [⟨.c,(.cons (.sl e127) .nil),[]⟩,⟨.c,(.cons .str .nil),[]⟩]
def o121:List Grp:= [⟨.c,(.cons (.int .i64) .nil),[]⟩]
noncomputable def F121.b0 (x0:((List D127×Unit)×((ByteArray×Unit)×Unit))):(v1:(Int×Unit))→Option (Sum (Int×Unit) (Sum (Int×Unit) (((Int×Unit)×Unit)))):=fun v1=>bif iLt v1.1 (List.length x0.1.1:Int) then (getI x0.1.1 v1.1).bind fun x2=>bif sEq x2.1 x0.2.1.1 then some (.inr (.inr ((v1.1,()),()))) else some (.inl (iAdd .i64 v1.1 (1:Int),())) else some (.inr (.inl (v1.1,())))
noncomputable def F121:((List D127×Unit)×((ByteArray×Unit)×Unit))→Option (((Int×Unit)×Unit)):=fun x0=>(loopF (F121.b0 x0) ((0:Int),())).bind fun r4=>Sum.elim (fun v3=>some (((-1:Int),()),())) some r4
noncomputable def c121:Con:=⟨i121,o121,F121⟩
def i275:List Grp:= [⟨.c,(.cons (.sl e127) .nil),[]⟩]
def o275:List Grp:= [⟨.c,(.cons (.sl e127) .nil),[(.own [])]⟩]
noncomputable def c275:Con:=⟨i275,o275,F66⟩
def i188:List Grp:= [⟨.c,(.cons (.sl e127) .nil),[]⟩,⟨.c,(.cons .str .nil),[]⟩]
def o188:List Grp:= [⟨.c,(.cons (.sl e127) .nil),[(.own [])]⟩]
noncomputable def F188.b0 (x0:((List D127×Unit)×((ByteArray×Unit)×Unit))):(v3:(Int×(List (D127)×Unit)))→Option (Sum (Int×(List (D127)×Unit)) (Sum (Int×(List (D127)×Unit)) (((List D127×Unit)×Unit)))):=fun v3=>bif iLt (0:Int) v3.1 then (getI v3.2.1 (iSub .i64 v3.1 (1:Int))).bind fun _=>(getN v3.2.1 (Int.toNat (iSub .i64 v3.1 (1:Int)))).bind fun x4=>bif !(sLt x4.1 x0.2.1.1||sEq x4.1 x0.2.1.1) then (getI v3.2.1 (iSub .i64 v3.1 (1:Int))).bind fun _=>(getN v3.2.1 (Int.toNat (iSub .i64 v3.1 (1:Int)))).bind fun x5=>(getI v3.2.1 v3.1).bind fun _=>(getN v3.2.1 (Int.toNat v3.1)).bind fun x6=>(some (List.set v3.2.1 (Int.toNat v3.1) (x5.1,(x5.2.1,(x5.2.2.1,(x5.2.2.2.1,(x5.2.2.2.2.1,()))))))).bind fun z7=>some (.inl (iSub .i64 v3.1 (1:Int),(z7,()))) else some (.inr (.inl (v3.1,(v3.2.1,())))) else some (.inr (.inl (v3.1,(v3.2.1,()))))
noncomputable def F188:((List D127×Unit)×((ByteArray×Unit)×Unit))→Option (((List D127×Unit)×Unit)):=fun x0=>(F66 (x0.1,())).bind fun y1=>(F121 (x0.1,(x0.2.1,()))).bind fun y2=>bif iLe (0:Int) y2.1.1 then some (y1.1,()) else bif room (List.length y1.1.1+List.length ([(⟨#[]⟩,((0:Int),((0:Int),((0:Int),([],())))))]:List (D127))) 64 then (loopF (F188.b0 x0) (iSub .i64 (List.length (lapp y1.1.1 ([(⟨#[]⟩,((0:Int),((0:Int),((0:Int),([],())))))]:List (D127))):Int) (1:Int),(lapp y1.1.1 ([(⟨#[]⟩,((0:Int),((0:Int),((0:Int),([],())))))]:List (D127)),()))).bind fun r9=>Sum.elim (fun v8=>(getI v8.2.1 v8.1).bind fun _=>(getN v8.2.1 (Int.toNat v8.1)).bind fun x10=>(some (List.set v8.2.1 (Int.toNat v8.1) (x0.2.1.1,((0:Int),((0:Int),((0:Int),([],()))))))).bind fun z11=>some ((z11,()),())) some r9 else none
noncomputable def c188:Con:=⟨i188,o188,F188⟩
def i189:List Grp:= [⟨.c,(.cons (.sl e129) .nil),[]⟩,⟨.c,(.cons (.int .i64) .nil),[]⟩,⟨.c,(.cons (.int .i64) .nil),[]⟩]
def o189:List Grp:= [⟨.c,(.cons (.sl e129) .nil),[(.own [])]⟩]
noncomputable def F189.b0 (x0:((List D129×Unit)×((Int×Unit)×((Int×Unit)×Unit)))):(v1:(List (D129)×(Bool×(Int×Unit))))→Option (Sum (List (D129)×(Bool×(Int×Unit))) (Sum (List (D129)×(Bool×(Int×Unit))) (((List D129×Unit)×Unit)))):=fun v1=>bif iLt v1.2.2.1 (List.length x0.1.1:Int) then (getI x0.1.1 v1.2.2.1).bind fun x2=>Option.bind (bif (!v1.2.1) then bif iEq x2.2.1 x0.2.2.1.1 then some (.inl (true,(iAdd .i64 x2.1 x0.2.1.1,()))) else some (.inl (v1.2.1,(x2.1,()))) else some (.inl (v1.2.1,(x2.1,())))) fun r4=>Sum.elim (fun v3=>Option.bind (bif (!v3.1) then bif iLt x0.2.2.1.1 x2.2.1 then bif room (List.length v1.1+List.length ([(x0.2.1.1,(x0.2.2.1.1,()))]:List (D129))) 16 then some (.inl (lapp v1.1 ([(x0.2.1.1,(x0.2.2.1.1,()))]:List (D129)),(true,()))) else none else some (.inl (v1.1,(v3.1,()))) else some (.inl (v1.1,(v3.1,())))) fun r6=>Sum.elim (fun v5=>bif room (List.length v5.1+List.length ([(v3.2.1,(x2.2.1,()))]:List (D129))) 16 then some (.inl (lapp v5.1 ([(v3.2.1,(x2.2.1,()))]:List (D129)),(v5.2.1,(iAdd .i64 v1.2.2.1 (1:Int),())))) else none) some r6) some r4 else some (.inr (.inl (v1.1,(v1.2.1,(v1.2.2.1,())))))
noncomputable def F189:((List D129×Unit)×((Int×Unit)×((Int×Unit)×Unit)))→Option (((List D129×Unit)×Unit)):=fun x0=>(loopF (F189.b0 x0) (([]:List (D129)),(false,((0:Int),())))).bind fun r8=>Sum.elim (fun v7=>Option.bind (bif (!v7.2.1) then bif room (List.length v7.1+List.length ([(x0.2.1.1,(x0.2.2.1.1,()))]:List (D129))) 16 then some (.inl (lapp v7.1 ([(x0.2.1.1,(x0.2.2.1.1,()))]:List (D129)),())) else none else some (.inl (v7.1,()))) fun r10=>Sum.elim (fun v9=>some ((v9.1,()),())) some r10) some r8
noncomputable def c189:Con:=⟨i189,o189,F189⟩
def i276:List Grp:= [⟨.agg,e36,[]⟩]
def o276:List Grp:= [⟨.agg,e36,[.sh,(.own [])]⟩]
noncomputable def c276:Con:=⟨i276,o276,F25⟩
def i122:List Grp:= [⟨.agg,e36,[]⟩,⟨.agg,e232,[]⟩,⟨.c,(.cons (.int .i64) .nil),[]⟩]
def o122:List Grp:= [⟨.agg,e36,[.sh,(.own [])]⟩]
noncomputable def F122:(D36×(D232×((Int×Unit)×Unit)))→Option ((D36×Unit)):=fun x0=>(F25 (x0.1,())).bind fun y1=>(getI y1.1.2.1 x0.2.2.1.1).bind fun _=>(getN y1.1.2.1 (Int.toNat x0.2.2.1.1)).bind fun x2=>(getN y1.1.2.1 (Int.toNat x0.2.2.1.1)).bind fun x3=>(some (List.set y1.1.2.1 (Int.toNat x0.2.2.1.1) (x3.1,(x3.2.1,(iAdd .i64 x2.2.2.1 (1:Int),x3.2.2.2))))).bind fun z4=>Option.bind (bif iEq x0.2.1.1 (1:Int) then (getN z4 (Int.toNat x0.2.2.1.1)).bind fun x5=>(getN z4 (Int.toNat x0.2.2.1.1)).bind fun x6=>(some (List.set z4 (Int.toNat x0.2.2.1.1) (x6.1,(iSub .i64 x5.2.1 x0.2.1.2.2.2.1,x6.2.2)))).bind fun z7=>(F188 ((z7,()),((x0.2.1.2.2.1,()),()))).bind fun y8=>(F121 (y8.1,((x0.2.1.2.2.1,()),()))).bind fun y9=>(getI y8.1.1 y9.1.1).bind fun _=>(getN y8.1.1 (Int.toNat y9.1.1)).bind fun x10=>(getI y8.1.1 y9.1.1).bind fun _=>(getN y8.1.1 (Int.toNat y9.1.1)).bind fun x11=>(some (List.set y8.1.1 (Int.toNat y9.1.1) (x11.1,(iAdd .i64 x10.2.1 x0.2.1.2.2.2.1,x11.2.2)))).bind fun z12=>some (.inl (z12,())) else bif iEq x0.2.1.1 (2:Int) then (getN z4 (Int.toNat x0.2.2.1.1)).bind fun x13=>(getN z4 (Int.toNat x0.2.2.1.1)).bind fun x14=>(some (List.set z4 (Int.toNat x0.2.2.1.1) (x14.1,(iSub .i64 x13.2.1 x0.2.1.2.2.2.1,x14.2.2)))).bind fun z15=>(getN z15 (Int.toNat x0.2.2.1.1)).bind fun x16=>(getN z15 (Int.toNat x0.2.2.1.1)).bind fun x17=>(some (List.set z15 (Int.toNat x0.2.2.1.1) (x17.1,(x17.2.1,(x17.2.2.1,(iAdd .i64 x16.2.2.2.1 x0.2.1.2.2.2.1,x17.2.2.2.2)))))).bind fun z18=>some (.inl (z18,())) else (getN z4 (Int.toNat x0.2.2.1.1)).bind fun x19=>(getN z4 (Int.toNat x0.2.2.1.1)).bind fun x20=>(some (List.set z4 (Int.toNat x0.2.2.1.1) (x20.1,(x20.2.1,(x20.2.2.1,(iSub .i64 x19.2.2.2.1 x0.2.1.2.2.2.1,x20.2.2.2.2)))))).bind fun z21=>(getN z21 (Int.toNat x0.2.2.1.1)).bind fun x22=>(F189 ((x22.2.2.2.2.1,()),((x0.2.1.2.2.2.1,()),((iAdd .i64 x0.1.1 (2:Int),()),())))).bind fun y23=>(getN z21 (Int.toNat x0.2.2.1.1)).bind fun x24=>(some (List.set z21 (Int.toNat x0.2.2.1.1) (x24.1,(x24.2.1,(x24.2.2.1,(x24.2.2.2.1,(y23.1.1,()))))))).bind fun z25=>some (.inl (z25,()))) fun r27=>Sum.elim (fun v26=>some ((y1.1.1,(v26.1,())),())) some r27
noncomputable def c122:Con:=⟨i122,o122,F122⟩
def i67:List Grp:= [⟨.agg,e36,[]⟩,⟨.agg,e232,[]⟩]
def o67:List Grp:= [⟨.agg,e36,[]⟩,⟨.c,(.cons (.int .i64) .nil),[]⟩]
noncomputable def F67:(D36×(D232×Unit))→Option ((D36×((Int×Unit)×Unit))):=fun x0=>(F25 (x0.1,())).bind fun y1=>(F68 (x0.1,())).bind fun y2=>bif (!y2.1.1) then some (y1.1,(((1:Int),()),())) else (F120 (x0.2.1,())).bind fun y3=>bif (!y3.1.1) then some (y1.1,(((1:Int),()),())) else (F121 ((x0.1.2.1,()),((x0.2.1.2.1,()),()))).bind fun y4=>bif iLt y4.1.1 (0:Int) then some (y1.1,(((2:Int),()),())) else (getI x0.1.2.1 y4.1.1).bind fun x5=>Option.bind (bif iEq x0.2.1.1 (3:Int) then some (.inl (x5.2.2.2.1,())) else some (.inl (x5.2.1,()))) fun r7=>Sum.elim (fun v6=>bif !iEq x5.2.2.1 x0.2.1.2.2.2.2.1 then some (y1.1,(((3:Int),()),())) else bif iLt v6.1 x0.2.1.2.2.2.1 then some (y1.1,(((4:Int),()),())) else (F122 (x0.1,(x0.2.1,(y4.1,())))).bind fun y8=>(F68 (y8.1,())).bind fun y9=>bif (!y9.1.1) then some (y1.1,(((5:Int),()),())) else some (y8.1,(((0:Int),()),()))) some r7
noncomputable def c67:Con:=⟨i67,o67,F67⟩
def i27:List Grp:= [⟨.agg,e36,[]⟩,⟨.c,(.cons (.sl e122) .nil),[]⟩]
def o27:List Grp:= [⟨.agg,e36,[]⟩,⟨.c,(.cons (.int .i64) .nil),[]⟩]
noncomputable def F27.b0 (x0:(D36×((List D122×Unit)×Unit))):(v2:(Int×(Int×(Int×(List (D127)×Unit)))))→Option (Sum (Int×(Int×(Int×(List (D127)×Unit)))) (Sum (Int×(Int×(Int×(List (D127)×Unit)))) ((D36×((Int×Unit)×Unit))))):=fun v2=>bif iLt v2.2.1 (List.length x0.2.1.1:Int) then (getI x0.2.1.1 v2.2.1).bind fun x3=>(F67 ((v2.2.2.1,(v2.2.2.2.1,())),(x3,()))).bind fun y4=>bif iEq y4.2.1.1 (0:Int) then some (.inl (iAdd .i64 v2.1 (1:Int),(iAdd .i64 v2.2.1 (1:Int),(y4.1.1,(y4.1.2.1,()))))) else some (.inl (v2.1,(iAdd .i64 v2.2.1 (1:Int),(v2.2.2.1,(v2.2.2.2.1,()))))) else some (.inr (.inl (v2.1,(v2.2.1,(v2.2.2.1,(v2.2.2.2.1,()))))))
noncomputable def F27:(D36×((List D122×Unit)×Unit))→Option ((D36×((Int×Unit)×Unit))):=fun x0=>(F25 (x0.1,())).bind fun y1=>(loopF (F27.b0 x0) ((0:Int),((0:Int),(y1.1.1,(y1.1.2.1,()))))).bind fun r6=>Sum.elim (fun v5=>some ((v5.2.2.1,(v5.2.2.2.1,())),((v5.1,()),()))) some r6
noncomputable def c27:Con:=⟨i27,o27,F27⟩
def i28:List Grp:= [⟨.agg,e36,[]⟩]
def o28:List Grp:= [⟨.agg,e36,[.sh,(.own [])]⟩]
noncomputable def F28.b1 (v3:(Int×(List (D127)×Unit))) (x0:(D36×Unit)):(v4:(List (D129)×(Int×(List (D127)×Unit))))→Option (Sum (List (D129)×(Int×(List (D127)×Unit))) (Sum (List (D129)×(Int×(List (D127)×Unit))) (Sum (Int×(List (D127)×Unit)) (Sum (Int×(List (D127)×Unit)) ((D36×Unit)))))):=fun v4=>(getN v4.2.2.1 (Int.toNat v3.1)).bind fun x5=>bif iLt v4.2.1 (List.length x5.2.2.2.2.1:Int) then (getN v4.2.2.1 (Int.toNat v3.1)).bind fun x6=>(getI x6.2.2.2.2.1 v4.2.1).bind fun x7=>bif iLe x7.2.1 (iAdd .i64 x0.1.1 (1:Int)) then (getN v4.2.2.1 (Int.toNat v3.1)).bind fun x8=>(getN v4.2.2.1 (Int.toNat v3.1)).bind fun x9=>(getI x9.2.2.2.2.1 v4.2.1).bind fun x10=>(getN v4.2.2.1 (Int.toNat v3.1)).bind fun x11=>(some (List.set v4.2.2.1 (Int.toNat v3.1) (x11.1,(iAdd .i64 x8.2.1 x10.1,x11.2.2)))).bind fun z12=>some (.inl (v4.1,(iAdd .i64 v4.2.1 (1:Int),(z12,())))) else (getN v4.2.2.1 (Int.toNat v3.1)).bind fun x13=>(getI x13.2.2.2.2.1 v4.2.1).bind fun x14=>bif room (List.length v4.1+List.length ([x14]:List (D129))) 16 then some (.inl (lapp v4.1 ([x14]:List (D129)),(iAdd .i64 v4.2.1 (1:Int),(v4.2.2.1,())))) else none else some (.inr (.inl (v4.1,(v4.2.1,(v4.2.2.1,())))))
noncomputable def F28.b0 (x0:(D36×Unit)):(v3:(Int×(List (D127)×Unit)))→Option (Sum (Int×(List (D127)×Unit)) (Sum (Int×(List (D127)×Unit)) ((D36×Unit)))):=fun v3=>bif iLt v3.1 (List.length v3.2.1:Int) then (getI v3.2.1 v3.1).bind fun _=>(loopF (F28.b1 v3 x0) (([]:List (D129)),((0:Int),(v3.2.1,())))).bind fun r16=>Sum.elim (fun v15=>(getN v15.2.2.1 (Int.toNat v3.1)).bind fun x17=>(some (List.set v15.2.2.1 (Int.toNat v3.1) (x17.1,(x17.2.1,(x17.2.2.1,(x17.2.2.2.1,(v15.1,()))))))).bind fun z18=>some (.inl (iAdd .i64 v3.1 (1:Int),(z18,())))) some r16 else some (.inr (.inl (v3.1,(v3.2.1,()))))
noncomputable def F28:(D36×Unit)→Option ((D36×Unit)):=fun x0=>(F25 (x0.1,())).bind fun y1=>(F68 (x0.1,())).bind fun y2=>bif (!y2.1.1) then some (y1.1,()) else (loopF (F28.b0 x0) ((0:Int),(y1.1.2.1,()))).bind fun r20=>Sum.elim (fun v19=>(F68 ((iAdd .i64 x0.1.1 (1:Int),(v19.2.1,())),())).bind fun y21=>bif (!y21.1.1) then (F25 (x0.1,())).bind fun y22=>some (y22.1,()) else some ((iAdd .i64 x0.1.1 (1:Int),(v19.2.1,())),())) some r20
noncomputable def c28:Con:=⟨i28,o28,F28⟩
def i6:List Grp:= [⟨.agg,e44,[]⟩,⟨.c,(.cons (.sl e3) .nil),[]⟩]
def o6:List Grp:= [⟨.agg,e36,[]⟩,⟨.c,(.cons .bool .nil),[]⟩]
noncomputable def F6.b0 (x0:(D44×((List D3×Unit)×Unit))):(v2:(Int×(Int×(List (D127)×Unit))))→Option (Sum (Int×(Int×(List (D127)×Unit))) (Sum (Int×(Int×(List (D127)×Unit))) ((D36×((Bool×Unit)×Unit))))):=fun v2=>bif iLt v2.1 (List.length x0.2.1.1:Int) then (getI x0.2.1.1 v2.1).bind fun x3=>(F26 (x3,(((0:Int),()),((iSub .i64 (List.length x0.1.2.2.2.2.1:Int) (1:Int),()),())))).bind fun y4=>bif (!y4.1.1) then (F25 ((x0.1.1,(x0.1.2.1,())),())).bind fun y5=>some (.inr (.inr (y5.1,((false,()),())))) else (getI x0.2.1.1 v2.1).bind fun x6=>(getI x0.1.2.2.2.2.1 x6.1).bind fun x7=>(F27 ((v2.2.1,(v2.2.2.1,())),((x7.2.2.2.2.2.2.2.2.2.2.1,()),()))).bind fun y8=>bif x7.2.2.2.2.2.2.2.2.2.2.2.1 then (F28 (y8.1,())).bind fun y9=>some (.inl (iAdd .i64 v2.1 (1:Int),(y9.1.1,(y9.1.2.1,())))) else some (.inl (iAdd .i64 v2.1 (1:Int),(y8.1.1,(y8.1.2.1,())))) else some (.inr (.inl (v2.1,(v2.2.1,(v2.2.2.1,())))))
noncomputable def F6:(D44×((List D3×Unit)×Unit))→Option ((D36×((Bool×Unit)×Unit))):=fun x0=>(F25 ((x0.1.1,(x0.1.2.1,())),())).bind fun y1=>(loopF (F6.b0 x0) ((0:Int),(y1.1.1,(y1.1.2.1,())))).bind fun r11=>Sum.elim (fun v10=>some ((v10.2.1,(v10.2.2.1,())),((true,()),()))) some r11
noncomputable def c6:Con:=⟨i6,o6,F6⟩
def i162:List Grp:= [⟨.agg,e127,[]⟩,⟨.agg,e127,[]⟩]
def o162:List Grp:= [⟨.c,(.cons .bool .nil),[]⟩]
noncomputable def F162.b0 (x0:(D127×(D127×Unit))):(v1:(Int×Unit))→Option (Sum (Int×Unit) (Sum (Int×Unit) (((Bool×Unit)×Unit)))):=fun v1=>bif iLt v1.1 (List.length x0.1.2.2.2.2.1:Int) then (getI x0.1.2.2.2.2.1 v1.1).bind fun x2=>(getI x0.2.1.2.2.2.2.1 v1.1).bind fun x3=>bif !((iEq x2.1 x3.1)&&(iEq x2.2.1 x3.2.1)) then some (.inr (.inr ((false,()),()))) else some (.inl (iAdd .i64 v1.1 (1:Int),())) else some (.inr (.inl (v1.1,())))
noncomputable def F162:(D127×(D127×Unit))→Option (((Bool×Unit)×Unit)):=fun x0=>bif !sEq x0.1.1 x0.2.1.1 then some ((false,()),()) else bif !iEq x0.1.2.1 x0.2.1.2.1 then some ((false,()),()) else bif !iEq x0.1.2.2.1 x0.2.1.2.2.1 then some ((false,()),()) else bif !iEq x0.1.2.2.2.1 x0.2.1.2.2.2.1 then some ((false,()),()) else bif !iEq (List.length x0.1.2.2.2.2.1:Int) (List.length x0.2.1.2.2.2.2.1:Int) then some ((false,()),()) else (loopF (F162.b0 x0) ((0:Int),())).bind fun r5=>Sum.elim (fun v4=>some ((true,()),())) some r5
noncomputable def c162:Con:=⟨i162,o162,F162⟩
def i98:List Grp:= [⟨.agg,e36,[]⟩,⟨.agg,e36,[]⟩]
def o98:List Grp:= [⟨.c,(.cons .bool .nil),[]⟩]
noncomputable def F98.b0 (x0:(D36×(D36×Unit))):(v1:(Int×Unit))→Option (Sum (Int×Unit) (Sum (Int×Unit) (((Bool×Unit)×Unit)))):=fun v1=>bif iLt v1.1 (List.length x0.1.2.1:Int) then (getI x0.1.2.1 v1.1).bind fun x2=>(getI x0.2.1.2.1 v1.1).bind fun x3=>(F162 (x2,(x3,()))).bind fun y4=>bif (!y4.1.1) then some (.inr (.inr ((false,()),()))) else some (.inl (iAdd .i64 v1.1 (1:Int),())) else some (.inr (.inl (v1.1,())))
noncomputable def F98:(D36×(D36×Unit))→Option (((Bool×Unit)×Unit)):=fun x0=>bif !iEq x0.1.1 x0.2.1.1 then some ((false,()),()) else bif !iEq (List.length x0.1.2.1:Int) (List.length x0.2.1.2.1:Int) then some ((false,()),()) else (loopF (F98.b0 x0) ((0:Int),())).bind fun r6=>Sum.elim (fun v5=>some ((true,()),())) some r6
noncomputable def c98:Con:=⟨i98,o98,F98⟩
def i55:List Grp:= [⟨.agg,e44,[]⟩]
def o55:List Grp:= [⟨.c,(.cons .bool .nil),[]⟩]
noncomputable def F55.b0 (x0:(D44×Unit)):(v1:(Int×Unit))→Option (Sum (Int×Unit) (Sum (Int×Unit) (((Bool×Unit)×Unit)))):=fun v1=>bif iLt v1.1 (List.length x0.1.2.2.2.1:Int) then (getI x0.1.2.2.2.1 v1.1).bind fun x2=>(F97 (x0.1,((x2.2.2.2.2.2.2.2.2.2.2.2.2.2.2.2.2.2.1,()),()))).bind fun y3=>bif cutHi y3.1.1 (List.length x2.2.2.2.2.2.2.2.2.2.2.2.2.2.2.2.2.2.1) then (F6 (x0.1,((List.take ((Int.toNat y3.1.1) - 0) (List.drop 0 x2.2.2.2.2.2.2.2.2.2.2.2.2.2.2.2.2.2.1),()),()))).bind fun y4=>bif (!y4.2.1.1) then some (.inr (.inr ((false,()),()))) else (F98 (y4.1,((x2.2.2.1,(x2.2.2.2.1,())),()))).bind fun y5=>bif (!y5.1.1) then some (.inr (.inr ((false,()),()))) else some (.inl (iAdd .i64 v1.1 (1:Int),())) else none else some (.inr (.inl (v1.1,())))
noncomputable def F55:(D44×Unit)→Option (((Bool×Unit)×Unit)):=fun x0=>(loopF (F55.b0 x0) ((0:Int),())).bind fun r7=>Sum.elim (fun v6=>some ((true,()),())) some r7
noncomputable def c55:Con:=⟨i55,o55,F55⟩
def i17:List Grp:= [⟨.agg,e44,[]⟩]
def o17:List Grp:= [⟨.c,(.cons (.int .i64) .nil),[]⟩]
noncomputable def F17:(D44×Unit)→Option (((Int×Unit)×Unit)):=fun x0=>(F52 (x0.1,())).bind fun y1=>bif (!y1.1.1) then some (((1:Int),()),()) else (F53 (x0.1,())).bind fun y2=>bif (!y2.1.1) then some (((2:Int),()),()) else (F54 (x0.1,())).bind fun y3=>bif (!y3.1.1) then some (((3:Int),()),()) else (F55 (x0.1,())).bind fun y4=>bif (!y4.1.1) then some (((4:Int),()),()) else some (((0:Int),()),())
noncomputable def c17:Con:=⟨i17,o17,F17⟩
def i36:List Grp:= [⟨.c,(.cons (.int .i64) .nil),[]⟩,⟨.c,(.cons (.int .i64) .nil),[]⟩,⟨.c,(.cons (.int .i64) .nil),[]⟩]
def o36:List Grp:= [⟨.c,(.cons .bool .nil),[]⟩]
noncomputable def F36:((Int×Unit)×((Int×Unit)×((Int×Unit)×Unit)))→Option (((Bool×Unit)×Unit)):=fun x0=>bif iLe x0.2.1.1 x0.1.1 then some ((iLe x0.1.1 x0.2.2.1.1,()),()) else some ((false,()),())
noncomputable def c36:Con:=⟨i36,o36,F36⟩
def i163:List Grp:= [⟨.c,(.cons .str .nil),[]⟩]
def o163:List Grp:= [⟨.c,(.cons .bool .nil),[]⟩]
noncomputable def F163.b0 (x0:((ByteArray×Unit)×Unit)):(v1:(Int×Unit))→Option (Sum (Int×Unit) (Sum (Int×Unit) (((Bool×Unit)×Unit)))):=fun v1=>bif iLt v1.1 (ByteArray.size x0.1.1:Int) then (getI (ByteArray.data x0.1.1).toList v1.1).bind fun b2=>bif iLe (97:Int) (UInt8.toNat b2:Int) then (getI (ByteArray.data x0.1.1).toList v1.1).bind fun b3=>bif iLe (UInt8.toNat b3:Int) (122:Int) then some (.inl (iAdd .i64 v1.1 (1:Int),())) else (getI (ByteArray.data x0.1.1).toList v1.1).bind fun b4=>bif iLe (48:Int) (UInt8.toNat b4:Int) then (getI (ByteArray.data x0.1.1).toList v1.1).bind fun b5=>bif (!(iLe (UInt8.toNat b5:Int) (57:Int))) then some (.inr (.inr ((false,()),()))) else some (.inl (iAdd .i64 v1.1 (1:Int),())) else some (.inr (.inr ((false,()),()))) else (getI (ByteArray.data x0.1.1).toList v1.1).bind fun b6=>bif iLe (48:Int) (UInt8.toNat b6:Int) then (getI (ByteArray.data x0.1.1).toList v1.1).bind fun b7=>bif (!(iLe (UInt8.toNat b7:Int) (57:Int))) then some (.inr (.inr ((false,()),()))) else some (.inl (iAdd .i64 v1.1 (1:Int),())) else some (.inr (.inr ((false,()),()))) else some (.inr (.inl (v1.1,())))
noncomputable def F163:((ByteArray×Unit)×Unit)→Option (((Bool×Unit)×Unit)):=fun x0=>(loopF (F163.b0 x0) ((0:Int),())).bind fun r9=>Sum.elim (fun v8=>(F36 (((ByteArray.size x0.1.1:Int),()),(((1:Int),()),(((8:Int),()),())))).bind fun y10=>some (y10.1,())) some r9
noncomputable def c163:Con:=⟨i163,o163,F163⟩
def i226:List Grp:= [⟨.c,(.cons (.int .i64) .nil),[]⟩]
def o226:List Grp:= [⟨.c,(.cons .bool .nil),[]⟩]
noncomputable def F226:((Int×Unit)×Unit)→Option (((Bool×Unit)×Unit)):=fun x0=>(F36 (x0.1,(((0:Int),()),(((1000000:Int),()),())))).bind fun y1=>some (y1.1,())
noncomputable def c226:Con:=⟨i226,o226,F226⟩
def i200:List Grp:= [⟨.agg,e127,[]⟩]
def o200:List Grp:= [⟨.c,(.cons .bool .nil),[]⟩]
noncomputable def F200.b0 (x0:(D127×Unit)):(v1:(Int×Unit))→Option (Sum (Int×Unit) (Sum (Int×Unit) (((Bool×Unit)×Unit)))):=fun v1=>bif iLt v1.1 (List.length x0.1.2.2.2.2.1:Int) then (getI x0.1.2.2.2.2.1 v1.1).bind fun x2=>(F36 ((x2.1,()),(((1:Int),()),(((1000000:Int),()),())))).bind fun y3=>bif (!y3.1.1) then some (.inr (.inr ((false,()),()))) else (F36 ((x2.2.1,()),(((0:Int),()),(((1000:Int),()),())))).bind fun y4=>bif (!y4.1.1) then some (.inr (.inr ((false,()),()))) else bif iLt (0:Int) v1.1 then (getI x0.1.2.2.2.2.1 (iSub .i64 v1.1 (1:Int))).bind fun x5=>bif iLe x2.2.1 x5.2.1 then some (.inr (.inr ((false,()),()))) else some (.inl (iAdd .i64 v1.1 (1:Int),())) else some (.inl (iAdd .i64 v1.1 (1:Int),())) else some (.inr (.inl (v1.1,())))
noncomputable def F200:(D127×Unit)→Option (((Bool×Unit)×Unit)):=fun x0=>(loopF (F200.b0 x0) ((0:Int),())).bind fun r7=>Sum.elim (fun v6=>(F163 ((x0.1.1,()),())).bind fun y8=>bif y8.1.1 then (F226 ((x0.1.2.1,()),())).bind fun y9=>bif y9.1.1 then (F226 ((x0.1.2.2.2.1,()),())).bind fun y10=>bif y10.1.1 then (F36 ((x0.1.2.2.1,()),(((0:Int),()),(((10000:Int),()),())))).bind fun y11=>bif y11.1.1 then some ((iLe (List.length x0.1.2.2.2.2.1:Int) (4:Int),()),()) else some ((false,()),()) else some ((false,()),()) else some ((false,()),()) else some ((false,()),())) some r7
noncomputable def c200:Con:=⟨i200,o200,F200⟩
def i201:List Grp:= [⟨.c,(.cons (.sl e127) .nil),[]⟩]
def o201:List Grp:= [⟨.c,(.cons (.int .i64) .nil),[]⟩]
noncomputable def F201.b1 (x2:D127):(v3:(Int×(Int×Unit)))→Option (Sum (Int×(Int×Unit)) (Sum (Int×(Int×Unit)) (Sum (Int×(Int×Unit)) (Sum (Int×(Int×Unit)) (((Int×Unit)×Unit)))))):=fun v3=>bif iLt v3.2.1 (List.length x2.2.2.2.2.1:Int) then (getI x2.2.2.2.2.1 v3.2.1).bind fun x4=>some (.inl (iAdd .i64 v3.1 x4.1,(iAdd .i64 v3.2.1 (1:Int),()))) else some (.inr (.inl (v3.1,(v3.2.1,()))))
noncomputable def F201.b0 (x0:((List D127×Unit)×Unit)):(v1:(Int×(Int×Unit)))→Option (Sum (Int×(Int×Unit)) (Sum (Int×(Int×Unit)) (((Int×Unit)×Unit)))):=fun v1=>bif iLt v1.2.1 (List.length x0.1.1:Int) then (getI x0.1.1 v1.2.1).bind fun x2=>(loopF (F201.b1 x2) (iAdd .i64 v1.1 (iAdd .i64 x2.2.1 x2.2.2.2.1),((0:Int),()))).bind fun r6=>Sum.elim (fun v5=>some (.inl (v5.1,(iAdd .i64 v1.2.1 (1:Int),())))) some r6 else some (.inr (.inl (v1.1,(v1.2.1,()))))
noncomputable def F201:((List D127×Unit)×Unit)→Option (((Int×Unit)×Unit)):=fun x0=>(loopF (F201.b0 x0) ((0:Int),((0:Int),()))).bind fun r8=>Sum.elim (fun v7=>some ((v7.1,()),())) some r8
noncomputable def c201:Con:=⟨i201,o201,F201⟩
def i139:List Grp:= [⟨.c,(.cons (.sl e127) .nil),[]⟩]
def o139:List Grp:= [⟨.c,(.cons .bool .nil),[]⟩]
noncomputable def F139.b0 (x0:((List D127×Unit)×Unit)):(v1:(Int×Unit))→Option (Sum (Int×Unit) (Sum (Int×Unit) (((Bool×Unit)×Unit)))):=fun v1=>bif iLt v1.1 (List.length x0.1.1:Int) then (getI x0.1.1 v1.1).bind fun x2=>(F200 (x2,())).bind fun y3=>bif (!y3.1.1) then some (.inr (.inr ((false,()),()))) else bif iLt (0:Int) v1.1 then (getI x0.1.1 (iSub .i64 v1.1 (1:Int))).bind fun x4=>bif sLt x2.1 x4.1||sEq x2.1 x4.1 then some (.inr (.inr ((false,()),()))) else some (.inl (iAdd .i64 v1.1 (1:Int),())) else some (.inl (iAdd .i64 v1.1 (1:Int),())) else some (.inr (.inl (v1.1,())))
noncomputable def F139:((List D127×Unit)×Unit)→Option (((Bool×Unit)×Unit)):=fun x0=>(loopF (F139.b0 x0) ((0:Int),())).bind fun r6=>Sum.elim (fun v5=>bif iLe (List.length x0.1.1:Int) (12:Int) then (F201 (x0.1,())).bind fun y7=>some ((iLe y7.1.1 (1000000:Int),()),()) else some ((false,()),())) some r6
noncomputable def c139:Con:=⟨i139,o139,F139⟩
def i76:List Grp:= [⟨.agg,e36,[]⟩]
def o76:List Grp:= [⟨.c,(.cons .bool .nil),[]⟩]
noncomputable def F76:(D36×Unit)→Option (((Bool×Unit)×Unit)):=fun x0=>(F36 ((x0.1.1,()),(((0:Int),()),(((900:Int),()),())))).bind fun y1=>bif y1.1.1 then (F139 ((x0.1.2.1,()),())).bind fun y2=>some (y2.1,()) else some ((false,()),())
noncomputable def c76:Con:=⟨i76,o76,F76⟩
def i99:List Grp:= [⟨.c,(.cons (.sl e9) .nil),[]⟩]
def o99:List Grp:= [⟨.c,(.cons .bool .nil),[]⟩]
noncomputable def F99.b0 (x0:((List D9×Unit)×Unit)):(v1:(Int×Unit))→Option (Sum (Int×Unit) (Sum (Int×Unit) (((Bool×Unit)×Unit)))):=fun v1=>bif iLt v1.1 (List.length x0.1.1:Int) then (getI x0.1.1 v1.1).bind fun x2=>(F163 (x2,())).bind fun y3=>bif (!y3.1.1) then some (.inr (.inr ((false,()),()))) else bif iLt (0:Int) v1.1 then (getI x0.1.1 (iSub .i64 v1.1 (1:Int))).bind fun x4=>bif sLt x2.1 x4.1||sEq x2.1 x4.1 then some (.inr (.inr ((false,()),()))) else some (.inl (iAdd .i64 v1.1 (1:Int),())) else some (.inl (iAdd .i64 v1.1 (1:Int),())) else some (.inr (.inl (v1.1,())))
noncomputable def F99:((List D9×Unit)×Unit)→Option (((Bool×Unit)×Unit)):=fun x0=>(loopF (F99.b0 x0) ((0:Int),())).bind fun r6=>Sum.elim (fun v5=>some ((iLe (List.length x0.1.1:Int) (20:Int),()),())) some r6
noncomputable def c99:Con:=⟨i99,o99,F99⟩
def i175:List Grp:= [⟨.agg,e98,[]⟩]
def o175:List Grp:= [⟨.c,(.cons .bool .nil),[]⟩]
noncomputable def F175:(D98×Unit)→Option (((Bool×Unit)×Unit)):=fun x0=>bif iEq x0.1.1 (0:Int) then bif iEq x0.1.2.1 (-1:Int) then some ((iEq (List.length x0.1.2.2.1:Int) (0:Int),()),()) else some ((false,()),()) else some ((false,()),())
noncomputable def c175:Con:=⟨i175,o175,F175⟩
def i164:List Grp:= [⟨.agg,e98,[]⟩,⟨.c,(.cons (.int .i64) .nil),[]⟩,⟨.c,(.cons (.int .i64) .nil),[]⟩]
def o164:List Grp:= [⟨.c,(.cons .bool .nil),[]⟩]
noncomputable def F164:(D98×((Int×Unit)×((Int×Unit)×Unit)))→Option (((Bool×Unit)×Unit)):=fun x0=>(F175 (x0.1,())).bind fun y1=>bif y1.1.1 then some ((true,()),()) else (F36 ((x0.1.1,()),(((1:Int),()),(x0.2.1,())))).bind fun y2=>bif y2.1.1 then (F36 ((x0.1.2.1,()),(((0:Int),()),(x0.2.2.1,())))).bind fun y3=>bif y3.1.1 then (F99 ((x0.1.2.2.1,()),())).bind fun y4=>some (y4.1,()) else some ((false,()),()) else some ((false,()),())
noncomputable def c164:Con:=⟨i164,o164,F164⟩
def i176:List Grp:= [⟨.agg,e99,[]⟩]
def o176:List Grp:= [⟨.c,(.cons .bool .nil),[]⟩]
noncomputable def F176:(D99×Unit)→Option (((Bool×Unit)×Unit)):=fun x0=>bif iEq x0.1.1 (0:Int) then bif iEq (List.length x0.1.2.1:Int) (0:Int) then some ((iEq (List.length x0.1.2.2.1:Int) (0:Int),()),()) else some ((false,()),()) else some ((false,()),())
noncomputable def c176:Con:=⟨i176,o176,F176⟩
def i165:List Grp:= [⟨.agg,e99,[]⟩,⟨.c,(.cons (.int .i64) .nil),[]⟩]
def o165:List Grp:= [⟨.c,(.cons .bool .nil),[]⟩]
noncomputable def F165.b0 (x0:(D99×((Int×Unit)×Unit))):(v2:(Int×Unit))→Option (Sum (Int×Unit) (Sum (Int×Unit) (((Bool×Unit)×Unit)))):=fun v2=>bif iLt v2.1 (List.length x0.1.2.2.1:Int) then (getI x0.1.2.2.1 v2.1).bind fun x3=>(F36 (x3,(((0:Int),()),((iSub .i64 x0.1.1 (1:Int),()),())))).bind fun y4=>bif (!y4.1.1) then some (.inr (.inr ((false,()),()))) else some (.inl (iAdd .i64 v2.1 (1:Int),())) else some (.inr (.inl (v2.1,())))
noncomputable def F165:(D99×((Int×Unit)×Unit))→Option (((Bool×Unit)×Unit)):=fun x0=>(F176 (x0.1,())).bind fun y1=>bif y1.1.1 then some ((true,()),()) else (loopF (F165.b0 x0) ((0:Int),())).bind fun r6=>Sum.elim (fun v5=>(F36 ((x0.1.1,()),(((1:Int),()),(x0.2.1,())))).bind fun y7=>bif y7.1.1 then (F99 ((x0.1.2.1,()),())).bind fun y8=>bif y8.1.1 then some ((iEq (List.length x0.1.2.2.1:Int) (List.length x0.1.2.1:Int),()),()) else some ((false,()),()) else some ((false,()),())) some r6
noncomputable def c165:Con:=⟨i165,o165,F165⟩
def i136:List Grp:= [⟨.agg,e232,[]⟩]
def o136:List Grp:= [⟨.c,(.cons .bool .nil),[]⟩]
noncomputable def F136:(D232×Unit)→Option (((Bool×Unit)×Unit)):=fun x0=>(F36 ((x0.1.1,()),(((1:Int),()),(((3:Int),()),())))).bind fun y1=>bif (!y1.1.1) then some ((false,()),()) else (F163 ((x0.1.2.1,()),())).bind fun y2=>bif (!y2.1.1) then some ((false,()),()) else (F36 ((x0.1.2.2.2.1,()),(((1:Int),()),(((1000000:Int),()),())))).bind fun y3=>bif (!y3.1.1) then some ((false,()),()) else (F36 ((x0.1.2.2.2.2.1,()),(((0:Int),()),(((10000:Int),()),())))).bind fun y4=>bif (!y4.1.1) then some ((false,()),()) else bif iEq x0.1.1 (1:Int) then (F163 ((x0.1.2.2.1,()),())).bind fun y5=>some (y5.1,()) else some ((sEq x0.1.2.2.1 ⟨#[]⟩,()),())
noncomputable def c136:Con:=⟨i136,o136,F136⟩
def i166:List Grp:= [⟨.c,(.cons (.sl e122) .nil),[]⟩]
def o166:List Grp:= [⟨.c,(.cons .bool .nil),[]⟩]
noncomputable def F166.b0 (x0:((List D122×Unit)×Unit)):(v1:(Int×Unit))→Option (Sum (Int×Unit) (Sum (Int×Unit) (((Bool×Unit)×Unit)))):=fun v1=>bif iLt v1.1 (List.length x0.1.1:Int) then (getI x0.1.1 v1.1).bind fun x2=>(F136 (x2,())).bind fun y3=>bif (!y3.1.1) then some (.inr (.inr ((false,()),()))) else some (.inl (iAdd .i64 v1.1 (1:Int),())) else some (.inr (.inl (v1.1,())))
noncomputable def F166:((List D122×Unit)×Unit)→Option (((Bool×Unit)×Unit)):=fun x0=>(loopF (F166.b0 x0) ((0:Int),())).bind fun r5=>Sum.elim (fun v4=>some ((true,()),())) some r5
noncomputable def c166:Con:=⟨i166,o166,F166⟩
def i167:List Grp:= [⟨.c,(.cons (.sl e209) .nil),[]⟩]
def o167:List Grp:= [⟨.c,(.cons .bool .nil),[]⟩]
noncomputable def F167.b0 (x0:((List D209×Unit)×Unit)):(v1:(Int×Unit))→Option (Sum (Int×Unit) (Sum (Int×Unit) (((Bool×Unit)×Unit)))):=fun v1=>bif iLt v1.1 (List.length x0.1.1:Int) then (getI x0.1.1 v1.1).bind fun x2=>(F163 ((x2.1,()),())).bind fun y3=>bif (!y3.1.1) then some (.inr (.inr ((false,()),()))) else (F36 ((x2.2.1,()),(((1:Int),()),(((1000000:Int),()),())))).bind fun y4=>bif (!y4.1.1) then some (.inr (.inr ((false,()),()))) else bif iLt (0:Int) v1.1 then (getI x0.1.1 (iSub .i64 v1.1 (1:Int))).bind fun x5=>bif sLt x2.1 x5.1||sEq x2.1 x5.1 then some (.inr (.inr ((false,()),()))) else some (.inl (iAdd .i64 v1.1 (1:Int),())) else some (.inl (iAdd .i64 v1.1 (1:Int),())) else some (.inr (.inl (v1.1,())))
noncomputable def F167:((List D209×Unit)×Unit)→Option (((Bool×Unit)×Unit)):=fun x0=>(loopF (F167.b0 x0) ((0:Int),())).bind fun r7=>Sum.elim (fun v6=>(F36 (((List.length x0.1.1:Int),()),(((1:Int),()),(((12:Int),()),())))).bind fun y8=>some (y8.1,())) some r7
noncomputable def c167:Con:=⟨i167,o167,F167⟩
def i100:List Grp:= [⟨.agg,e71,[]⟩]
def o100:List Grp:= [⟨.c,(.cons .bool .nil),[]⟩]
noncomputable def F100:(D71×Unit)→Option (((Bool×Unit)×Unit)):=fun x0=>(F36 ((x0.1.1,()),(((0:Int),()),(((100000:Int),()),())))).bind fun y1=>bif (!y1.1.1) then some ((false,()),()) else (F36 ((x0.1.2.1,()),(((0:Int),()),(((900:Int),()),())))).bind fun y2=>bif (!y2.1.1) then some ((false,()),()) else (F36 ((x0.1.2.2.1,()),(((1:Int),()),(((10000:Int),()),())))).bind fun y3=>bif (!y3.1.1) then some ((false,()),()) else (F163 ((x0.1.2.2.2.1,()),())).bind fun y4=>bif (!y4.1.1) then some ((false,()),()) else (F164 ((x0.1.2.2.2.2.1,(x0.1.2.2.2.2.2.1,(x0.1.2.2.2.2.2.2.1,()))),((iSub .i64 x0.1.2.2.1 (1:Int),()),((iSub .i64 x0.1.1 (1:Int),()),())))).bind fun y5=>bif (!y5.1.1) then some ((false,()),()) else (F165 ((x0.1.2.2.2.2.2.2.2.1,(x0.1.2.2.2.2.2.2.2.2.1,(x0.1.2.2.2.2.2.2.2.2.2.1,()))),((iSub .i64 x0.1.2.2.1 (1:Int),()),()))).bind fun y6=>bif (!y6.1.1) then some ((false,()),()) else bif iLt (4:Int) (List.length x0.1.2.2.2.2.2.2.2.2.2.2.1:Int) then some ((false,()),()) else (F166 ((x0.1.2.2.2.2.2.2.2.2.2.2.1,()),())).bind fun y7=>bif (!y7.1.1) then some ((false,()),()) else bif (!x0.1.2.2.2.2.2.2.2.2.2.2.2.1) then bif iEq (List.length x0.1.2.2.2.2.2.2.2.2.2.2.2.2.1:Int) (0:Int) then some ((sEq x0.1.2.2.2.2.2.2.2.2.2.2.2.2.2.1 ⟨#[]⟩,()),()) else some ((false,()),()) else (F167 ((x0.1.2.2.2.2.2.2.2.2.2.2.2.2.1,()),())).bind fun y8=>bif y8.1.1 then some ((iEq (ByteArray.size x0.1.2.2.2.2.2.2.2.2.2.2.2.2.2.1:Int) (32:Int),()),()) else some ((false,()),())
noncomputable def c100:Con:=⟨i100,o100,F100⟩
def i253:List Grp:= [⟨.c,(.cons .str .nil),[]⟩]
def o253:List Grp:= [⟨.c,(.cons .bool .nil),[]⟩]
noncomputable def F253:((ByteArray×Unit)×Unit)→Option (((Bool×Unit)×Unit)):=fun x0=>some ((!sEq x0.1.1 x0.1.1,()),())
noncomputable def c253:Con:=⟨i253,o253,F253⟩
def i247:List Grp:= [⟨.c,(.cons .str .nil),[]⟩,⟨.c,(.cons .str .nil),[]⟩]
def o247:List Grp:= [⟨.c,(.cons (.int .i64) .nil),[]⟩]
noncomputable def F247:((ByteArray×Unit)×((ByteArray×Unit)×Unit))→Option (((Int×Unit)×Unit)):=fun x0=>(F253 (x0.1,())).bind fun y1=>(F253 (x0.2.1,())).bind fun y2=>bif y1.1.1 then bif y2.1.1 then some (((0:Int),()),()) else some (((-1:Int),()),()) else bif y2.1.1 then some (((1:Int),()),()) else bif sLt x0.1.1 x0.2.1.1 then some (((-1:Int),()),()) else bif !(sLt x0.1.1 x0.2.1.1||sEq x0.1.1 x0.2.1.1) then some (((1:Int),()),()) else some (((0:Int),()),())
noncomputable def c247:Con:=⟨i247,o247,F247⟩
def i254:List Grp:= [⟨.c,(.cons (.int .i64) .nil),[]⟩]
def o254:List Grp:= [⟨.c,(.cons .bool .nil),[]⟩]
noncomputable def F254:((Int×Unit)×Unit)→Option (((Bool×Unit)×Unit)):=fun x0=>some ((!iEq x0.1.1 x0.1.1,()),())
noncomputable def c254:Con:=⟨i254,o254,F254⟩
def i248:List Grp:= [⟨.c,(.cons (.int .i64) .nil),[]⟩,⟨.c,(.cons (.int .i64) .nil),[]⟩]
def o248:List Grp:= [⟨.c,(.cons (.int .i64) .nil),[]⟩]
noncomputable def F248:((Int×Unit)×((Int×Unit)×Unit))→Option (((Int×Unit)×Unit)):=fun x0=>(F254 (x0.1,())).bind fun y1=>(F254 (x0.2.1,())).bind fun y2=>bif y1.1.1 then bif y2.1.1 then some (((0:Int),()),()) else some (((-1:Int),()),()) else bif y2.1.1 then some (((1:Int),()),()) else bif iLt x0.1.1 x0.2.1.1 then some (((-1:Int),()),()) else bif iLt x0.2.1.1 x0.1.1 then some (((1:Int),()),()) else some (((0:Int),()),())
noncomputable def c248:Con:=⟨i248,o248,F248⟩
def i246:List Grp:= [⟨.c,(.cons (.sl e3) .nil),[]⟩]
def o246:List Grp:= [⟨.c,(.cons (.int .i64) .nil),[]⟩]
noncomputable def F246.b0 (x0:((List D3×Unit)×Unit)):(v1:(Int×Unit))→Option (Sum (Int×Unit) (Sum (Int×Unit) (((Int×Unit)×Unit)))):=fun v1=>bif iLt v1.1 (List.length x0.1.1:Int) then (getI x0.1.1 v1.1).bind fun x2=>bif !iEq x2.1 (0:Int) then some (.inr (.inr (x2,()))) else some (.inl (iAdd .i64 v1.1 (1:Int),())) else some (.inr (.inl (v1.1,())))
noncomputable def F246:((List D3×Unit)×Unit)→Option (((Int×Unit)×Unit)):=fun x0=>(loopF (F246.b0 x0) ((0:Int),())).bind fun r4=>Sum.elim (fun v3=>some (((0:Int),()),())) some r4
noncomputable def c246:Con:=⟨i246,o246,F246⟩
def i232:List Grp:= [⟨.agg,e232,[]⟩,⟨.agg,e232,[]⟩]
def o232:List Grp:= [⟨.c,(.cons (.int .i64) .nil),[]⟩]
noncomputable def F232:(D232×(D232×Unit))→Option (((Int×Unit)×Unit)):=fun x0=>(F247 ((x0.1.2.1,()),((x0.2.1.2.1,()),()))).bind fun y1=>(F248 ((x0.1.2.2.2.2.1,()),((x0.2.1.2.2.2.2.1,()),()))).bind fun y2=>(F248 ((x0.1.1,()),((x0.2.1.1,()),()))).bind fun y3=>(F247 ((x0.1.2.2.1,()),((x0.2.1.2.2.1,()),()))).bind fun y4=>(F248 ((x0.1.2.2.2.1,()),((x0.2.1.2.2.2.1,()),()))).bind fun y5=>(F246 ((([y1.1,y2.1,y3.1,y4.1,y5.1]:List (D3)),()),())).bind fun y6=>some (y6.1,())
noncomputable def c232:Con:=⟨i232,o232,F232⟩
def i214:List Grp:= [⟨.agg,e232,[]⟩,⟨.agg,e232,[]⟩]
def o214:List Grp:= [⟨.c,(.cons .bool .nil),[]⟩]
noncomputable def F214:(D232×(D232×Unit))→Option (((Bool×Unit)×Unit)):=fun x0=>(F232 (x0.1,(x0.2.1,()))).bind fun y1=>some ((iLt y1.1.1 (0:Int),()),())
noncomputable def c214:Con:=⟨i214,o214,F214⟩
def i168:List Grp:= [⟨.c,(.cons (.sl e122) .nil),[]⟩]
def o168:List Grp:= [⟨.c,(.cons .bool .nil),[]⟩]
noncomputable def F168.b0 (x0:((List D122×Unit)×Unit)):(v1:(Int×Unit))→Option (Sum (Int×Unit) (Sum (Int×Unit) (((Bool×Unit)×Unit)))):=fun v1=>bif iLt v1.1 (List.length x0.1.1:Int) then (getI x0.1.1 v1.1).bind fun x2=>(F136 (x2,())).bind fun y3=>bif (!y3.1.1) then some (.inr (.inr ((false,()),()))) else bif iLt (0:Int) v1.1 then (getI x0.1.1 (iSub .i64 v1.1 (1:Int))).bind fun x4=>(F214 (x4,(x2,()))).bind fun y5=>bif (!y5.1.1) then some (.inr (.inr ((false,()),()))) else some (.inl (iAdd .i64 v1.1 (1:Int),())) else some (.inl (iAdd .i64 v1.1 (1:Int),())) else some (.inr (.inl (v1.1,())))
noncomputable def F168:((List D122×Unit)×Unit)→Option (((Bool×Unit)×Unit)):=fun x0=>(loopF (F168.b0 x0) ((0:Int),())).bind fun r7=>Sum.elim (fun v6=>some ((iLe (List.length x0.1.1:Int) (20:Int),()),())) some r7
noncomputable def c168:Con:=⟨i168,o168,F168⟩
def i172:List Grp:= [⟨.c,(.cons (.sl e9) .nil),[]⟩,⟨.c,(.cons .str .nil),[]⟩]
def o172:List Grp:= [⟨.c,(.cons (.int .i64) .nil),[]⟩]
noncomputable def F172.b0 (x0:((List D9×Unit)×((ByteArray×Unit)×Unit))):(v1:(Int×Unit))→Option (Sum (Int×Unit) (Sum (Int×Unit) (((Int×Unit)×Unit)))):=fun v1=>bif iLt v1.1 (List.length x0.1.1:Int) then (getI x0.1.1 v1.1).bind fun x2=>bif sEq x0.2.1.1 x2.1 then some (.inr (.inr ((v1.1,()),()))) else some (.inl (iAdd .i64 v1.1 (1:Int),())) else some (.inr (.inl (v1.1,())))
noncomputable def F172:((List D9×Unit)×((ByteArray×Unit)×Unit))→Option (((Int×Unit)×Unit)):=fun x0=>(loopF (F172.b0 x0) ((0:Int),())).bind fun r4=>Sum.elim (fun v3=>some (((-1:Int),()),())) some r4
noncomputable def c172:Con:=⟨i172,o172,F172⟩
def i102:List Grp:= [⟨.c,(.cons (.sl e9) .nil),[]⟩,⟨.c,(.cons .str .nil),[]⟩]
def o102:List Grp:= [⟨.c,(.cons .bool .nil),[]⟩]
noncomputable def F102:((List D9×Unit)×((ByteArray×Unit)×Unit))→Option (((Bool×Unit)×Unit)):=fun x0=>(F172 (x0.1,(x0.2.1,()))).bind fun y1=>some ((iLe (0:Int) y1.1.1,()),())
noncomputable def c102:Con:=⟨i102,o102,F102⟩
def i233:List Grp:= [⟨.c,(.cons (.sl e209) .nil),[]⟩,⟨.c,(.cons (.sl e9) .nil),[]⟩]
def o233:List Grp:= [⟨.c,(.cons (.int .i64) .nil),[]⟩]
noncomputable def F233.b0 (x0:((List D209×Unit)×((List D9×Unit)×Unit))):(v1:(Int×(Int×Unit)))→Option (Sum (Int×(Int×Unit)) (Sum (Int×(Int×Unit)) (((Int×Unit)×Unit)))):=fun v1=>bif iLt v1.2.1 (List.length x0.1.1:Int) then (getI x0.1.1 v1.2.1).bind fun x2=>(F102 (x0.2.1,((x2.1,()),()))).bind fun y3=>bif y3.1.1 then some (.inl (iAdd .i64 v1.1 x2.2.1,(iAdd .i64 v1.2.1 (1:Int),()))) else some (.inl (v1.1,(iAdd .i64 v1.2.1 (1:Int),()))) else some (.inr (.inl (v1.1,(v1.2.1,()))))
noncomputable def F233:((List D209×Unit)×((List D9×Unit)×Unit))→Option (((Int×Unit)×Unit)):=fun x0=>(loopF (F233.b0 x0) ((0:Int),((0:Int),()))).bind fun r5=>Sum.elim (fun v4=>some ((v4.1,()),())) some r5
noncomputable def c233:Con:=⟨i233,o233,F233⟩
def i234:List Grp:= [⟨.c,(.cons (.sl e209) .nil),[]⟩]
def o234:List Grp:= [⟨.c,(.cons (.int .i64) .nil),[]⟩]
noncomputable def F234.b0 (x0:((List D209×Unit)×Unit)):(v1:(Int×(Int×Unit)))→Option (Sum (Int×(Int×Unit)) (Sum (Int×(Int×Unit)) (((Int×Unit)×Unit)))):=fun v1=>bif iLt v1.2.1 (List.length x0.1.1:Int) then (getI x0.1.1 v1.2.1).bind fun x2=>some (.inl (iAdd .i64 v1.1 x2.2.1,(iAdd .i64 v1.2.1 (1:Int),()))) else some (.inr (.inl (v1.1,(v1.2.1,()))))
noncomputable def F234:((List D209×Unit)×Unit)→Option (((Int×Unit)×Unit)):=fun x0=>(loopF (F234.b0 x0) ((0:Int),((0:Int),()))).bind fun r4=>Sum.elim (fun v3=>some ((v3.1,()),())) some r4
noncomputable def c234:Con:=⟨i234,o234,F234⟩
def i215:List Grp:= [⟨.c,(.cons (.sl e209) .nil),[]⟩,⟨.c,(.cons (.sl e9) .nil),[]⟩]
def o215:List Grp:= [⟨.c,(.cons .bool .nil),[]⟩]
noncomputable def F215:((List D209×Unit)×((List D9×Unit)×Unit))→Option (((Bool×Unit)×Unit)):=fun x0=>(F233 (x0.1,(x0.2.1,()))).bind fun y1=>(F234 (x0.1,())).bind fun y2=>some ((iLt (iMul .i64 (2:Int) y2.1.1) (iMul .i64 (3:Int) y1.1.1),()),())
noncomputable def c215:Con:=⟨i215,o215,F215⟩
def i255:List Grp:= [⟨.c,(.cons (.sl e209) .nil),[]⟩,⟨.c,(.cons (.fn [3] (.cons .str (.cons (.int .i64) .nil)) (.cons .bool .nil)) .nil),[]⟩]
def o255:List Grp:= [⟨.c,(.cons (.int .i64) .nil),[]⟩]
noncomputable def F255.b0 (x0:((List D209×Unit)×(((D230→Option (Bool×Unit))×Unit)×Unit))):(v1:(Int×Unit))→Option (Sum (Int×Unit) (Sum (Int×Unit) (((Int×Unit)×Unit)))):=fun v1=>bif iLt v1.1 (List.length x0.1.1:Int) then (getI x0.1.1 v1.1).bind fun x2=>(x0.2.1.1 x2).bind fun y3=>bif y3.1 then some (.inr (.inr ((v1.1,()),()))) else some (.inl (iAdd .i64 v1.1 (1:Int),())) else some (.inr (.inl (v1.1,())))
noncomputable def F255:((List D209×Unit)×(((D230→Option (Bool×Unit))×Unit)×Unit))→Option (((Int×Unit)×Unit)):=fun x0=>(loopF (F255.b0 x0) ((0:Int),())).bind fun r5=>Sum.elim (fun v4=>some (((-1:Int),()),())) some r5
noncomputable def c255:Con:=⟨i255,o255,F255⟩
def i249:List Grp:= [⟨.c,(.cons (.sl e209) .nil),[]⟩,⟨.c,(.cons (.fn [3] (.cons .str (.cons (.int .i64) .nil)) (.cons .bool .nil)) .nil),[]⟩]
def o249:List Grp:= [⟨.c,(.cons .bool .nil),[]⟩]
noncomputable def F249:((List D209×Unit)×(((D230→Option (Bool×Unit))×Unit)×Unit))→Option (((Bool×Unit)×Unit)):=fun x0=>(F255 (x0.1,(x0.2.1,()))).bind fun y1=>some ((iLe (0:Int) y1.1.1,()),())
noncomputable def c249:Con:=⟨i249,o249,F249⟩
def i250:List Grp:= [⟨.agg,e230,[]⟩,⟨.rp,(.cons .str .nil),[]⟩]
def o250:List Grp:= [⟨.c,(.cons .bool .nil),[]⟩]
noncomputable def F250:(D230×((ByteArray×Unit)×Unit))→Option (((Bool×Unit)×Unit)):=fun x0=>some ((sEq x0.1.1 x0.2.1.1,()),())
noncomputable def c250:Con:=⟨i250,o250,F250⟩
def i235:List Grp:= [⟨.c,(.cons (.sl e209) .nil),[]⟩,⟨.c,(.cons .str .nil),[]⟩]
def o235:List Grp:= [⟨.c,(.cons .bool .nil),[]⟩]
noncomputable def F235:((List D209×Unit)×((ByteArray×Unit)×Unit))→Option (((Bool×Unit)×Unit)):=fun x0=>(F249 (x0.1,(((fun p1=>(F250 ((p1.1,(p1.2.1,())),((x0.2.1.1,()),()))).bind fun y2=>some (y2.1.1,())),()),()))).bind fun y3=>some (y3.1,())
noncomputable def c235:Con:=⟨i235,o235,F235⟩
def i216:List Grp:= [⟨.c,(.cons (.sl e209) .nil),[]⟩,⟨.c,(.cons (.sl e9) .nil),[]⟩]
def o216:List Grp:= [⟨.c,(.cons .bool .nil),[]⟩]
noncomputable def F216.b0 (x0:((List D209×Unit)×((List D9×Unit)×Unit))):(v1:(Int×Unit))→Option (Sum (Int×Unit) (Sum (Int×Unit) (((Bool×Unit)×Unit)))):=fun v1=>bif iLt v1.1 (List.length x0.2.1.1:Int) then (getI x0.2.1.1 v1.1).bind fun x2=>(F235 (x0.1,(x2,()))).bind fun y3=>bif (!y3.1.1) then some (.inr (.inr ((false,()),()))) else some (.inl (iAdd .i64 v1.1 (1:Int),())) else some (.inr (.inl (v1.1,())))
noncomputable def F216:((List D209×Unit)×((List D9×Unit)×Unit))→Option (((Bool×Unit)×Unit)):=fun x0=>(loopF (F216.b0 x0) ((0:Int),())).bind fun r5=>Sum.elim (fun v4=>some ((true,()),())) some r5
noncomputable def c216:Con:=⟨i216,o216,F216⟩
def i169:List Grp:= [⟨.c,(.cons (.sl e209) .nil),[]⟩,⟨.agg,e98,[]⟩]
def o169:List Grp:= [⟨.c,(.cons .bool .nil),[]⟩]
noncomputable def F169:((List D209×Unit)×(D98×Unit))→Option (((Bool×Unit)×Unit)):=fun x0=>(F175 (x0.2.1,())).bind fun y1=>bif y1.1.1 then some ((true,()),()) else (F164 (x0.2.1,(((10000:Int),()),(((100000:Int),()),())))).bind fun y2=>bif y2.1.1 then (F215 (x0.1,((x0.2.1.2.2.1,()),()))).bind fun y3=>bif y3.1.1 then (F216 (x0.1,((x0.2.1.2.2.1,()),()))).bind fun y4=>some (y4.1,()) else some ((false,()),()) else some ((false,()),())
noncomputable def c169:Con:=⟨i169,o169,F169⟩
def i170:List Grp:= [⟨.c,(.cons (.sl e209) .nil),[]⟩,⟨.agg,e99,[]⟩]
def o170:List Grp:= [⟨.c,(.cons .bool .nil),[]⟩]
noncomputable def F170:((List D209×Unit)×(D99×Unit))→Option (((Bool×Unit)×Unit)):=fun x0=>(F176 (x0.2.1,())).bind fun y1=>bif y1.1.1 then some ((true,()),()) else (F165 (x0.2.1,(((10000:Int),()),()))).bind fun y2=>bif y2.1.1 then (F215 (x0.1,((x0.2.1.2.1,()),()))).bind fun y3=>bif y3.1.1 then (F216 (x0.1,((x0.2.1.2.1,()),()))).bind fun y4=>some (y4.1,()) else some ((false,()),()) else some ((false,()),())
noncomputable def c170:Con:=⟨i170,o170,F170⟩
def i236:List Grp:= [⟨.c,(.cons (.sl e71) .nil),[]⟩,⟨.c,(.cons (.fn [15] (.cons (.int .i64) (.cons (.int .i64) (.cons (.int .i64) (.cons .str (.cons (.int .i64) (.cons (.int .i64) (.cons (.sl e9) (.cons (.int .i64) (.cons (.sl e9) (.cons (.sl e3) (.cons (.sl e122) (.cons .bool (.cons (.sl e209) (.cons .str .nil)))))))))))))) (.cons .bool .nil)) .nil),[]⟩]
def o236:List Grp:= [⟨.c,(.cons (.int .i64) .nil),[]⟩]
noncomputable def F236.b0 (x0:((List D71×Unit)×(((D71→Option (Bool×Unit))×Unit)×Unit))):(v1:(Int×Unit))→Option (Sum (Int×Unit) (Sum (Int×Unit) (((Int×Unit)×Unit)))):=fun v1=>bif iLt v1.1 (List.length x0.1.1:Int) then (getI x0.1.1 v1.1).bind fun x2=>(x0.2.1.1 x2).bind fun y3=>bif y3.1 then some (.inr (.inr ((v1.1,()),()))) else some (.inl (iAdd .i64 v1.1 (1:Int),())) else some (.inr (.inl (v1.1,())))
noncomputable def F236:((List D71×Unit)×(((D71→Option (Bool×Unit))×Unit)×Unit))→Option (((Int×Unit)×Unit)):=fun x0=>(loopF (F236.b0 x0) ((0:Int),())).bind fun r5=>Sum.elim (fun v4=>some (((-1:Int),()),())) some r5
noncomputable def c236:Con:=⟨i236,o236,F236⟩
def i237:List Grp:= [⟨.agg,e71,[]⟩,⟨.rp,(.cons (.int .i64) .nil),[]⟩]
def o237:List Grp:= [⟨.c,(.cons .bool .nil),[]⟩]
noncomputable def F237:(D71×((Int×Unit)×Unit))→Option (((Bool×Unit)×Unit)):=fun x0=>some ((iEq x0.1.1 x0.2.1.1,()),())
noncomputable def c237:Con:=⟨i237,o237,F237⟩
def i217:List Grp:= [⟨.c,(.cons (.sl e71) .nil),[]⟩,⟨.c,(.cons (.int .i64) .nil),[]⟩]
def o217:List Grp:= [⟨.c,(.cons (.int .i64) .nil),[]⟩]
noncomputable def F217:((List D71×Unit)×((Int×Unit)×Unit))→Option (((Int×Unit)×Unit)):=fun x0=>(F236 (x0.1,(((fun p1=>(F237 ((p1.1,(p1.2.1,(p1.2.2.1,(p1.2.2.2.1,(p1.2.2.2.2.1,(p1.2.2.2.2.2.1,(p1.2.2.2.2.2.2.1,(p1.2.2.2.2.2.2.2.1,(p1.2.2.2.2.2.2.2.2.1,(p1.2.2.2.2.2.2.2.2.2.1,(p1.2.2.2.2.2.2.2.2.2.2.1,(p1.2.2.2.2.2.2.2.2.2.2.2.1,(p1.2.2.2.2.2.2.2.2.2.2.2.2.1,(p1.2.2.2.2.2.2.2.2.2.2.2.2.2.1,())))))))))))))),((x0.2.1.1,()),()))).bind fun y2=>some (y2.1.1,())),()),()))).bind fun y3=>some (y3.1,())
noncomputable def c217:Con:=⟨i217,o217,F217⟩
def i171:List Grp:= [⟨.c,(.cons (.sl e71) .nil),[]⟩]
def o171:List Grp:= [⟨.c,(.cons .bool .nil),[]⟩]
noncomputable def F171.b0 (x0:((List D71×Unit)×Unit)):(v1:(Int×Unit))→Option (Sum (Int×Unit) (Sum (Int×Unit) (((Bool×Unit)×Unit)))):=fun v1=>bif iLt v1.1 (List.length x0.1.1:Int) then (getI x0.1.1 v1.1).bind fun x2=>Option.bind ((F100 (x2,())).bind fun y3=>bif (!y3.1.1) then some (.inr (.inr (.inr ((false,()),())))) else (getI x0.1.1 (0:Int)).bind fun x4=>bif !iEq x2.2.1 x4.2.1 then some (.inr (.inr (.inr ((false,()),())))) else bif iLt (0:Int) v1.1 then (getI x0.1.1 (iSub .i64 v1.1 (1:Int))).bind fun x5=>bif iLe x2.1 x5.1 then some (.inr (.inr (.inr ((false,()),())))) else some (.inl ()) else some (.inl ())) fun r7=>Sum.elim (fun v6=>(F175 ((x2.2.2.2.2.1,(x2.2.2.2.2.2.1,(x2.2.2.2.2.2.2.1,()))),())).bind fun y8=>bif y8.1.1 then some (.inl (iAdd .i64 v1.1 (1:Int),())) else (F217 (x0.1,((x2.2.2.2.2.2.1,()),()))).bind fun y9=>bif iLt y9.1.1 (0:Int) then some (.inr (.inr ((false,()),()))) else (getI x0.1.1 y9.1.1).bind fun x10=>bif !iEq x10.2.2.1 x2.2.2.2.2.1 then some (.inr (.inr ((false,()),()))) else some (.inl (iAdd .i64 v1.1 (1:Int),()))) some r7 else some (.inr (.inl (v1.1,())))
noncomputable def F171:((List D71×Unit)×Unit)→Option (((Bool×Unit)×Unit)):=fun x0=>(loopF (F171.b0 x0) ((0:Int),())).bind fun r12=>Sum.elim (fun v11=>some ((iLe (List.length x0.1.1:Int) (400:Int),()),())) some r12
noncomputable def c171:Con:=⟨i171,o171,F171⟩
def i101:List Grp:= [⟨.agg,e135,[]⟩]
def o101:List Grp:= [⟨.c,(.cons .bool .nil),[]⟩]
noncomputable def F101:(D135×Unit)→Option (((Bool×Unit)×Unit)):=fun x0=>Option.bind ((F163 ((x0.1.1,()),())).bind fun y1=>bif (!y1.1.1) then some (.inr ((false,()),())) else (F76 ((x0.1.2.2.1,(x0.1.2.2.2.1,())),())).bind fun y2=>bif (!y2.1.1) then some (.inr ((false,()),())) else bif !iEq x0.1.2.2.1 x0.1.2.1 then some (.inr ((false,()),())) else bif iLt (0:Int) (List.length x0.1.2.2.2.2.1:Int) then (F167 ((x0.1.2.2.2.2.1,()),())).bind fun y3=>bif (!y3.1.1) then some (.inr ((false,()),())) else (F168 ((x0.1.2.2.2.2.2.2.2.2.2.2.2.2.2.2.2.2.2.2.1,()),())).bind fun y4=>bif (!y4.1.1) then some (.inr ((false,()),())) else some (.inl ()) else (F168 ((x0.1.2.2.2.2.2.2.2.2.2.2.2.2.2.2.2.2.2.2.1,()),())).bind fun y5=>bif (!y5.1.1) then some (.inr ((false,()),())) else some (.inl ())) fun r7=>Sum.elim (fun v6=>(F36 ((x0.1.2.2.2.2.2.2.1,()),(((1:Int),()),(((10000:Int),()),())))).bind fun y8=>bif (!y8.1.1) then some ((false,()),()) else (F36 ((x0.1.2.2.2.2.2.2.2.1,()),(((0:Int),()),(((10000:Int),()),())))).bind fun y9=>bif (!y9.1.1) then some ((false,()),()) else (F36 ((x0.1.2.2.2.2.2.2.2.2.2.2.2.2.2.2.1,()),(((0:Int),()),(((10000:Int),()),())))).bind fun y10=>bif (!y10.1.1) then some ((false,()),()) else (F169 ((x0.1.2.2.2.2.1,()),((x0.1.2.2.2.2.2.2.2.2.1,(x0.1.2.2.2.2.2.2.2.2.2.1,(x0.1.2.2.2.2.2.2.2.2.2.2.1,()))),()))).bind fun y11=>bif (!y11.1.1) then some ((false,()),()) else (F170 ((x0.1.2.2.2.2.1,()),((x0.1.2.2.2.2.2.2.2.2.2.2.2.1,(x0.1.2.2.2.2.2.2.2.2.2.2.2.2.1,(x0.1.2.2.2.2.2.2.2.2.2.2.2.2.2.1,()))),()))).bind fun y12=>bif (!y12.1.1) then some ((false,()),()) else bif iLe x0.1.2.2.2.2.2.2.1 x0.1.2.2.2.2.2.2.2.2.1 then some ((false,()),()) else bif iLe x0.1.2.2.2.2.2.2.1 x0.1.2.2.2.2.2.2.2.2.2.2.2.1 then some ((false,()),()) else bif iLt (1000:Int) (List.length x0.1.2.2.2.2.2.2.2.2.2.2.2.2.2.2.2.1:Int) then some ((false,()),()) else bif iLt (1000:Int) (List.length x0.1.2.2.2.2.2.2.2.2.2.2.2.2.2.2.2.2.1:Int) then some ((false,()),()) else bif iLt (200:Int) (List.length x0.1.2.2.2.2.2.2.2.2.2.2.2.2.2.2.2.2.2.1:Int) then some ((false,()),()) else bif iLt (200:Int) (List.length x0.1.2.2.2.2.2.2.2.2.2.2.2.2.2.2.2.2.2.2.2.1:Int) then some ((false,()),()) else (F171 ((x0.1.2.2.2.2.2.1,()),())).bind fun y13=>bif y13.1.1 then bif iEq (List.length x0.1.2.2.2.2.2.1:Int) (0:Int) then some ((true,()),()) else (getI x0.1.2.2.2.2.2.1 (0:Int)).bind fun x14=>some ((iEq x14.2.1 x0.1.2.1,()),()) else some ((false,()),())) some r7
noncomputable def c101:Con:=⟨i101,o101,F101⟩
def i238:List Grp:= [⟨.c,(.cons (.sl e9) .nil),[]⟩,⟨.c,(.cons (.sl e9) .nil),[]⟩]
def o238:List Grp:= [⟨.c,(.cons .bool .nil),[]⟩]
noncomputable def F238.b0 (x0:((List D9×Unit)×((List D9×Unit)×Unit))):(v1:(Int×Unit))→Option (Sum (Int×Unit) (Sum (Int×Unit) (((Bool×Unit)×Unit)))):=fun v1=>bif iLt v1.1 (List.length x0.1.1:Int) then (getI x0.1.1 v1.1).bind fun x2=>(getI x0.2.1.1 v1.1).bind fun x3=>bif !sEq x2.1 x3.1 then some (.inr (.inr ((false,()),()))) else some (.inl (iAdd .i64 v1.1 (1:Int),())) else some (.inr (.inl (v1.1,())))
noncomputable def F238:((List D9×Unit)×((List D9×Unit)×Unit))→Option (((Bool×Unit)×Unit)):=fun x0=>bif !iEq (List.length x0.1.1:Int) (List.length x0.2.1.1:Int) then some ((false,()),()) else (loopF (F238.b0 x0) ((0:Int),())).bind fun r5=>Sum.elim (fun v4=>some ((true,()),())) some r5
noncomputable def c238:Con:=⟨i238,o238,F238⟩
def i218:List Grp:= [⟨.agg,e98,[]⟩,⟨.agg,e98,[]⟩]
def o218:List Grp:= [⟨.c,(.cons .bool .nil),[]⟩]
noncomputable def F218:(D98×(D98×Unit))→Option (((Bool×Unit)×Unit)):=fun x0=>bif iEq x0.1.1 x0.2.1.1 then bif iEq x0.1.2.1 x0.2.1.2.1 then (F238 ((x0.1.2.2.1,()),((x0.2.1.2.2.1,()),()))).bind fun y1=>some (y1.1,()) else some ((false,()),()) else some ((false,()),())
noncomputable def c218:Con:=⟨i218,o218,F218⟩
def i106:List Grp:= [⟨.c,(.cons (.sl e3) .nil),[]⟩,⟨.c,(.cons (.sl e3) .nil),[]⟩]
def o106:List Grp:= [⟨.c,(.cons .bool .nil),[]⟩]
noncomputable def F106.b0 (x0:((List D3×Unit)×((List D3×Unit)×Unit))):(v1:(Int×Unit))→Option (Sum (Int×Unit) (Sum (Int×Unit) (((Bool×Unit)×Unit)))):=fun v1=>bif iLt v1.1 (List.length x0.1.1:Int) then (getI x0.1.1 v1.1).bind fun x2=>(getI x0.2.1.1 v1.1).bind fun x3=>bif !iEq x2.1 x3.1 then some (.inr (.inr ((false,()),()))) else some (.inl (iAdd .i64 v1.1 (1:Int),())) else some (.inr (.inl (v1.1,())))
noncomputable def F106:((List D3×Unit)×((List D3×Unit)×Unit))→Option (((Bool×Unit)×Unit)):=fun x0=>bif !iEq (List.length x0.1.1:Int) (List.length x0.2.1.1:Int) then some ((false,()),()) else (loopF (F106.b0 x0) ((0:Int),())).bind fun r5=>Sum.elim (fun v4=>some ((true,()),())) some r5
noncomputable def c106:Con:=⟨i106,o106,F106⟩
def i219:List Grp:= [⟨.agg,e99,[]⟩,⟨.agg,e99,[]⟩]
def o219:List Grp:= [⟨.c,(.cons .bool .nil),[]⟩]
noncomputable def F219:(D99×(D99×Unit))→Option (((Bool×Unit)×Unit)):=fun x0=>bif iEq x0.1.1 x0.2.1.1 then (F238 ((x0.1.2.1,()),((x0.2.1.2.1,()),()))).bind fun y1=>bif y1.1.1 then (F106 ((x0.1.2.2.1,()),((x0.2.1.2.2.1,()),()))).bind fun y2=>some (y2.1,()) else some ((false,()),()) else some ((false,()),())
noncomputable def c219:Con:=⟨i219,o219,F219⟩
def i220:List Grp:= [⟨.c,(.cons (.sl e122) .nil),[]⟩,⟨.c,(.cons (.sl e122) .nil),[]⟩]
def o220:List Grp:= [⟨.c,(.cons .bool .nil),[]⟩]
noncomputable def F220.b0 (x0:((List D122×Unit)×((List D122×Unit)×Unit))):(v1:(Int×Unit))→Option (Sum (Int×Unit) (Sum (Int×Unit) (((Bool×Unit)×Unit)))):=fun v1=>bif iLt v1.1 (List.length x0.1.1:Int) then (getI x0.1.1 v1.1).bind fun x2=>(getI x0.2.1.1 v1.1).bind fun x3=>bif !((iEq x2.1 x3.1)&&((sEq x2.2.1 x3.2.1)&&((sEq x2.2.2.1 x3.2.2.1)&&((iEq x2.2.2.2.1 x3.2.2.2.1)&&(iEq x2.2.2.2.2.1 x3.2.2.2.2.1))))) then some (.inr (.inr ((false,()),()))) else some (.inl (iAdd .i64 v1.1 (1:Int),())) else some (.inr (.inl (v1.1,())))
noncomputable def F220:((List D122×Unit)×((List D122×Unit)×Unit))→Option (((Bool×Unit)×Unit)):=fun x0=>bif !iEq (List.length x0.1.1:Int) (List.length x0.2.1.1:Int) then some ((false,()),()) else (loopF (F220.b0 x0) ((0:Int),())).bind fun r5=>Sum.elim (fun v4=>some ((true,()),())) some r5
noncomputable def c220:Con:=⟨i220,o220,F220⟩
def i221:List Grp:= [⟨.c,(.cons (.sl e209) .nil),[]⟩,⟨.c,(.cons (.sl e209) .nil),[]⟩]
def o221:List Grp:= [⟨.c,(.cons .bool .nil),[]⟩]
noncomputable def F221.b0 (x0:((List D209×Unit)×((List D209×Unit)×Unit))):(v1:(Int×Unit))→Option (Sum (Int×Unit) (Sum (Int×Unit) (((Bool×Unit)×Unit)))):=fun v1=>bif iLt v1.1 (List.length x0.1.1:Int) then (getI x0.1.1 v1.1).bind fun x2=>(getI x0.2.1.1 v1.1).bind fun x3=>bif !((sEq x2.1 x3.1)&&(iEq x2.2.1 x3.2.1)) then some (.inr (.inr ((false,()),()))) else some (.inl (iAdd .i64 v1.1 (1:Int),())) else some (.inr (.inl (v1.1,())))
noncomputable def F221:((List D209×Unit)×((List D209×Unit)×Unit))→Option (((Bool×Unit)×Unit)):=fun x0=>bif !iEq (List.length x0.1.1:Int) (List.length x0.2.1.1:Int) then some ((false,()),()) else (loopF (F221.b0 x0) ((0:Int),())).bind fun r5=>Sum.elim (fun v4=>some ((true,()),())) some r5
noncomputable def c221:Con:=⟨i221,o221,F221⟩
def i173:List Grp:= [⟨.agg,e71,[]⟩,⟨.agg,e71,[]⟩]
def o173:List Grp:= [⟨.c,(.cons .bool .nil),[]⟩]
noncomputable def F173:(D71×(D71×Unit))→Option (((Bool×Unit)×Unit)):=fun x0=>bif !iEq x0.1.1 x0.2.1.1 then some ((false,()),()) else bif !iEq x0.1.2.1 x0.2.1.2.1 then some ((false,()),()) else bif !iEq x0.1.2.2.1 x0.2.1.2.2.1 then some ((false,()),()) else bif !sEq x0.1.2.2.2.1 x0.2.1.2.2.2.1 then some ((false,()),()) else bif !bEq x0.1.2.2.2.2.2.2.2.2.2.2.2.1 x0.2.1.2.2.2.2.2.2.2.2.2.2.2.1 then some ((false,()),()) else bif !sEq x0.1.2.2.2.2.2.2.2.2.2.2.2.2.2.1 x0.2.1.2.2.2.2.2.2.2.2.2.2.2.2.2.1 then some ((false,()),()) else (F218 ((x0.1.2.2.2.2.1,(x0.1.2.2.2.2.2.1,(x0.1.2.2.2.2.2.2.1,()))),((x0.2.1.2.2.2.2.1,(x0.2.1.2.2.2.2.2.1,(x0.2.1.2.2.2.2.2.2.1,()))),()))).bind fun y1=>bif y1.1.1 then (F219 ((x0.1.2.2.2.2.2.2.2.1,(x0.1.2.2.2.2.2.2.2.2.1,(x0.1.2.2.2.2.2.2.2.2.2.1,()))),((x0.2.1.2.2.2.2.2.2.2.1,(x0.2.1.2.2.2.2.2.2.2.2.1,(x0.2.1.2.2.2.2.2.2.2.2.2.1,()))),()))).bind fun y2=>bif y2.1.1 then (F220 ((x0.1.2.2.2.2.2.2.2.2.2.2.1,()),((x0.2.1.2.2.2.2.2.2.2.2.2.2.1,()),()))).bind fun y3=>bif y3.1.1 then (F221 ((x0.1.2.2.2.2.2.2.2.2.2.2.2.2.1,()),((x0.2.1.2.2.2.2.2.2.2.2.2.2.2.2.1,()),()))).bind fun y4=>some (y4.1,()) else some ((false,()),()) else some ((false,()),()) else some ((false,()),())
noncomputable def c173:Con:=⟨i173,o173,F173⟩
def i103:List Grp:= [⟨.rp,e44,[]⟩,⟨.c,(.cons (.sl e71) .nil),[]⟩]
def o103:List Grp:= [⟨.c,(.cons .bool .nil),[]⟩]
noncomputable def F103.b0 (x0:(D44×((List D71×Unit)×Unit))):(v1:(Int×Unit))→Option (Sum (Int×Unit) (Sum (Int×Unit) (((Bool×Unit)×Unit)))):=fun v1=>bif iLt v1.1 (List.length x0.2.1.1:Int) then (getI x0.2.1.1 v1.1).bind fun x2=>bif iLe (List.length x0.1.2.2.2.2.1:Int) x2.1 then some (.inr (.inr ((false,()),()))) else (getI x0.1.2.2.2.2.1 x2.1).bind fun x3=>(F173 (x2,(x3,()))).bind fun y4=>bif (!y4.1.1) then some (.inr (.inr ((false,()),()))) else some (.inl (iAdd .i64 v1.1 (1:Int),())) else some (.inr (.inl (v1.1,())))
noncomputable def F103:(D44×((List D71×Unit)×Unit))→Option (((Bool×Unit)×Unit)):=fun x0=>(loopF (F103.b0 x0) ((0:Int),())).bind fun r6=>Sum.elim (fun v5=>some ((true,()),())) some r6
noncomputable def c103:Con:=⟨i103,o103,F103⟩
def i174:List Grp:= [⟨.c,(.cons (.sl e71) .nil),[]⟩,⟨.c,(.cons (.int .i64) .nil),[]⟩]
def o174:List Grp:= [⟨.c,(.cons .bool .nil),[]⟩]
noncomputable def F174.b0 (x0:((List D71×Unit)×((Int×Unit)×Unit))):(v1:(Int×Unit))→Option (Sum (Int×Unit) (Sum (Int×Unit) (((Bool×Unit)×Unit)))):=fun v1=>bif iLt v1.1 (List.length x0.1.1:Int) then (getI x0.1.1 v1.1).bind fun x2=>bif !iEq x2.2.1 x0.2.1.1 then some (.inr (.inr ((false,()),()))) else (F100 (x2,())).bind fun y3=>bif (!y3.1.1) then some (.inr (.inr ((false,()),()))) else some (.inl (iAdd .i64 v1.1 (1:Int),())) else some (.inr (.inl (v1.1,())))
noncomputable def F174:((List D71×Unit)×((Int×Unit)×Unit))→Option (((Bool×Unit)×Unit)):=fun x0=>(loopF (F174.b0 x0) ((0:Int),())).bind fun r5=>Sum.elim (fun v4=>some ((iLe (List.length x0.1.1:Int) (400:Int),()),())) some r5
noncomputable def c174:Con:=⟨i174,o174,F174⟩
def i177:List Grp:= [⟨.agg,e114,[]⟩]
def o177:List Grp:= [⟨.c,(.cons .bool .nil),[]⟩]
noncomputable def F177:(D114×Unit)→Option (((Bool×Unit)×Unit)):=fun x0=>(F36 ((x0.1.1,()),(((1:Int),()),(((10000:Int),()),())))).bind fun y1=>bif y1.1.1 then (F36 ((x0.1.2.1,()),(((0:Int),()),(((100000:Int),()),())))).bind fun y2=>bif y2.1.1 then (F163 ((x0.1.2.2.1,()),())).bind fun y3=>some (y3.1,()) else some ((false,()),()) else some ((false,()),())
noncomputable def c177:Con:=⟨i177,o177,F177⟩
def i178:List Grp:= [⟨.agg,e114,[]⟩,⟨.agg,e98,[]⟩]
def o178:List Grp:= [⟨.c,(.cons .bool .nil),[]⟩]
noncomputable def F178:(D114×(D98×Unit))→Option (((Bool×Unit)×Unit)):=fun x0=>(F36 ((x0.1.1,()),(((1:Int),()),(((10000:Int),()),())))).bind fun y1=>bif y1.1.1 then (F36 ((x0.1.2.1,()),(((0:Int),()),((iSub .i64 x0.1.1 (1:Int),()),())))).bind fun y2=>bif y2.1.1 then bif iEq x0.1.2.1 x0.2.1.1 then (F163 ((x0.1.2.2.1,()),())).bind fun y3=>some (y3.1,()) else some ((false,()),()) else some ((false,()),()) else some ((false,()),())
noncomputable def c178:Con:=⟨i178,o178,F178⟩
def i104:List Grp:= [⟨.agg,e143,[]⟩]
def o104:List Grp:= [⟨.c,(.cons .bool .nil),[]⟩]
noncomputable def F104:(D143×Unit)→Option (((Bool×Unit)×Unit)):=fun x0=>(F163 ((x0.1.2.1,()),())).bind fun y1=>bif (!y1.1.1) then some ((false,()),()) else (F36 ((x0.1.2.2.1,()),(((0:Int),()),(((900:Int),()),())))).bind fun y2=>bif (!y2.1.1) then some ((false,()),()) else (F164 ((x0.1.2.2.2.2.2.2.2.2.2.2.1,(x0.1.2.2.2.2.2.2.2.2.2.2.2.1,(x0.1.2.2.2.2.2.2.2.2.2.2.2.2.1,()))),(((10000:Int),()),(((100000:Int),()),())))).bind fun y3=>bif (!y3.1.1) then some ((false,()),()) else (F165 ((x0.1.2.2.2.2.2.2.2.2.2.2.2.2.2.1,(x0.1.2.2.2.2.2.2.2.2.2.2.2.2.2.2.1,(x0.1.2.2.2.2.2.2.2.2.2.2.2.2.2.2.2.1,()))),(((10000:Int),()),()))).bind fun y4=>bif (!y4.1.1) then some ((false,()),()) else (F174 ((x0.1.2.2.2.1,()),((x0.1.2.2.1,()),()))).bind fun y5=>bif (!y5.1.1) then some ((false,()),()) else bif iEq x0.1.1 (1:Int) then bif iEq (List.length x0.1.2.2.2.1:Int) (1:Int) then bif (iEq x0.1.2.2.2.2.1 (0:Int))&&((iEq x0.1.2.2.2.2.2.1 (0:Int))&&(sEq x0.1.2.2.2.2.2.2.1 ⟨#[]⟩)) then bif (iEq x0.1.2.2.2.2.2.2.2.1 (0:Int))&&((iEq x0.1.2.2.2.2.2.2.2.2.1 (0:Int))&&(sEq x0.1.2.2.2.2.2.2.2.2.2.1 ⟨#[]⟩)) then (F175 ((x0.1.2.2.2.2.2.2.2.2.2.2.1,(x0.1.2.2.2.2.2.2.2.2.2.2.2.1,(x0.1.2.2.2.2.2.2.2.2.2.2.2.2.1,()))),())).bind fun y6=>bif y6.1.1 then (F176 ((x0.1.2.2.2.2.2.2.2.2.2.2.2.2.2.1,(x0.1.2.2.2.2.2.2.2.2.2.2.2.2.2.2.1,(x0.1.2.2.2.2.2.2.2.2.2.2.2.2.2.2.2.1,()))),())).bind fun y7=>some (y7.1,()) else some ((false,()),()) else some ((false,()),()) else some ((false,()),()) else some ((false,()),()) else bif iEq x0.1.1 (2:Int) then bif iEq (List.length x0.1.2.2.2.1:Int) (0:Int) then (F177 ((x0.1.2.2.2.2.1,(x0.1.2.2.2.2.2.1,(x0.1.2.2.2.2.2.2.1,()))),())).bind fun y8=>bif y8.1.1 then bif (iEq x0.1.2.2.2.2.2.2.2.1 (0:Int))&&((iEq x0.1.2.2.2.2.2.2.2.2.1 (0:Int))&&(sEq x0.1.2.2.2.2.2.2.2.2.2.1 ⟨#[]⟩)) then (F175 ((x0.1.2.2.2.2.2.2.2.2.2.2.1,(x0.1.2.2.2.2.2.2.2.2.2.2.2.1,(x0.1.2.2.2.2.2.2.2.2.2.2.2.2.1,()))),())).bind fun y9=>bif y9.1.1 then (F176 ((x0.1.2.2.2.2.2.2.2.2.2.2.2.2.2.1,(x0.1.2.2.2.2.2.2.2.2.2.2.2.2.2.2.1,(x0.1.2.2.2.2.2.2.2.2.2.2.2.2.2.2.2.1,()))),())).bind fun y10=>some (y10.1,()) else some ((false,()),()) else some ((false,()),()) else some ((false,()),()) else some ((false,()),()) else bif iEq x0.1.1 (3:Int) then bif iEq (List.length x0.1.2.2.2.1:Int) (0:Int) then bif (iEq x0.1.2.2.2.2.1 (0:Int))&&((iEq x0.1.2.2.2.2.2.1 (0:Int))&&(sEq x0.1.2.2.2.2.2.2.1 ⟨#[]⟩)) then (F178 ((x0.1.2.2.2.2.2.2.2.1,(x0.1.2.2.2.2.2.2.2.2.1,(x0.1.2.2.2.2.2.2.2.2.2.1,()))),((x0.1.2.2.2.2.2.2.2.2.2.2.1,(x0.1.2.2.2.2.2.2.2.2.2.2.2.1,(x0.1.2.2.2.2.2.2.2.2.2.2.2.2.1,()))),()))).bind fun y11=>bif y11.1.1 then (F176 ((x0.1.2.2.2.2.2.2.2.2.2.2.2.2.2.1,(x0.1.2.2.2.2.2.2.2.2.2.2.2.2.2.2.1,(x0.1.2.2.2.2.2.2.2.2.2.2.2.2.2.2.2.1,()))),())).bind fun y12=>some (y12.1,()) else some ((false,()),()) else some ((false,()),()) else some ((false,()),()) else bif iEq x0.1.1 (4:Int) then bif (iEq x0.1.2.2.2.2.1 (0:Int))&&((iEq x0.1.2.2.2.2.2.1 (0:Int))&&(sEq x0.1.2.2.2.2.2.2.1 ⟨#[]⟩)) then some (((iEq x0.1.2.2.2.2.2.2.2.1 (0:Int))&&((iEq x0.1.2.2.2.2.2.2.2.2.1 (0:Int))&&(sEq x0.1.2.2.2.2.2.2.2.2.2.1 ⟨#[]⟩)),()),()) else some ((false,()),()) else some ((false,()),())
noncomputable def c104:Con:=⟨i104,o104,F104⟩
def i179:List Grp:= [⟨.c,(.cons (.sl e135) .nil),[]⟩,⟨.c,(.cons (.fn [21] (.cons .str (.cons (.int .i64) (.cons (.int .i64) (.cons (.sl e127) (.cons (.sl e209) (.cons (.sl e71) (.cons (.int .i64) (.cons (.int .i64) (.cons (.int .i64) (.cons (.int .i64) (.cons (.sl e9) (.cons (.int .i64) (.cons (.sl e9) (.cons (.sl e3) (.cons (.int .i64) (.cons (.sl e140) (.cons (.sl e141) (.cons (.sl e3) (.cons (.sl e122) (.cons (.sl e211) .nil)))))))))))))))))))) (.cons .bool .nil)) .nil),[]⟩]
def o179:List Grp:= [⟨.c,(.cons (.int .i64) .nil),[]⟩]
noncomputable def F179.b0 (x0:((List D135×Unit)×(((D135→Option (Bool×Unit))×Unit)×Unit))):(v1:(Int×Unit))→Option (Sum (Int×Unit) (Sum (Int×Unit) (((Int×Unit)×Unit)))):=fun v1=>bif iLt v1.1 (List.length x0.1.1:Int) then (getI x0.1.1 v1.1).bind fun x2=>(x0.2.1.1 x2).bind fun y3=>bif y3.1 then some (.inr (.inr ((v1.1,()),()))) else some (.inl (iAdd .i64 v1.1 (1:Int),())) else some (.inr (.inl (v1.1,())))
noncomputable def F179:((List D135×Unit)×(((D135→Option (Bool×Unit))×Unit)×Unit))→Option (((Int×Unit)×Unit)):=fun x0=>(loopF (F179.b0 x0) ((0:Int),())).bind fun r5=>Sum.elim (fun v4=>some (((-1:Int),()),())) some r5
noncomputable def c179:Con:=⟨i179,o179,F179⟩
def i180:List Grp:= [⟨.agg,e135,[]⟩,⟨.rp,(.cons .str .nil),[]⟩]
def o180:List Grp:= [⟨.c,(.cons .bool .nil),[]⟩]
noncomputable def F180:(D135×((ByteArray×Unit)×Unit))→Option (((Bool×Unit)×Unit)):=fun x0=>some ((sEq x0.1.1 x0.2.1.1,()),())
noncomputable def c180:Con:=⟨i180,o180,F180⟩
def i105:List Grp:= [⟨.rp,e44,[]⟩,⟨.c,(.cons .str .nil),[]⟩]
def o105:List Grp:= [⟨.c,(.cons (.int .i64) .nil),[]⟩]
noncomputable def F105:(D44×((ByteArray×Unit)×Unit))→Option (((Int×Unit)×Unit)):=fun x0=>(F179 ((x0.1.2.2.2.1,()),(((fun p1=>(F180 ((p1.1,(p1.2.1,(p1.2.2.1,(p1.2.2.2.1,(p1.2.2.2.2.1,(p1.2.2.2.2.2.1,(p1.2.2.2.2.2.2.1,(p1.2.2.2.2.2.2.2.1,(p1.2.2.2.2.2.2.2.2.1,(p1.2.2.2.2.2.2.2.2.2.1,(p1.2.2.2.2.2.2.2.2.2.2.1,(p1.2.2.2.2.2.2.2.2.2.2.2.1,(p1.2.2.2.2.2.2.2.2.2.2.2.2.1,(p1.2.2.2.2.2.2.2.2.2.2.2.2.2.1,(p1.2.2.2.2.2.2.2.2.2.2.2.2.2.2.1,(p1.2.2.2.2.2.2.2.2.2.2.2.2.2.2.2.1,(p1.2.2.2.2.2.2.2.2.2.2.2.2.2.2.2.2.1,(p1.2.2.2.2.2.2.2.2.2.2.2.2.2.2.2.2.2.1,(p1.2.2.2.2.2.2.2.2.2.2.2.2.2.2.2.2.2.2.1,(p1.2.2.2.2.2.2.2.2.2.2.2.2.2.2.2.2.2.2.2.1,())))))))))))))))))))),((x0.2.1.1,()),()))).bind fun y2=>some (y2.1.1,())),()),()))).bind fun y3=>some (y3.1,())
noncomputable def c105:Con:=⟨i105,o105,F105⟩
def i56:List Grp:= [⟨.agg,e44,[]⟩]
def o56:List Grp:= [⟨.c,(.cons .bool .nil),[]⟩]
noncomputable def F56.b0 (x0:(D44×Unit)):(v3:(Int×Unit))→Option (Sum (Int×Unit) (Sum (Int×Unit) (((Bool×Unit)×Unit)))):=fun v3=>bif iLt v3.1 (List.length x0.1.2.2.2.2.1:Int) then (getI x0.1.2.2.2.2.1 v3.1).bind fun x4=>bif !iEq x4.1 v3.1 then some (.inr (.inr ((false,()),()))) else (F100 (x4,())).bind fun y5=>bif (!y5.1.1) then some (.inr (.inr ((false,()),()))) else some (.inl (iAdd .i64 v3.1 (1:Int),())) else some (.inr (.inl (v3.1,())))
noncomputable def F56.b1 (x0:(D44×Unit)):(v8:(Int×Unit))→Option (Sum (Int×Unit) (Sum (Int×Unit) (((Bool×Unit)×Unit)))):=fun v8=>bif iLt v8.1 (List.length x0.1.2.2.2.1:Int) then (getI x0.1.2.2.2.1 v8.1).bind fun x9=>(F101 (x9,())).bind fun y10=>bif (!y10.1.1) then some (.inr (.inr ((false,()),()))) else (F102 ((x0.1.2.2.1,()),((x9.1,()),()))).bind fun y11=>bif y11.1.1 then some (.inr (.inr ((false,()),()))) else bif iLt (0:Int) v8.1 then (getI x0.1.2.2.2.1 (iSub .i64 v8.1 (1:Int))).bind fun x12=>bif sLt x9.1 x12.1||sEq x9.1 x12.1 then some (.inr (.inr ((false,()),()))) else (F103 (x0.1,((x9.2.2.2.2.2.1,()),()))).bind fun y13=>bif (!y13.1.1) then some (.inr (.inr ((false,()),()))) else some (.inl (iAdd .i64 v8.1 (1:Int),())) else (F103 (x0.1,((x9.2.2.2.2.2.1,()),()))).bind fun y14=>bif (!y14.1.1) then some (.inr (.inr ((false,()),()))) else some (.inl (iAdd .i64 v8.1 (1:Int),())) else some (.inr (.inl (v8.1,())))
noncomputable def F56.b2 (x0:(D44×Unit)):(v17:(Int×Unit))→Option (Sum (Int×Unit) (Sum (Int×Unit) (((Bool×Unit)×Unit)))):=fun v17=>bif iLt v17.1 (List.length x0.1.2.2.2.2.2.2.1:Int) then (getI x0.1.2.2.2.2.2.2.1 v17.1).bind fun x18=>(F104 (x18,())).bind fun y19=>bif (!y19.1.1) then some (.inr (.inr ((false,()),()))) else (F105 (x0.1,((x18.2.1,()),()))).bind fun y20=>bif iLt y20.1.1 (0:Int) then some (.inr (.inr ((false,()),()))) else (F103 (x0.1,((x18.2.2.2.1,()),()))).bind fun y21=>bif (!y21.1.1) then some (.inr (.inr ((false,()),()))) else some (.inl (iAdd .i64 v17.1 (1:Int),())) else some (.inr (.inl (v17.1,())))
noncomputable def F56:(D44×Unit)→Option (((Bool×Unit)×Unit)):=fun x0=>(F76 ((x0.1.1,(x0.1.2.1,())),())).bind fun y1=>bif (!y1.1.1) then some ((false,()),()) else (F99 ((x0.1.2.2.1,()),())).bind fun y2=>bif (!y2.1.1) then some ((false,()),()) else bif iLt (12:Int) (List.length x0.1.2.2.2.1:Int) then some ((false,()),()) else bif iLt (1000:Int) (List.length x0.1.2.2.2.2.1:Int) then some ((false,()),()) else bif iLt (400:Int) (List.length x0.1.2.2.2.2.2.2.1:Int) then some ((false,()),()) else (loopF (F56.b0 x0) ((0:Int),())).bind fun r7=>Sum.elim (fun v6=>(loopF (F56.b1 x0) ((0:Int),())).bind fun r16=>Sum.elim (fun v15=>(loopF (F56.b2 x0) ((0:Int),())).bind fun r23=>Sum.elim (fun v22=>some ((true,()),())) some r23) some r16) some r7
noncomputable def c56:Con:=⟨i56,o56,F56⟩
def i57:List Grp:= [⟨.agg,e44,[]⟩]
def o57:List Grp:= [⟨.c,(.cons .bool .nil),[]⟩]
noncomputable def F57.b1 (v1:(Int×Unit)) (x0:(D44×Unit)) (x2:D138):(v3:(Int×Unit))→Option (Sum (Int×Unit) (Sum (Int×Unit) (Sum (Int×Unit) (Sum (Int×Unit) (((Bool×Unit)×Unit)))))):=fun v3=>bif iLt v3.1 (List.length (List.take ((Int.toNat v1.1) - 0) (List.drop 0 x0.1.2.2.2.2.2.1)):Int) then (getI (List.take ((Int.toNat v1.1) - 0) (List.drop 0 x0.1.2.2.2.2.2.1)) v3.1).bind fun x4=>bif iEq x2.1 (1:Int) then bif iEq x4.1 (1:Int) then bif sEq x2.2.2.2.2.1 x4.2.2.2.2.1 then bif iEq x2.2.1 x4.2.1 then bif iEq x2.2.2.1 x4.2.2.1 then bif !iEq x2.2.2.2.1 x4.2.2.2.1 then some (.inr (.inr (.inr (.inr ((false,()),()))))) else some (.inl (iAdd .i64 v3.1 (1:Int),())) else some (.inl (iAdd .i64 v3.1 (1:Int),())) else some (.inl (iAdd .i64 v3.1 (1:Int),())) else some (.inl (iAdd .i64 v3.1 (1:Int),())) else some (.inl (iAdd .i64 v3.1 (1:Int),())) else some (.inl (iAdd .i64 v3.1 (1:Int),())) else some (.inr (.inl (v3.1,())))
noncomputable def F57.b0 (x0:(D44×Unit)):(v1:(Int×Unit))→Option (Sum (Int×Unit) (Sum (Int×Unit) (((Bool×Unit)×Unit)))):=fun v1=>bif iLt v1.1 (List.length x0.1.2.2.2.2.2.1:Int) then (getI x0.1.2.2.2.2.2.1 v1.1).bind fun x2=>bif cutHi v1.1 (List.length x0.1.2.2.2.2.2.1) then (loopF (F57.b1 v1 x0 x2) ((0:Int),())).bind fun r6=>Sum.elim (fun v5=>some (.inl (iAdd .i64 v1.1 (1:Int),()))) some r6 else none else some (.inr (.inl (v1.1,())))
noncomputable def F57:(D44×Unit)→Option (((Bool×Unit)×Unit)):=fun x0=>(loopF (F57.b0 x0) ((0:Int),())).bind fun r8=>Sum.elim (fun v7=>some ((true,()),())) some r8
noncomputable def c57:Con:=⟨i57,o57,F57⟩
def i58:List Grp:= [⟨.agg,e44,[]⟩]
def o58:List Grp:= [⟨.c,(.cons .bool .nil),[]⟩]
noncomputable def F58.b1 (v1:(Int×Unit)) (x0:(D44×Unit)) (x2:D135):(v3:(Int×Unit))→Option (Sum (Int×Unit) (Sum (Int×Unit) (Sum (Int×Unit) (Sum (Int×Unit) (((Bool×Unit)×Unit)))))):=fun v3=>bif iLt v3.1 (List.length (List.take ((Int.toNat v1.1) - 0) (List.drop 0 x0.1.2.2.2.1)):Int) then (getI (List.take ((Int.toNat v1.1) - 0) (List.drop 0 x0.1.2.2.2.1)) v3.1).bind fun x4=>bif cutHi (iMin (List.length x2.2.2.2.2.2.2.2.2.2.2.2.2.2.2.2.2.2.1:Int) (List.length x4.2.2.2.2.2.2.2.2.2.2.2.2.2.2.2.2.2.1:Int)) (List.length x2.2.2.2.2.2.2.2.2.2.2.2.2.2.2.2.2.2.1) then bif cutHi (iMin (List.length x2.2.2.2.2.2.2.2.2.2.2.2.2.2.2.2.2.2.1:Int) (List.length x4.2.2.2.2.2.2.2.2.2.2.2.2.2.2.2.2.2.1:Int)) (List.length x4.2.2.2.2.2.2.2.2.2.2.2.2.2.2.2.2.2.1) then (F106 ((List.take ((Int.toNat (iMin (List.length x2.2.2.2.2.2.2.2.2.2.2.2.2.2.2.2.2.2.1:Int) (List.length x4.2.2.2.2.2.2.2.2.2.2.2.2.2.2.2.2.2.1:Int))) - 0) (List.drop 0 x2.2.2.2.2.2.2.2.2.2.2.2.2.2.2.2.2.2.1),()),((List.take ((Int.toNat (iMin (List.length x2.2.2.2.2.2.2.2.2.2.2.2.2.2.2.2.2.2.1:Int) (List.length x4.2.2.2.2.2.2.2.2.2.2.2.2.2.2.2.2.2.1:Int))) - 0) (List.drop 0 x4.2.2.2.2.2.2.2.2.2.2.2.2.2.2.2.2.2.1),()),()))).bind fun y5=>bif (!y5.1.1) then some (.inr (.inr (.inr (.inr ((false,()),()))))) else some (.inl (iAdd .i64 v3.1 (1:Int),())) else none else none else some (.inr (.inl (v3.1,())))
noncomputable def F58.b0 (x0:(D44×Unit)):(v1:(Int×Unit))→Option (Sum (Int×Unit) (Sum (Int×Unit) (((Bool×Unit)×Unit)))):=fun v1=>bif iLt v1.1 (List.length x0.1.2.2.2.1:Int) then (getI x0.1.2.2.2.1 v1.1).bind fun x2=>bif cutHi v1.1 (List.length x0.1.2.2.2.1) then (loopF (F58.b1 v1 x0 x2) ((0:Int),())).bind fun r7=>Sum.elim (fun v6=>some (.inl (iAdd .i64 v1.1 (1:Int),()))) some r7 else none else some (.inr (.inl (v1.1,())))
noncomputable def F58:(D44×Unit)→Option (((Bool×Unit)×Unit)):=fun x0=>(loopF (F58.b0 x0) ((0:Int),())).bind fun r9=>Sum.elim (fun v8=>some ((true,()),())) some r9
noncomputable def c58:Con:=⟨i58,o58,F58⟩
def i107:List Grp:= [⟨.rp,e44,[]⟩,⟨.c,(.cons (.sl e3) .nil),[]⟩]
def o107:List Grp:= [⟨.c,(.cons (.sl e3) .nil),[]⟩]
noncomputable def F107.b0 (x0:(D44×((List D3×Unit)×Unit))):(v1:(Int×(Int×Unit)))→Option (Sum (Int×(Int×Unit)) (Sum (Int×(Int×Unit)) (((List D3×Unit)×Unit)))):=fun v1=>bif iLt v1.2.1 (List.length x0.2.1.1:Int) then (getI x0.2.1.1 v1.2.1).bind fun x2=>(F36 (x2,(((0:Int),()),((iSub .i64 (List.length x0.1.2.2.2.2.1:Int) (1:Int),()),())))).bind fun y3=>bif y3.1.1 then (getI x0.1.2.2.2.2.1 x2.1).bind fun x4=>bif x4.2.2.2.2.2.2.2.2.2.2.2.1 then some (.inl (iAdd .i64 v1.2.1 (1:Int),(iAdd .i64 v1.2.1 (1:Int),()))) else some (.inl (v1.1,(iAdd .i64 v1.2.1 (1:Int),()))) else some (.inl (v1.1,(iAdd .i64 v1.2.1 (1:Int),()))) else some (.inr (.inl (v1.1,(v1.2.1,()))))
noncomputable def F107:(D44×((List D3×Unit)×Unit))→Option (((List D3×Unit)×Unit)):=fun x0=>(loopF (F107.b0 x0) ((0:Int),((0:Int),()))).bind fun r6=>Sum.elim (fun v5=>bif cutHi v5.1 (List.length x0.2.1.1) then some ((List.take ((Int.toNat v5.1) - 0) (List.drop 0 x0.2.1.1),()),()) else none) some r6
noncomputable def c107:Con:=⟨i107,o107,F107⟩
def i134:List Grp:= [⟨.c,(.cons (.sl e129) .nil),[]⟩]
def o134:List Grp:= [⟨.c,(.cons (.sl e129) .nil),[(.own [])]⟩]
noncomputable def F134:((List D129×Unit)×Unit)→Option (((List D129×Unit)×Unit)):=fun x0=>bif x0.1.1.isEmpty then both (some (([],()),())) (bif room (List.length ([]:List (D129))+List.length x0.1.1) 16 then some ((lapp ([]:List (D129)) x0.1.1,()),()) else none) else bif room (List.length ([]:List (D129))+List.length x0.1.1) 16 then some ((lapp ([]:List (D129)) x0.1.1,()),()) else none
noncomputable def c134:Con:=⟨i134,o134,F134⟩
def i74:List Grp:= [⟨.c,(.cons (.sl e127) .nil),[]⟩]
def o74:List Grp:= [⟨.c,(.cons (.sl e127) .nil),[(.own m0)]⟩]
noncomputable def F74.b0 (x0:((List D127×Unit)×Unit)):(v1:(List (D127)×(Int×Unit)))→Option (Sum (List (D127)×(Int×Unit)) (Sum (List (D127)×(Int×Unit)) (((List D127×Unit)×Unit)))):=fun v1=>bif iLt v1.2.1 (List.length x0.1.1:Int) then (getI x0.1.1 v1.2.1).bind fun x2=>(F134 ((x2.2.2.2.2.1,()),())).bind fun y3=>bif room (List.length v1.1+List.length ([(x2.1,(x2.2.1,(x2.2.2.1,(x2.2.2.2.1,(y3.1.1,())))))]:List (D127))) 64 then some (.inl (lapp v1.1 ([(x2.1,(x2.2.1,(x2.2.2.1,(x2.2.2.2.1,(y3.1.1,())))))]:List (D127)),(iAdd .i64 v1.2.1 (1:Int),()))) else none else some (.inr (.inl (v1.1,(v1.2.1,()))))
noncomputable def F74:((List D127×Unit)×Unit)→Option (((List D127×Unit)×Unit)):=fun x0=>(loopF (F74.b0 x0) ([],((0:Int),()))).bind fun r5=>Sum.elim (fun v4=>some ((v4.1,()),())) some r5
noncomputable def c74:Con:=⟨i74,o74,F74⟩
def i35:List Grp:= [⟨.agg,e36,[]⟩]
def o35:List Grp:= [⟨.agg,e36,[.sh,(.own m0)]⟩]
noncomputable def F35:(D36×Unit)→Option ((D36×Unit)):=fun x0=>(F74 ((x0.1.2.1,()),())).bind fun y1=>some ((x0.1.1,(y1.1.1,())),())
noncomputable def c35:Con:=⟨i35,o35,F35⟩
def i196:List Grp:= [⟨.c,(.cons (.sl e127) .nil),[]⟩,⟨.c,(.cons (.fn [6] (.cons .str (.cons (.int .i64) (.cons (.int .i64) (.cons (.int .i64) (.cons (.sl e129) .nil))))) (.cons .bool .nil)) .nil),[]⟩]
def o196:List Grp:= [⟨.c,(.cons (.int .i64) .nil),[]⟩]
noncomputable def F196.b0 (x0:((List D127×Unit)×(((D127→Option (Bool×Unit))×Unit)×Unit))):(v1:(Int×Unit))→Option (Sum (Int×Unit) (Sum (Int×Unit) (((Int×Unit)×Unit)))):=fun v1=>bif iLt v1.1 (List.length x0.1.1:Int) then (getI x0.1.1 v1.1).bind fun x2=>(x0.2.1.1 x2).bind fun y3=>bif y3.1 then some (.inr (.inr ((v1.1,()),()))) else some (.inl (iAdd .i64 v1.1 (1:Int),())) else some (.inr (.inl (v1.1,())))
noncomputable def F196:((List D127×Unit)×(((D127→Option (Bool×Unit))×Unit)×Unit))→Option (((Int×Unit)×Unit)):=fun x0=>(loopF (F196.b0 x0) ((0:Int),())).bind fun r5=>Sum.elim (fun v4=>some (((-1:Int),()),())) some r5
noncomputable def c196:Con:=⟨i196,o196,F196⟩
def i197:List Grp:= [⟨.agg,e127,[]⟩,⟨.rp,(.cons .str .nil),[]⟩]
def o197:List Grp:= [⟨.c,(.cons .bool .nil),[]⟩]
noncomputable def F197:(D127×((ByteArray×Unit)×Unit))→Option (((Bool×Unit)×Unit)):=fun x0=>some ((sEq x0.1.1 x0.2.1.1,()),())
noncomputable def c197:Con:=⟨i197,o197,F197⟩
def i135:List Grp:= [⟨.c,(.cons (.sl e127) .nil),[]⟩,⟨.c,(.cons .str .nil),[]⟩]
def o135:List Grp:= [⟨.c,(.cons (.int .i64) .nil),[]⟩]
noncomputable def F135:((List D127×Unit)×((ByteArray×Unit)×Unit))→Option (((Int×Unit)×Unit)):=fun x0=>(F196 (x0.1,(((fun p1=>(F197 ((p1.1,(p1.2.1,(p1.2.2.1,(p1.2.2.2.1,(p1.2.2.2.2.1,()))))),((x0.2.1.1,()),()))).bind fun y2=>some (y2.1.1,())),()),()))).bind fun y3=>some (y3.1,())
noncomputable def c135:Con:=⟨i135,o135,F135⟩
def i137:List Grp:= [⟨.rp,e127,[]⟩,⟨.c,(.cons (.int .i64) .nil),[]⟩]
def o137:List Grp:= [⟨.c,(.cons (.int .i64) .nil),[]⟩]
noncomputable def F137:(D127×((Int×Unit)×Unit))→Option (((Int×Unit)×Unit)):=fun x0=>bif iEq x0.2.1.1 (3:Int) then some ((x0.1.2.2.2.1,()),()) else some ((x0.1.2.1,()),())
noncomputable def c137:Con:=⟨i137,o137,F137⟩
def i224:List Grp:= [⟨.c,(.cons (.sl e127) .nil),[(.own m0)]⟩,⟨.c,(.cons (.int .i64) .nil),[]⟩,⟨.c,(.cons (.sl e127) .nil),[(.own m0)]⟩]
def o224:List Grp:= [⟨.c,(.cons (.sl e127) .nil),[(.own m0)]⟩]
noncomputable def F224:((List D127×Unit)×((Int×Unit)×((List D127×Unit)×Unit)))→Option (((List D127×Unit)×Unit)):=insF e127 64
noncomputable def c224:Con:=⟨i224,o224,F224⟩
def i198:List Grp:= [⟨.c,(.cons (.sl e127) .nil),[(.own m0)]⟩,⟨.c,(.cons .str .nil),[]⟩,⟨.c,(.cons (.int .i64) .nil),[]⟩]
def o198:List Grp:= [⟨.c,(.cons (.sl e127) .nil),[(.own m0)]⟩]
noncomputable def F198.b0 (x0:((List D127×Unit)×((ByteArray×Unit)×((Int×Unit)×Unit)))):(v5:(Int×Unit))→Option (Sum (Int×Unit) (Sum (Int×Unit) (((List D127×Unit)×Unit)))):=fun v5=>bif iLt v5.1 (List.length x0.1.1:Int) then (getI x0.1.1 v5.1).bind fun _=>(getN x0.1.1 (Int.toNat v5.1)).bind fun x6=>bif sLt x6.1 x0.2.1.1 then some (.inl (iAdd .i64 v5.1 (1:Int),())) else some (.inr (.inl (v5.1,()))) else some (.inr (.inl (v5.1,())))
noncomputable def F198:((List D127×Unit)×((ByteArray×Unit)×((Int×Unit)×Unit)))→Option (((List D127×Unit)×Unit)):=fun x0=>(F135 (x0.1,(x0.2.1,()))).bind fun y1=>bif iLe (0:Int) y1.1.1 then (getI x0.1.1 y1.1.1).bind fun _=>(getN x0.1.1 (Int.toNat y1.1.1)).bind fun x2=>(getI x0.1.1 y1.1.1).bind fun _=>(getN x0.1.1 (Int.toNat y1.1.1)).bind fun x3=>(some (List.set x0.1.1 (Int.toNat y1.1.1) (x3.1,(iAdd .i64 x2.2.1 x0.2.2.1.1,x3.2.2)))).bind fun z4=>some ((z4,()),()) else (loopF (F198.b0 x0) ((0:Int),())).bind fun r8=>Sum.elim (fun v7=>(F224 (x0.1,((v7.1,()),((([(x0.2.1.1,(x0.2.2.1.1,((0:Int),((0:Int),([],())))))]:List (D127)),()),())))).bind fun y9=>some (y9.1,())) some r8
noncomputable def c198:Con:=⟨i198,o198,F198⟩
def i225:List Grp:= [⟨.c,(.cons (.sl e129) .nil),[(.own [])]⟩,⟨.c,(.cons (.int .i64) .nil),[]⟩,⟨.c,(.cons (.sl e129) .nil),[(.own [])]⟩]
def o225:List Grp:= [⟨.c,(.cons (.sl e129) .nil),[(.own [])]⟩]
noncomputable def F225:((List D129×Unit)×((Int×Unit)×((List D129×Unit)×Unit)))→Option (((List D129×Unit)×Unit)):=insF e129 16
noncomputable def c225:Con:=⟨i225,o225,F225⟩
def i199:List Grp:= [⟨.io,e127,m0⟩,⟨.c,(.cons (.int .i64) .nil),[]⟩,⟨.c,(.cons (.int .i64) .nil),[]⟩]
def o199:List Grp:= [⟨.io,e127,m0⟩]
noncomputable def F199.b0 (x0:(D127×((Int×Unit)×((Int×Unit)×Unit)))):(v1:(Int×Unit))→Option (Sum (Int×Unit) (Sum (Int×Unit) ((D127×Unit)))):=fun v1=>bif iLt v1.1 (List.length x0.1.2.2.2.2.1:Int) then (getI x0.1.2.2.2.2.1 v1.1).bind fun _=>(getN x0.1.2.2.2.2.1 (Int.toNat v1.1)).bind fun x2=>bif iEq x2.2.1 x0.2.2.1.1 then (getI x0.1.2.2.2.2.1 v1.1).bind fun _=>(getN x0.1.2.2.2.2.1 (Int.toNat v1.1)).bind fun x3=>(getI x0.1.2.2.2.2.1 v1.1).bind fun _=>(getN x0.1.2.2.2.2.1 (Int.toNat v1.1)).bind fun x4=>(some (List.set x0.1.2.2.2.2.1 (Int.toNat v1.1) (iAdd .i64 x3.1 x0.2.1.1,x4.2))).bind fun z5=>some (.inr (.inr ((x0.1.1,(x0.1.2.1,(x0.1.2.2.1,(x0.1.2.2.2.1,(z5,()))))),()))) else some (.inl (iAdd .i64 v1.1 (1:Int),())) else some (.inr (.inl (v1.1,())))
noncomputable def F199.b1 (x0:(D127×((Int×Unit)×((Int×Unit)×Unit)))):(v8:(Int×Unit))→Option (Sum (Int×Unit) (Sum (Int×Unit) ((D127×Unit)))):=fun v8=>bif iLt v8.1 (List.length x0.1.2.2.2.2.1:Int) then (getI x0.1.2.2.2.2.1 v8.1).bind fun _=>(getN x0.1.2.2.2.2.1 (Int.toNat v8.1)).bind fun x9=>bif iLt x9.2.1 x0.2.2.1.1 then some (.inl (iAdd .i64 v8.1 (1:Int),())) else some (.inr (.inl (v8.1,()))) else some (.inr (.inl (v8.1,())))
noncomputable def F199:(D127×((Int×Unit)×((Int×Unit)×Unit)))→Option ((D127×Unit)):=fun x0=>(loopF (F199.b0 x0) ((0:Int),())).bind fun r7=>Sum.elim (fun v6=>(loopF (F199.b1 x0) ((0:Int),())).bind fun r11=>Sum.elim (fun v10=>(F225 ((x0.1.2.2.2.2.1,()),((v10.1,()),((([(x0.2.1.1,(x0.2.2.1.1,()))]:List (D129)),()),())))).bind fun y12=>some ((x0.1.1,(x0.1.2.1,(x0.1.2.2.1,(x0.1.2.2.2.1,(y12.1.1,()))))),())) some r11) some r7
noncomputable def c199:Con:=⟨i199,o199,F199⟩
def i138:List Grp:= [⟨.agg,e36,[.sh,(.own m0)]⟩,⟨.c,(.cons (.int .i64) .nil),[]⟩,⟨.agg,e232,[]⟩]
def o138:List Grp:= [⟨.agg,e36,[.sh,(.own m0)]⟩]
noncomputable def F138:(D36×((Int×Unit)×(D232×Unit)))→Option ((D36×Unit)):=fun x0=>(getI x0.1.2.1 x0.2.1.1).bind fun _=>(getN x0.1.2.1 (Int.toNat x0.2.1.1)).bind fun x1=>(getN x0.1.2.1 (Int.toNat x0.2.1.1)).bind fun x2=>(some (List.set x0.1.2.1 (Int.toNat x0.2.1.1) (x2.1,(x2.2.1,(iAdd .i64 x1.2.2.1 (1:Int),x2.2.2.2))))).bind fun z3=>Option.bind (bif iEq x0.2.2.1.1 (1:Int) then (getN z3 (Int.toNat x0.2.1.1)).bind fun x4=>(getN z3 (Int.toNat x0.2.1.1)).bind fun x5=>(some (List.set z3 (Int.toNat x0.2.1.1) (x5.1,(iSub .i64 x4.2.1 x0.2.2.1.2.2.2.1,x5.2.2)))).bind fun z6=>(F198 ((z6,()),((x0.2.2.1.2.2.1,()),((x0.2.2.1.2.2.2.1,()),())))).bind fun y7=>some (.inl (y7.1.1,())) else bif iEq x0.2.2.1.1 (2:Int) then (getN z3 (Int.toNat x0.2.1.1)).bind fun x8=>(getN z3 (Int.toNat x0.2.1.1)).bind fun x9=>(some (List.set z3 (Int.toNat x0.2.1.1) (x9.1,(iSub .i64 x8.2.1 x0.2.2.1.2.2.2.1,x9.2.2)))).bind fun z10=>(getN z10 (Int.toNat x0.2.1.1)).bind fun x11=>(getN z10 (Int.toNat x0.2.1.1)).bind fun x12=>(some (List.set z10 (Int.toNat x0.2.1.1) (x12.1,(x12.2.1,(x12.2.2.1,(iAdd .i64 x11.2.2.2.1 x0.2.2.1.2.2.2.1,x12.2.2.2.2)))))).bind fun z13=>some (.inl (z13,())) else bif iEq x0.2.2.1.1 (3:Int) then (getN z3 (Int.toNat x0.2.1.1)).bind fun x14=>(getN z3 (Int.toNat x0.2.1.1)).bind fun x15=>(some (List.set z3 (Int.toNat x0.2.1.1) (x15.1,(x15.2.1,(x15.2.2.1,(iSub .i64 x14.2.2.2.1 x0.2.2.1.2.2.2.1,x15.2.2.2.2)))))).bind fun z16=>(getN z16 (Int.toNat x0.2.1.1)).bind fun x17=>(F199 (x17,((x0.2.2.1.2.2.2.1,()),((iAdd .i64 x0.1.1 (2:Int),()),())))).bind fun y18=>(some (List.set z16 (Int.toNat x0.2.1.1) y18.1)).bind fun z19=>some (.inl (z19,())) else some (.inl (z3,()))) fun r21=>Sum.elim (fun v20=>some ((x0.1.1,(v20.1,())),())) some r21
noncomputable def c138:Con:=⟨i138,o138,F138⟩
def i75:List Grp:= [⟨.agg,e36,[]⟩,⟨.agg,e232,[]⟩]
def o75:List Grp:= [⟨.agg,e36,[.sh,(.own m0)]⟩,⟨.c,(.cons (.int .i64) .nil),[]⟩]
noncomputable def F75:(D36×(D232×Unit))→Option ((D36×((Int×Unit)×Unit))):=fun x0=>(F135 ((x0.1.2.1,()),((x0.2.1.2.1,()),()))).bind fun y1=>(F76 (x0.1,())).bind fun y2=>bif (!y2.1.1) then (F35 (x0.1,())).bind fun y3=>some (y3.1,(((1:Int),()),())) else (F136 (x0.2.1,())).bind fun y4=>bif (!y4.1.1) then (F35 (x0.1,())).bind fun y5=>some (y5.1,(((1:Int),()),())) else bif iLt y1.1.1 (0:Int) then (F35 (x0.1,())).bind fun y6=>some (y6.1,(((2:Int),()),())) else (getI x0.1.2.1 y1.1.1).bind fun x7=>bif !iEq x0.2.1.2.2.2.2.1 x7.2.2.1 then (F35 (x0.1,())).bind fun y8=>some (y8.1,(((3:Int),()),())) else (getI x0.1.2.1 y1.1.1).bind fun x9=>(F137 (x9,((x0.2.1.1,()),()))).bind fun y10=>bif iLt y10.1.1 x0.2.1.2.2.2.1 then (F35 (x0.1,())).bind fun y11=>some (y11.1,(((4:Int),()),())) else (F35 (x0.1,())).bind fun y12=>(F138 (y12.1,(y1.1,(x0.2.1,())))).bind fun y13=>(F76 (y13.1,())).bind fun y14=>bif (!y14.1.1) then (F35 (x0.1,())).bind fun y15=>some (y15.1,(((5:Int),()),())) else some (y13.1,(((0:Int),()),()))
noncomputable def c75:Con:=⟨i75,o75,F75⟩
def i37:List Grp:= [⟨.agg,e36,[]⟩,⟨.c,(.cons (.sl e122) .nil),[]⟩]
def o37:List Grp:= [⟨.agg,e36,[.sh,(.own m0)]⟩,⟨.c,(.cons (.int .i64) .nil),[]⟩]
noncomputable def F37.b0 (x0:(D36×((List D122×Unit)×Unit))):(v2:(Int×(Int×(Int×(List (D127)×Unit)))))→Option (Sum (Int×(Int×(Int×(List (D127)×Unit)))) (Sum (Int×(Int×(Int×(List (D127)×Unit)))) ((D36×((Int×Unit)×Unit))))):=fun v2=>bif iLt v2.2.1 (List.length x0.2.1.1:Int) then (getI x0.2.1.1 v2.2.1).bind fun x3=>(F75 ((v2.2.2.1,(v2.2.2.2.1,())),(x3,()))).bind fun y4=>bif iEq y4.2.1.1 (0:Int) then some (.inl (iAdd .i64 v2.1 (1:Int),(iAdd .i64 v2.2.1 (1:Int),(y4.1.1,(y4.1.2.1,()))))) else some (.inl (v2.1,(iAdd .i64 v2.2.1 (1:Int),(y4.1.1,(y4.1.2.1,()))))) else some (.inr (.inl (v2.1,(v2.2.1,(v2.2.2.1,(v2.2.2.2.1,()))))))
noncomputable def F37:(D36×((List D122×Unit)×Unit))→Option ((D36×((Int×Unit)×Unit))):=fun x0=>(F35 (x0.1,())).bind fun y1=>(loopF (F37.b0 x0) ((0:Int),((0:Int),(y1.1.1,(y1.1.2.1,()))))).bind fun r6=>Sum.elim (fun v5=>some ((v5.2.2.1,(v5.2.2.2.1,())),((v5.1,()),()))) some r6
noncomputable def c37:Con:=⟨i37,o37,F37⟩
def i277:List Grp:= [⟨.agg,e36,[]⟩]
def o277:List Grp:= [⟨.agg,e36,[.sh,(.own [])]⟩]
noncomputable def c277:Con:=⟨i277,o277,F35⟩
def i38:List Grp:= [⟨.agg,e36,[]⟩]
def o38:List Grp:= [⟨.agg,e36,[.sh,(.own [])]⟩]
noncomputable def F38.b1 (x5:D127) (y3:(D36×Unit)) (v4:(Int×(List (D127)×Unit))):(v6:(List (D129)×(Int×(List (D127)×Unit))))→Option (Sum (List (D129)×(Int×(List (D127)×Unit))) (Sum (List (D129)×(Int×(List (D127)×Unit))) (Sum (Int×(List (D127)×Unit)) (Sum (Int×(List (D127)×Unit)) ((D36×Unit)))))):=fun v6=>bif iLt v6.2.1 (List.length x5.2.2.2.2.1:Int) then (getI x5.2.2.2.2.1 v6.2.1).bind fun x7=>bif iLe x7.2.1 (iAdd .i64 y3.1.1 (1:Int)) then (getN v6.2.2.1 (Int.toNat v4.1)).bind fun x8=>(getN v6.2.2.1 (Int.toNat v4.1)).bind fun x9=>(some (List.set v6.2.2.1 (Int.toNat v4.1) (x9.1,(iAdd .i64 x8.2.1 x7.1,x9.2.2)))).bind fun z10=>some (.inl (v6.1,(iAdd .i64 v6.2.1 (1:Int),(z10,())))) else bif room (List.length v6.1+List.length ([x7]:List (D129))) 16 then some (.inl (lapp v6.1 ([x7]:List (D129)),(iAdd .i64 v6.2.1 (1:Int),(v6.2.2.1,())))) else none else some (.inr (.inl (v6.1,(v6.2.1,(v6.2.2.1,())))))
noncomputable def F38.b0 (y3:(D36×Unit)):(v4:(Int×(List (D127)×Unit)))→Option (Sum (Int×(List (D127)×Unit)) (Sum (Int×(List (D127)×Unit)) ((D36×Unit)))):=fun v4=>bif iLt v4.1 (List.length y3.1.2.1:Int) then (getI v4.2.1 v4.1).bind fun _=>(getN v4.2.1 (Int.toNat v4.1)).bind fun x5=>(loopF (F38.b1 x5 y3 v4) ([],((0:Int),(v4.2.1,())))).bind fun r12=>Sum.elim (fun v11=>(getN v11.2.2.1 (Int.toNat v4.1)).bind fun x13=>(some (List.set v11.2.2.1 (Int.toNat v4.1) (x13.1,(x13.2.1,(x13.2.2.1,(x13.2.2.2.1,(v11.1,()))))))).bind fun z14=>some (.inl (iAdd .i64 v4.1 (1:Int),(z14,())))) some r12 else some (.inr (.inl (v4.1,(v4.2.1,()))))
noncomputable def F38:(D36×Unit)→Option ((D36×Unit)):=fun x0=>(F76 (x0.1,())).bind fun y1=>bif (!y1.1.1) then (F35 (x0.1,())).bind fun y2=>some (y2.1,()) else (F35 (x0.1,())).bind fun y3=>(loopF (F38.b0 y3) ((0:Int),(y3.1.2.1,()))).bind fun r16=>Sum.elim (fun v15=>(F76 ((iAdd .i64 y3.1.1 (1:Int),(v15.2.1,())),())).bind fun y17=>bif (!y17.1.1) then (F35 (x0.1,())).bind fun y18=>some (y18.1,()) else some ((iAdd .i64 y3.1.1 (1:Int),(v15.2.1,())),())) some r16
noncomputable def c38:Con:=⟨i38,o38,F38⟩
def i278:List Grp:= [⟨.agg,e36,[]⟩,⟨.c,(.cons (.sl e122) .nil),[]⟩]
def o278:List Grp:= [⟨.agg,e36,[.sh,(.own [])]⟩,⟨.c,(.cons (.int .i64) .nil),[]⟩]
noncomputable def c278:Con:=⟨i278,o278,F37⟩
def i9:List Grp:= [⟨.agg,e44,[]⟩,⟨.c,(.cons (.sl e3) .nil),[]⟩]
def o9:List Grp:= [⟨.agg,e36,[.sh,(.own [])]⟩,⟨.c,(.cons .bool .nil),[]⟩]
noncomputable def F9.b0 (x0:(D44×((List D3×Unit)×Unit))):(v2:(Int×(Int×(List (D127)×Unit))))→Option (Sum (Int×(Int×(List (D127)×Unit))) (Sum (Int×(Int×(List (D127)×Unit))) ((D36×((Bool×Unit)×Unit))))):=fun v2=>bif iLt v2.1 (List.length x0.2.1.1:Int) then (getI x0.2.1.1 v2.1).bind fun x3=>(F36 (x3,(((0:Int),()),((iSub .i64 (List.length x0.1.2.2.2.2.1:Int) (1:Int),()),())))).bind fun y4=>bif (!y4.1.1) then (F35 ((x0.1.1,(x0.1.2.1,())),())).bind fun y5=>some (.inr (.inr (y5.1,((false,()),())))) else (getI x0.1.2.2.2.2.1 x3.1).bind fun x6=>(F37 ((v2.2.1,(v2.2.2.1,())),((x6.2.2.2.2.2.2.2.2.2.2.1,()),()))).bind fun y7=>bif x6.2.2.2.2.2.2.2.2.2.2.2.1 then (F38 (y7.1,())).bind fun y8=>some (.inl (iAdd .i64 v2.1 (1:Int),(y8.1.1,(y8.1.2.1,())))) else some (.inl (iAdd .i64 v2.1 (1:Int),(y7.1.1,(y7.1.2.1,())))) else some (.inr (.inl (v2.1,(v2.2.1,(v2.2.2.1,())))))
noncomputable def F9:(D44×((List D3×Unit)×Unit))→Option ((D36×((Bool×Unit)×Unit))):=fun x0=>(F35 ((x0.1.1,(x0.1.2.1,())),())).bind fun y1=>(loopF (F9.b0 x0) ((0:Int),(y1.1.1,(y1.1.2.1,())))).bind fun r10=>Sum.elim (fun v9=>some ((v9.2.1,(v9.2.2.1,())),((true,()),()))) some r10
noncomputable def c9:Con:=⟨i9,o9,F9⟩
def i181:List Grp:= [⟨.c,(.cons (.sl e127) .nil),[]⟩,⟨.c,(.cons (.sl e127) .nil),[]⟩,⟨.c,(.cons (.fn [6,6] (.cons .str (.cons (.int .i64) (.cons (.int .i64) (.cons (.int .i64) (.cons (.sl e129) (.cons .str (.cons (.int .i64) (.cons (.int .i64) (.cons (.int .i64) (.cons (.sl e129) .nil)))))))))) (.cons .bool .nil)) .nil),[]⟩]
def o181:List Grp:= [⟨.c,(.cons .bool .nil),[]⟩]
noncomputable def F181.b0 (x0:((List D127×Unit)×((List D127×Unit)×((((ByteArray×(Int×(Int×(Int×(List D129×(ByteArray×(Int×(Int×(Int×(List D129×Unit))))))))))→Option (Bool×Unit))×Unit)×Unit)))):(v1:(Int×Unit))→Option (Sum (Int×Unit) (Sum (Int×Unit) (((Bool×Unit)×Unit)))):=fun v1=>bif iLt v1.1 (List.length x0.1.1:Int) then (getI x0.1.1 v1.1).bind fun x2=>(getI x0.2.1.1 v1.1).bind fun x3=>(x0.2.2.1.1 (x2.1,(x2.2.1,(x2.2.2.1,(x2.2.2.2.1,(x2.2.2.2.2.1,(x3.1,(x3.2.1,(x3.2.2.1,(x3.2.2.2.1,(x3.2.2.2.2.1,()))))))))))).bind fun y4=>bif (!y4.1) then some (.inr (.inr ((false,()),()))) else some (.inl (iAdd .i64 v1.1 (1:Int),())) else some (.inr (.inl (v1.1,())))
noncomputable def F181:((List D127×Unit)×((List D127×Unit)×((((ByteArray×(Int×(Int×(Int×(List D129×(ByteArray×(Int×(Int×(Int×(List D129×Unit))))))))))→Option (Bool×Unit))×Unit)×Unit)))→Option (((Bool×Unit)×Unit)):=fun x0=>bif !iEq (List.length x0.1.1:Int) (List.length x0.2.1.1:Int) then some ((false,()),()) else (loopF (F181.b0 x0) ((0:Int),())).bind fun r6=>Sum.elim (fun v5=>some ((true,()),())) some r6
noncomputable def c181:Con:=⟨i181,o181,F181⟩
def i183:List Grp:= [⟨.c,(.cons (.sl e129) .nil),[]⟩,⟨.c,(.cons (.sl e129) .nil),[]⟩]
def o183:List Grp:= [⟨.c,(.cons .bool .nil),[]⟩]
noncomputable def F183.b0 (x0:((List D129×Unit)×((List D129×Unit)×Unit))):(v1:(Int×Unit))→Option (Sum (Int×Unit) (Sum (Int×Unit) (((Bool×Unit)×Unit)))):=fun v1=>bif iLt v1.1 (List.length x0.1.1:Int) then (getI x0.1.1 v1.1).bind fun x2=>(getI x0.2.1.1 v1.1).bind fun x3=>bif !((iEq x2.1 x3.1)&&(iEq x2.2.1 x3.2.1)) then some (.inr (.inr ((false,()),()))) else some (.inl (iAdd .i64 v1.1 (1:Int),())) else some (.inr (.inl (v1.1,())))
noncomputable def F183:((List D129×Unit)×((List D129×Unit)×Unit))→Option (((Bool×Unit)×Unit)):=fun x0=>bif !iEq (List.length x0.1.1:Int) (List.length x0.2.1.1:Int) then some ((false,()),()) else (loopF (F183.b0 x0) ((0:Int),())).bind fun r5=>Sum.elim (fun v4=>some ((true,()),())) some r5
noncomputable def c183:Con:=⟨i183,o183,F183⟩
def i182:List Grp:= [⟨.agg,e127,[]⟩,⟨.agg,e127,[]⟩]
def o182:List Grp:= [⟨.c,(.cons .bool .nil),[]⟩]
noncomputable def F182:(D127×(D127×Unit))→Option (((Bool×Unit)×Unit)):=fun x0=>bif sEq x0.1.1 x0.2.1.1 then bif iEq x0.1.2.1 x0.2.1.2.1 then bif iEq x0.1.2.2.1 x0.2.1.2.2.1 then bif iEq x0.1.2.2.2.1 x0.2.1.2.2.2.1 then (F183 ((x0.1.2.2.2.2.1,()),((x0.2.1.2.2.2.2.1,()),()))).bind fun y1=>some (y1.1,()) else some ((false,()),()) else some ((false,()),()) else some ((false,()),()) else some ((false,()),())
noncomputable def c182:Con:=⟨i182,o182,F182⟩
def i108:List Grp:= [⟨.agg,e36,[]⟩,⟨.agg,e36,[]⟩]
def o108:List Grp:= [⟨.c,(.cons .bool .nil),[]⟩]
noncomputable def F108:(D36×(D36×Unit))→Option (((Bool×Unit)×Unit)):=fun x0=>bif iEq x0.1.1 x0.2.1.1 then (F181 ((x0.1.2.1,()),((x0.2.1.2.1,()),(((fun p1=>(F182 ((p1.1,(p1.2.1,(p1.2.2.1,(p1.2.2.2.1,(p1.2.2.2.2.1,()))))),((p1.2.2.2.2.2.1,(p1.2.2.2.2.2.2.1,(p1.2.2.2.2.2.2.2.1,(p1.2.2.2.2.2.2.2.2.1,(p1.2.2.2.2.2.2.2.2.2.1,()))))),()))).bind fun y2=>some (y2.1.1,())),()),())))).bind fun y3=>some (y3.1,()) else some ((false,()),())
noncomputable def c108:Con:=⟨i108,o108,F108⟩
def i59:List Grp:= [⟨.agg,e44,[]⟩]
def o59:List Grp:= [⟨.c,(.cons .bool .nil),[]⟩]
noncomputable def F59.b0 (x0:(D44×Unit)):(v1:(Int×Unit))→Option (Sum (Int×Unit) (Sum (Int×Unit) (((Bool×Unit)×Unit)))):=fun v1=>bif iLt v1.1 (List.length x0.1.2.2.2.1:Int) then (getI x0.1.2.2.2.1 v1.1).bind fun x2=>(F107 (x0.1,((x2.2.2.2.2.2.2.2.2.2.2.2.2.2.2.2.2.2.1,()),()))).bind fun y3=>(F9 (x0.1,(y3.1,()))).bind fun y4=>bif (!y4.2.1.1) then some (.inr (.inr ((false,()),()))) else (F108 (y4.1,((x2.2.2.1,(x2.2.2.2.1,())),()))).bind fun y5=>bif (!y5.1.1) then some (.inr (.inr ((false,()),()))) else some (.inl (iAdd .i64 v1.1 (1:Int),())) else some (.inr (.inl (v1.1,())))
noncomputable def F59:(D44×Unit)→Option (((Bool×Unit)×Unit)):=fun x0=>(loopF (F59.b0 x0) ((0:Int),())).bind fun r7=>Sum.elim (fun v6=>some ((true,()),())) some r7
noncomputable def c59:Con:=⟨i59,o59,F59⟩
def i60:List Grp:= [⟨.c,(.cons (.sl e4) .nil),[]⟩,⟨.c,(.cons .bool .nil),[]⟩]
def o60:List Grp:= [⟨.c,(.cons (.int .i64) .nil),[]⟩]
noncomputable def F60.b0 (x0:((List D4×Unit)×((Bool×Unit)×Unit))):(v1:(Int×Unit))→Option (Sum (Int×Unit) (Sum (Int×Unit) (((Int×Unit)×Unit)))):=fun v1=>bif iLt v1.1 (List.length x0.1.1:Int) then (getI x0.1.1 v1.1).bind fun x2=>bif bEq x0.2.1.1 x2.1 then some (.inr (.inr ((v1.1,()),()))) else some (.inl (iAdd .i64 v1.1 (1:Int),())) else some (.inr (.inl (v1.1,())))
noncomputable def F60:((List D4×Unit)×((Bool×Unit)×Unit))→Option (((Int×Unit)×Unit)):=fun x0=>(loopF (F60.b0 x0) ((0:Int),())).bind fun r4=>Sum.elim (fun v3=>some (((-1:Int),()),())) some r4
noncomputable def c60:Con:=⟨i60,o60,F60⟩
def i18:List Grp:= [⟨.agg,e44,[]⟩]
def o18:List Grp:= [⟨.c,(.cons (.int .i64) .nil),[]⟩]
noncomputable def F18:(D44×Unit)→Option (((Int×Unit)×Unit)):=fun x0=>(F56 (x0.1,())).bind fun y1=>(F57 (x0.1,())).bind fun y2=>(F58 (x0.1,())).bind fun y3=>(F59 (x0.1,())).bind fun y4=>(some (y1.1.1,(y2.1.1,(y3.1.1,(y4.1.1,()))))).bind fun x5=>(F60 ((([(x5.1,()),(x5.2.1,()),(x5.2.2.1,()),(x5.2.2.2.1,())]:List (D4)),()),((false,()),()))).bind fun y6=>some ((iAdd .i64 (1:Int) y6.1.1,()),())
noncomputable def c18:Con:=⟨i18,o18,F18⟩
def i202:List Grp:= [⟨.agg,e254,[]⟩,⟨.agg,e254,[]⟩]
def o202:List Grp:= [⟨.c,(.cons .bool .nil),[]⟩]
noncomputable def F202:(D254×(D254×Unit))→Option (((Bool×Unit)×Unit)):=fun x0=>bif !iEq x0.1.1 x0.2.1.1 then some ((false,()),()) else bif !iEq x0.1.2.1 x0.2.1.2.1 then some ((false,()),()) else some ((true,()),())
noncomputable def c202:Con:=⟨i202,o202,F202⟩
def i140:List Grp:= [⟨.c,(.cons (.sl e129) .nil),[]⟩,⟨.c,(.cons (.sl e129) .nil),[]⟩]
def o140:List Grp:= [⟨.c,(.cons .bool .nil),[]⟩]
noncomputable def F140.b0 (x0:((List D129×Unit)×((List D129×Unit)×Unit))):(v1:(Int×Unit))→Option (Sum (Int×Unit) (Sum (Int×Unit) (((Bool×Unit)×Unit)))):=fun v1=>bif iLt v1.1 (List.length x0.1.1:Int) then (getI x0.1.1 v1.1).bind fun x2=>(getI x0.2.1.1 v1.1).bind fun x3=>(F202 (x2,(x3,()))).bind fun y4=>bif (!y4.1.1) then some (.inr (.inr ((false,()),()))) else some (.inl (iAdd .i64 v1.1 (1:Int),())) else some (.inr (.inl (v1.1,())))
noncomputable def F140:((List D129×Unit)×((List D129×Unit)×Unit))→Option (((Bool×Unit)×Unit)):=fun x0=>bif !iEq (List.length x0.1.1:Int) (List.length x0.2.1.1:Int) then some ((false,()),()) else (loopF (F140.b0 x0) ((0:Int),())).bind fun r6=>Sum.elim (fun v5=>some ((true,()),())) some r6
noncomputable def c140:Con:=⟨i140,o140,F140⟩
def i77:List Grp:= [⟨.agg,e127,[]⟩,⟨.agg,e127,[]⟩]
def o77:List Grp:= [⟨.c,(.cons .bool .nil),[]⟩]
noncomputable def F77:(D127×(D127×Unit))→Option (((Bool×Unit)×Unit)):=fun x0=>bif !sEq x0.1.1 x0.2.1.1 then some ((false,()),()) else bif !iEq x0.1.2.1 x0.2.1.2.1 then some ((false,()),()) else bif !iEq x0.1.2.2.1 x0.2.1.2.2.1 then some ((false,()),()) else bif !iEq x0.1.2.2.2.1 x0.2.1.2.2.2.1 then some ((false,()),()) else (F140 ((x0.1.2.2.2.2.1,()),((x0.2.1.2.2.2.2.1,()),()))).bind fun y1=>bif (!y1.1.1) then some ((false,()),()) else some ((true,()),())
noncomputable def c77:Con:=⟨i77,o77,F77⟩
def i39:List Grp:= [⟨.c,(.cons (.sl e127) .nil),[]⟩,⟨.c,(.cons (.sl e127) .nil),[]⟩]
def o39:List Grp:= [⟨.c,(.cons .bool .nil),[]⟩]
noncomputable def F39.b0 (x0:((List D127×Unit)×((List D127×Unit)×Unit))):(v1:(Int×Unit))→Option (Sum (Int×Unit) (Sum (Int×Unit) (((Bool×Unit)×Unit)))):=fun v1=>bif iLt v1.1 (List.length x0.1.1:Int) then (getI x0.1.1 v1.1).bind fun x2=>(getI x0.2.1.1 v1.1).bind fun x3=>(F77 (x2,(x3,()))).bind fun y4=>bif (!y4.1.1) then some (.inr (.inr ((false,()),()))) else some (.inl (iAdd .i64 v1.1 (1:Int),())) else some (.inr (.inl (v1.1,())))
noncomputable def F39:((List D127×Unit)×((List D127×Unit)×Unit))→Option (((Bool×Unit)×Unit)):=fun x0=>bif !iEq (List.length x0.1.1:Int) (List.length x0.2.1.1:Int) then some ((false,()),()) else (loopF (F39.b0 x0) ((0:Int),())).bind fun r6=>Sum.elim (fun v5=>some ((true,()),())) some r6
noncomputable def c39:Con:=⟨i39,o39,F39⟩
def i10:List Grp:= [⟨.agg,e36,[]⟩,⟨.agg,e36,[]⟩]
def o10:List Grp:= [⟨.c,(.cons .bool .nil),[]⟩]
noncomputable def F10:(D36×(D36×Unit))→Option (((Bool×Unit)×Unit)):=fun x0=>bif !iEq x0.1.1 x0.2.1.1 then some ((false,()),()) else (F39 ((x0.1.2.1,()),((x0.2.1.2.1,()),()))).bind fun y1=>bif (!y1.1.1) then some ((false,()),()) else some ((true,()),())
noncomputable def c10:Con:=⟨i10,o10,F10⟩
def i40:List Grp:= [⟨.c,(.cons (.sl e9) .nil),[]⟩,⟨.c,(.cons (.sl e9) .nil),[]⟩]
def o40:List Grp:= [⟨.c,(.cons .bool .nil),[]⟩]
noncomputable def F40.b0 (x0:((List D9×Unit)×((List D9×Unit)×Unit))):(v1:(Int×Unit))→Option (Sum (Int×Unit) (Sum (Int×Unit) (((Bool×Unit)×Unit)))):=fun v1=>bif iLt v1.1 (List.length x0.1.1:Int) then (getI x0.1.1 v1.1).bind fun x2=>(getI x0.2.1.1 v1.1).bind fun x3=>bif !sEq x2.1 x3.1 then some (.inr (.inr ((false,()),()))) else some (.inl (iAdd .i64 v1.1 (1:Int),())) else some (.inr (.inl (v1.1,())))
noncomputable def F40:((List D9×Unit)×((List D9×Unit)×Unit))→Option (((Bool×Unit)×Unit)):=fun x0=>bif !iEq (List.length x0.1.1:Int) (List.length x0.2.1.1:Int) then some ((false,()),()) else (loopF (F40.b0 x0) ((0:Int),())).bind fun r5=>Sum.elim (fun v4=>some ((true,()),())) some r5
noncomputable def c40:Con:=⟨i40,o40,F40⟩
def i203:List Grp:= [⟨.agg,e230,[]⟩,⟨.agg,e230,[]⟩]
def o203:List Grp:= [⟨.c,(.cons .bool .nil),[]⟩]
noncomputable def F203:(D230×(D230×Unit))→Option (((Bool×Unit)×Unit)):=fun x0=>bif !sEq x0.1.1 x0.2.1.1 then some ((false,()),()) else bif !iEq x0.1.2.1 x0.2.1.2.1 then some ((false,()),()) else some ((true,()),())
noncomputable def c203:Con:=⟨i203,o203,F203⟩
def i141:List Grp:= [⟨.c,(.cons (.sl e209) .nil),[]⟩,⟨.c,(.cons (.sl e209) .nil),[]⟩]
def o141:List Grp:= [⟨.c,(.cons .bool .nil),[]⟩]
noncomputable def F141.b0 (x0:((List D209×Unit)×((List D209×Unit)×Unit))):(v1:(Int×Unit))→Option (Sum (Int×Unit) (Sum (Int×Unit) (((Bool×Unit)×Unit)))):=fun v1=>bif iLt v1.1 (List.length x0.1.1:Int) then (getI x0.1.1 v1.1).bind fun x2=>(getI x0.2.1.1 v1.1).bind fun x3=>(F203 (x2,(x3,()))).bind fun y4=>bif (!y4.1.1) then some (.inr (.inr ((false,()),()))) else some (.inl (iAdd .i64 v1.1 (1:Int),())) else some (.inr (.inl (v1.1,())))
noncomputable def F141:((List D209×Unit)×((List D209×Unit)×Unit))→Option (((Bool×Unit)×Unit)):=fun x0=>bif !iEq (List.length x0.1.1:Int) (List.length x0.2.1.1:Int) then some ((false,()),()) else (loopF (F141.b0 x0) ((0:Int),())).bind fun r6=>Sum.elim (fun v5=>some ((true,()),())) some r6
noncomputable def c141:Con:=⟨i141,o141,F141⟩
def i142:List Grp:= [⟨.agg,e98,[]⟩,⟨.agg,e98,[]⟩]
def o142:List Grp:= [⟨.c,(.cons .bool .nil),[]⟩]
noncomputable def F142:(D98×(D98×Unit))→Option (((Bool×Unit)×Unit)):=fun x0=>bif !iEq x0.1.1 x0.2.1.1 then some ((false,()),()) else bif !iEq x0.1.2.1 x0.2.1.2.1 then some ((false,()),()) else (F40 ((x0.1.2.2.1,()),((x0.2.1.2.2.1,()),()))).bind fun y1=>bif (!y1.1.1) then some ((false,()),()) else some ((true,()),())
noncomputable def c142:Con:=⟨i142,o142,F142⟩
def i12:List Grp:= [⟨.c,(.cons (.sl e3) .nil),[]⟩,⟨.c,(.cons (.sl e3) .nil),[]⟩]
def o12:List Grp:= [⟨.c,(.cons .bool .nil),[]⟩]
noncomputable def F12.b0 (x0:((List D3×Unit)×((List D3×Unit)×Unit))):(v1:(Int×Unit))→Option (Sum (Int×Unit) (Sum (Int×Unit) (((Bool×Unit)×Unit)))):=fun v1=>bif iLt v1.1 (List.length x0.1.1:Int) then (getI x0.1.1 v1.1).bind fun x2=>(getI x0.2.1.1 v1.1).bind fun x3=>bif !iEq x2.1 x3.1 then some (.inr (.inr ((false,()),()))) else some (.inl (iAdd .i64 v1.1 (1:Int),())) else some (.inr (.inl (v1.1,())))
noncomputable def F12:((List D3×Unit)×((List D3×Unit)×Unit))→Option (((Bool×Unit)×Unit)):=fun x0=>bif !iEq (List.length x0.1.1:Int) (List.length x0.2.1.1:Int) then some ((false,()),()) else (loopF (F12.b0 x0) ((0:Int),())).bind fun r5=>Sum.elim (fun v4=>some ((true,()),())) some r5
noncomputable def c12:Con:=⟨i12,o12,F12⟩
def i143:List Grp:= [⟨.agg,e99,[]⟩,⟨.agg,e99,[]⟩]
def o143:List Grp:= [⟨.c,(.cons .bool .nil),[]⟩]
noncomputable def F143:(D99×(D99×Unit))→Option (((Bool×Unit)×Unit)):=fun x0=>bif !iEq x0.1.1 x0.2.1.1 then some ((false,()),()) else (F40 ((x0.1.2.1,()),((x0.2.1.2.1,()),()))).bind fun y1=>bif (!y1.1.1) then some ((false,()),()) else (F12 ((x0.1.2.2.1,()),((x0.2.1.2.2.1,()),()))).bind fun y2=>bif (!y2.1.1) then some ((false,()),()) else some ((true,()),())
noncomputable def c143:Con:=⟨i143,o143,F143⟩
def i204:List Grp:= [⟨.agg,e232,[]⟩,⟨.agg,e232,[]⟩]
def o204:List Grp:= [⟨.c,(.cons .bool .nil),[]⟩]
noncomputable def F204:(D232×(D232×Unit))→Option (((Bool×Unit)×Unit)):=fun x0=>bif !iEq x0.1.1 x0.2.1.1 then some ((false,()),()) else bif !sEq x0.1.2.1 x0.2.1.2.1 then some ((false,()),()) else bif !sEq x0.1.2.2.1 x0.2.1.2.2.1 then some ((false,()),()) else bif !iEq x0.1.2.2.2.1 x0.2.1.2.2.2.1 then some ((false,()),()) else bif !iEq x0.1.2.2.2.2.1 x0.2.1.2.2.2.2.1 then some ((false,()),()) else some ((true,()),())
noncomputable def c204:Con:=⟨i204,o204,F204⟩
def i146:List Grp:= [⟨.c,(.cons (.sl e122) .nil),[]⟩,⟨.c,(.cons (.sl e122) .nil),[]⟩]
def o146:List Grp:= [⟨.c,(.cons .bool .nil),[]⟩]
noncomputable def F146.b0 (x0:((List D122×Unit)×((List D122×Unit)×Unit))):(v1:(Int×Unit))→Option (Sum (Int×Unit) (Sum (Int×Unit) (((Bool×Unit)×Unit)))):=fun v1=>bif iLt v1.1 (List.length x0.1.1:Int) then (getI x0.1.1 v1.1).bind fun x2=>(getI x0.2.1.1 v1.1).bind fun x3=>(F204 (x2,(x3,()))).bind fun y4=>bif (!y4.1.1) then some (.inr (.inr ((false,()),()))) else some (.inl (iAdd .i64 v1.1 (1:Int),())) else some (.inr (.inl (v1.1,())))
noncomputable def F146:((List D122×Unit)×((List D122×Unit)×Unit))→Option (((Bool×Unit)×Unit)):=fun x0=>bif !iEq (List.length x0.1.1:Int) (List.length x0.2.1.1:Int) then some ((false,()),()) else (loopF (F146.b0 x0) ((0:Int),())).bind fun r6=>Sum.elim (fun v5=>some ((true,()),())) some r6
noncomputable def c146:Con:=⟨i146,o146,F146⟩
def i79:List Grp:= [⟨.agg,e71,[]⟩,⟨.agg,e71,[]⟩]
def o79:List Grp:= [⟨.c,(.cons .bool .nil),[]⟩]
noncomputable def F79:(D71×(D71×Unit))→Option (((Bool×Unit)×Unit)):=fun x0=>bif !iEq x0.1.1 x0.2.1.1 then some ((false,()),()) else bif !iEq x0.1.2.1 x0.2.1.2.1 then some ((false,()),()) else bif !iEq x0.1.2.2.1 x0.2.1.2.2.1 then some ((false,()),()) else bif !sEq x0.1.2.2.2.1 x0.2.1.2.2.2.1 then some ((false,()),()) else (F142 ((x0.1.2.2.2.2.1,(x0.1.2.2.2.2.2.1,(x0.1.2.2.2.2.2.2.1,()))),((x0.2.1.2.2.2.2.1,(x0.2.1.2.2.2.2.2.1,(x0.2.1.2.2.2.2.2.2.1,()))),()))).bind fun y1=>bif (!y1.1.1) then some ((false,()),()) else (F143 ((x0.1.2.2.2.2.2.2.2.1,(x0.1.2.2.2.2.2.2.2.2.1,(x0.1.2.2.2.2.2.2.2.2.2.1,()))),((x0.2.1.2.2.2.2.2.2.2.1,(x0.2.1.2.2.2.2.2.2.2.2.1,(x0.2.1.2.2.2.2.2.2.2.2.2.1,()))),()))).bind fun y2=>bif (!y2.1.1) then some ((false,()),()) else (F146 ((x0.1.2.2.2.2.2.2.2.2.2.2.1,()),((x0.2.1.2.2.2.2.2.2.2.2.2.2.1,()),()))).bind fun y3=>bif (!y3.1.1) then some ((false,()),()) else bif !bEq x0.1.2.2.2.2.2.2.2.2.2.2.2.1 x0.2.1.2.2.2.2.2.2.2.2.2.2.2.1 then some ((false,()),()) else (F141 ((x0.1.2.2.2.2.2.2.2.2.2.2.2.2.1,()),((x0.2.1.2.2.2.2.2.2.2.2.2.2.2.2.1,()),()))).bind fun y4=>bif (!y4.1.1) then some ((false,()),()) else bif !sEq x0.1.2.2.2.2.2.2.2.2.2.2.2.2.2.1 x0.2.1.2.2.2.2.2.2.2.2.2.2.2.2.2.1 then some ((false,()),()) else some ((true,()),())
noncomputable def c79:Con:=⟨i79,o79,F79⟩
def i42:List Grp:= [⟨.c,(.cons (.sl e71) .nil),[]⟩,⟨.c,(.cons (.sl e71) .nil),[]⟩]
def o42:List Grp:= [⟨.c,(.cons .bool .nil),[]⟩]
noncomputable def F42.b0 (x0:((List D71×Unit)×((List D71×Unit)×Unit))):(v1:(Int×Unit))→Option (Sum (Int×Unit) (Sum (Int×Unit) (((Bool×Unit)×Unit)))):=fun v1=>bif iLt v1.1 (List.length x0.1.1:Int) then (getI x0.1.1 v1.1).bind fun x2=>(getI x0.2.1.1 v1.1).bind fun x3=>(F79 (x2,(x3,()))).bind fun y4=>bif (!y4.1.1) then some (.inr (.inr ((false,()),()))) else some (.inl (iAdd .i64 v1.1 (1:Int),())) else some (.inr (.inl (v1.1,())))
noncomputable def F42:((List D71×Unit)×((List D71×Unit)×Unit))→Option (((Bool×Unit)×Unit)):=fun x0=>bif !iEq (List.length x0.1.1:Int) (List.length x0.2.1.1:Int) then some ((false,()),()) else (loopF (F42.b0 x0) ((0:Int),())).bind fun r6=>Sum.elim (fun v5=>some ((true,()),())) some r6
noncomputable def c42:Con:=⟨i42,o42,F42⟩
def i148:List Grp:= [⟨.agg,e114,[]⟩,⟨.agg,e114,[]⟩]
def o148:List Grp:= [⟨.c,(.cons .bool .nil),[]⟩]
noncomputable def F148:(D114×(D114×Unit))→Option (((Bool×Unit)×Unit)):=fun x0=>bif !iEq x0.1.1 x0.2.1.1 then some ((false,()),()) else bif !iEq x0.1.2.1 x0.2.1.2.1 then some ((false,()),()) else bif !sEq x0.1.2.2.1 x0.2.1.2.2.1 then some ((false,()),()) else some ((true,()),())
noncomputable def c148:Con:=⟨i148,o148,F148⟩
def i144:List Grp:= [⟨.c,(.cons (.sl e140) .nil),[]⟩,⟨.c,(.cons (.sl e140) .nil),[]⟩]
def o144:List Grp:= [⟨.c,(.cons .bool .nil),[]⟩]
noncomputable def F144.b0 (x0:((List D140×Unit)×((List D140×Unit)×Unit))):(v1:(Int×Unit))→Option (Sum (Int×Unit) (Sum (Int×Unit) (((Bool×Unit)×Unit)))):=fun v1=>bif iLt v1.1 (List.length x0.1.1:Int) then (getI x0.1.1 v1.1).bind fun x2=>(getI x0.2.1.1 v1.1).bind fun x3=>(F148 (x2,(x3,()))).bind fun y4=>bif (!y4.1.1) then some (.inr (.inr ((false,()),()))) else some (.inl (iAdd .i64 v1.1 (1:Int),())) else some (.inr (.inl (v1.1,())))
noncomputable def F144:((List D140×Unit)×((List D140×Unit)×Unit))→Option (((Bool×Unit)×Unit)):=fun x0=>bif !iEq (List.length x0.1.1:Int) (List.length x0.2.1.1:Int) then some ((false,()),()) else (loopF (F144.b0 x0) ((0:Int),())).bind fun r6=>Sum.elim (fun v5=>some ((true,()),())) some r6
noncomputable def c144:Con:=⟨i144,o144,F144⟩
def i149:List Grp:= [⟨.agg,e114,[]⟩,⟨.agg,e114,[]⟩]
def o149:List Grp:= [⟨.c,(.cons .bool .nil),[]⟩]
noncomputable def F149:(D114×(D114×Unit))→Option (((Bool×Unit)×Unit)):=fun x0=>bif !iEq x0.1.1 x0.2.1.1 then some ((false,()),()) else bif !iEq x0.1.2.1 x0.2.1.2.1 then some ((false,()),()) else bif !sEq x0.1.2.2.1 x0.2.1.2.2.1 then some ((false,()),()) else some ((true,()),())
noncomputable def c149:Con:=⟨i149,o149,F149⟩
def i145:List Grp:= [⟨.c,(.cons (.sl e141) .nil),[]⟩,⟨.c,(.cons (.sl e141) .nil),[]⟩]
def o145:List Grp:= [⟨.c,(.cons .bool .nil),[]⟩]
noncomputable def F145.b0 (x0:((List D141×Unit)×((List D141×Unit)×Unit))):(v1:(Int×Unit))→Option (Sum (Int×Unit) (Sum (Int×Unit) (((Bool×Unit)×Unit)))):=fun v1=>bif iLt v1.1 (List.length x0.1.1:Int) then (getI x0.1.1 v1.1).bind fun x2=>(getI x0.2.1.1 v1.1).bind fun x3=>(F149 (x2,(x3,()))).bind fun y4=>bif (!y4.1.1) then some (.inr (.inr ((false,()),()))) else some (.inl (iAdd .i64 v1.1 (1:Int),())) else some (.inr (.inl (v1.1,())))
noncomputable def F145:((List D141×Unit)×((List D141×Unit)×Unit))→Option (((Bool×Unit)×Unit)):=fun x0=>bif !iEq (List.length x0.1.1:Int) (List.length x0.2.1.1:Int) then some ((false,()),()) else (loopF (F145.b0 x0) ((0:Int),())).bind fun r6=>Sum.elim (fun v5=>some ((true,()),())) some r6
noncomputable def c145:Con:=⟨i145,o145,F145⟩
def i205:List Grp:= [⟨.agg,e211,[]⟩,⟨.agg,e211,[]⟩]
def o205:List Grp:= [⟨.c,(.cons .bool .nil),[]⟩]
noncomputable def F205:(D211×(D211×Unit))→Option (((Bool×Unit)×Unit)):=fun x0=>bif !iEq x0.1.1 x0.2.1.1 then some ((false,()),()) else (F42 ((x0.1.2.1,()),((x0.2.1.2.1,()),()))).bind fun y1=>bif (!y1.1.1) then some ((false,()),()) else (F142 ((x0.1.2.2.1,(x0.1.2.2.2.1,(x0.1.2.2.2.2.1,()))),((x0.2.1.2.2.1,(x0.2.1.2.2.2.1,(x0.2.1.2.2.2.2.1,()))),()))).bind fun y2=>bif (!y2.1.1) then some ((false,()),()) else some ((true,()),())
noncomputable def c205:Con:=⟨i205,o205,F205⟩
def i147:List Grp:= [⟨.c,(.cons (.sl e211) .nil),[]⟩,⟨.c,(.cons (.sl e211) .nil),[]⟩]
def o147:List Grp:= [⟨.c,(.cons .bool .nil),[]⟩]
noncomputable def F147.b0 (x0:((List D211×Unit)×((List D211×Unit)×Unit))):(v1:(Int×Unit))→Option (Sum (Int×Unit) (Sum (Int×Unit) (((Bool×Unit)×Unit)))):=fun v1=>bif iLt v1.1 (List.length x0.1.1:Int) then (getI x0.1.1 v1.1).bind fun x2=>(getI x0.2.1.1 v1.1).bind fun x3=>(F205 (x2,(x3,()))).bind fun y4=>bif (!y4.1.1) then some (.inr (.inr ((false,()),()))) else some (.inl (iAdd .i64 v1.1 (1:Int),())) else some (.inr (.inl (v1.1,())))
noncomputable def F147:((List D211×Unit)×((List D211×Unit)×Unit))→Option (((Bool×Unit)×Unit)):=fun x0=>bif !iEq (List.length x0.1.1:Int) (List.length x0.2.1.1:Int) then some ((false,()),()) else (loopF (F147.b0 x0) ((0:Int),())).bind fun r6=>Sum.elim (fun v5=>some ((true,()),())) some r6
noncomputable def c147:Con:=⟨i147,o147,F147⟩
def i78:List Grp:= [⟨.agg,e135,[]⟩,⟨.agg,e135,[]⟩]
def o78:List Grp:= [⟨.c,(.cons .bool .nil),[]⟩]
noncomputable def F78:(D135×(D135×Unit))→Option (((Bool×Unit)×Unit)):=fun x0=>bif !sEq x0.1.1 x0.2.1.1 then some ((false,()),()) else bif !iEq x0.1.2.1 x0.2.1.2.1 then some ((false,()),()) else (F10 ((x0.1.2.2.1,(x0.1.2.2.2.1,())),((x0.2.1.2.2.1,(x0.2.1.2.2.2.1,())),()))).bind fun y1=>bif (!y1.1.1) then some ((false,()),()) else (F141 ((x0.1.2.2.2.2.1,()),((x0.2.1.2.2.2.2.1,()),()))).bind fun y2=>bif (!y2.1.1) then some ((false,()),()) else (F42 ((x0.1.2.2.2.2.2.1,()),((x0.2.1.2.2.2.2.2.1,()),()))).bind fun y3=>bif (!y3.1.1) then some ((false,()),()) else bif !iEq x0.1.2.2.2.2.2.2.1 x0.2.1.2.2.2.2.2.2.1 then some ((false,()),()) else bif !iEq x0.1.2.2.2.2.2.2.2.1 x0.2.1.2.2.2.2.2.2.2.1 then some ((false,()),()) else (F142 ((x0.1.2.2.2.2.2.2.2.2.1,(x0.1.2.2.2.2.2.2.2.2.2.1,(x0.1.2.2.2.2.2.2.2.2.2.2.1,()))),((x0.2.1.2.2.2.2.2.2.2.2.1,(x0.2.1.2.2.2.2.2.2.2.2.2.1,(x0.2.1.2.2.2.2.2.2.2.2.2.2.1,()))),()))).bind fun y4=>bif (!y4.1.1) then some ((false,()),()) else (F143 ((x0.1.2.2.2.2.2.2.2.2.2.2.2.1,(x0.1.2.2.2.2.2.2.2.2.2.2.2.2.1,(x0.1.2.2.2.2.2.2.2.2.2.2.2.2.2.1,()))),((x0.2.1.2.2.2.2.2.2.2.2.2.2.2.1,(x0.2.1.2.2.2.2.2.2.2.2.2.2.2.2.1,(x0.2.1.2.2.2.2.2.2.2.2.2.2.2.2.2.1,()))),()))).bind fun y5=>bif (!y5.1.1) then some ((false,()),()) else bif !iEq x0.1.2.2.2.2.2.2.2.2.2.2.2.2.2.2.1 x0.2.1.2.2.2.2.2.2.2.2.2.2.2.2.2.2.1 then some ((false,()),()) else (F144 ((x0.1.2.2.2.2.2.2.2.2.2.2.2.2.2.2.2.1,()),((x0.2.1.2.2.2.2.2.2.2.2.2.2.2.2.2.2.2.1,()),()))).bind fun y6=>bif (!y6.1.1) then some ((false,()),()) else (F145 ((x0.1.2.2.2.2.2.2.2.2.2.2.2.2.2.2.2.2.1,()),((x0.2.1.2.2.2.2.2.2.2.2.2.2.2.2.2.2.2.2.1,()),()))).bind fun y7=>bif (!y7.1.1) then some ((false,()),()) else (F12 ((x0.1.2.2.2.2.2.2.2.2.2.2.2.2.2.2.2.2.2.1,()),((x0.2.1.2.2.2.2.2.2.2.2.2.2.2.2.2.2.2.2.2.1,()),()))).bind fun y8=>bif (!y8.1.1) then some ((false,()),()) else (F146 ((x0.1.2.2.2.2.2.2.2.2.2.2.2.2.2.2.2.2.2.2.1,()),((x0.2.1.2.2.2.2.2.2.2.2.2.2.2.2.2.2.2.2.2.2.1,()),()))).bind fun y9=>bif (!y9.1.1) then some ((false,()),()) else (F147 ((x0.1.2.2.2.2.2.2.2.2.2.2.2.2.2.2.2.2.2.2.2.1,()),((x0.2.1.2.2.2.2.2.2.2.2.2.2.2.2.2.2.2.2.2.2.2.1,()),()))).bind fun y10=>bif (!y10.1.1) then some ((false,()),()) else some ((true,()),())
noncomputable def c78:Con:=⟨i78,o78,F78⟩
end Go.Proofs.YtmjkakjeiopieaaGreat
-- no more blanks than needed
