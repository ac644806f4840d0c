/- What the functions that the laws reach compute, as functions over plain data; each one's equation with the program is checked by the kernel, part 2. Conditions: none. -/
import Derived.Test.YtmjkakjeiopieaaGreatSaFa
namespace Go.Proofs.YtmjkakjeiopieaaGreat
open Go Go.Tm
set_option linter.unusedVariables false
set_option maxRecDepth 100000
def i41:List Grp:= [⟨.c,(.cons (.sl e135) .nil),[]⟩,⟨.c,(.cons (.sl e135) .nil),[]⟩]
def o41:List Grp:= [⟨.c,(.cons .bool .nil),[]⟩]
noncomputable def F41.b0 (x0:((List D135×Unit)×((List D135×Unit)×Unit))):(v1:(Int×Unit))→Option (Sum (Int×Unit) (Sum (Int×Unit) (((Bool×Unit)×Unit)))):=fun v1=>bif iLt v1.1 (List.length x0.1.1:Int) then (getI x0.1.1 v1.1).bind fun x2=>(getI x0.2.1.1 v1.1).bind fun x3=>(F78 (x2,(x3,()))).bind fun y4=>bif (!y4.1.1) then some (.inr (.inr ((false,()),()))) else some (.inl (iAdd .i64 v1.1 (1:Int),())) else some (.inr (.inl (v1.1,())))
noncomputable def F41:((List D135×Unit)×((List D135×Unit)×Unit))→Option (((Bool×Unit)×Unit)):=fun x0=>bif !iEq (List.length x0.1.1:Int) (List.length x0.2.1.1:Int) then some ((false,()),()) else (loopF (F41.b0 x0) ((0:Int),())).bind fun r6=>Sum.elim (fun v5=>some ((true,()),())) some r6
noncomputable def c41:Con:=⟨i41,o41,F41⟩
def i80:List Grp:= [⟨.agg,e111,[]⟩,⟨.agg,e111,[]⟩]
def o80:List Grp:= [⟨.c,(.cons .bool .nil),[]⟩]
noncomputable def F80:(D111×(D111×Unit))→Option (((Bool×Unit)×Unit)):=fun x0=>bif !iEq x0.1.1 x0.2.1.1 then some ((false,()),()) else bif !iEq x0.1.2.1 x0.2.1.2.1 then some ((false,()),()) else bif !iEq x0.1.2.2.1 x0.2.1.2.2.1 then some ((false,()),()) else bif !iEq x0.1.2.2.2.1 x0.2.1.2.2.2.1 then some ((false,()),()) else bif !sEq x0.1.2.2.2.2.1 x0.2.1.2.2.2.2.1 then some ((false,()),()) else some ((true,()),())
noncomputable def c80:Con:=⟨i80,o80,F80⟩
def i43:List Grp:= [⟨.c,(.cons (.sl e138) .nil),[]⟩,⟨.c,(.cons (.sl e138) .nil),[]⟩]
def o43:List Grp:= [⟨.c,(.cons .bool .nil),[]⟩]
noncomputable def F43.b0 (x0:((List D138×Unit)×((List D138×Unit)×Unit))):(v1:(Int×Unit))→Option (Sum (Int×Unit) (Sum (Int×Unit) (((Bool×Unit)×Unit)))):=fun v1=>bif iLt v1.1 (List.length x0.1.1:Int) then (getI x0.1.1 v1.1).bind fun x2=>(getI x0.2.1.1 v1.1).bind fun x3=>(F80 (x2,(x3,()))).bind fun y4=>bif (!y4.1.1) then some (.inr (.inr ((false,()),()))) else some (.inl (iAdd .i64 v1.1 (1:Int),())) else some (.inr (.inl (v1.1,())))
noncomputable def F43:((List D138×Unit)×((List D138×Unit)×Unit))→Option (((Bool×Unit)×Unit)):=fun x0=>bif !iEq (List.length x0.1.1:Int) (List.length x0.2.1.1:Int) then some ((false,()),()) else (loopF (F43.b0 x0) ((0:Int),())).bind fun r6=>Sum.elim (fun v5=>some ((true,()),())) some r6
noncomputable def c43:Con:=⟨i43,o43,F43⟩
def i81:List Grp:= [⟨.agg,e143,[]⟩,⟨.agg,e143,[]⟩]
def o81:List Grp:= [⟨.c,(.cons .bool .nil),[]⟩]
noncomputable def F81:(D143×(D143×Unit))→Option (((Bool×Unit)×Unit)):=fun x0=>bif !iEq x0.1.1 x0.2.1.1 then some ((false,()),()) else bif !sEq x0.1.2.1 x0.2.1.2.1 then some ((false,()),()) else bif !iEq x0.1.2.2.1 x0.2.1.2.2.1 then some ((false,()),()) else (F42 ((x0.1.2.2.2.1,()),((x0.2.1.2.2.2.1,()),()))).bind fun y1=>bif (!y1.1.1) then some ((false,()),()) else (F148 ((x0.1.2.2.2.2.1,(x0.1.2.2.2.2.2.1,(x0.1.2.2.2.2.2.2.1,()))),((x0.2.1.2.2.2.2.1,(x0.2.1.2.2.2.2.2.1,(x0.2.1.2.2.2.2.2.2.1,()))),()))).bind fun y2=>bif (!y2.1.1) then some ((false,()),()) else (F149 ((x0.1.2.2.2.2.2.2.2.1,(x0.1.2.2.2.2.2.2.2.2.1,(x0.1.2.2.2.2.2.2.2.2.2.1,()))),((x0.2.1.2.2.2.2.2.2.2.1,(x0.2.1.2.2.2.2.2.2.2.2.1,(x0.2.1.2.2.2.2.2.2.2.2.2.1,()))),()))).bind fun y3=>bif (!y3.1.1) then some ((false,()),()) else (F142 ((x0.1.2.2.2.2.2.2.2.2.2.2.1,(x0.1.2.2.2.2.2.2.2.2.2.2.2.1,(x0.1.2.2.2.2.2.2.2.2.2.2.2.2.1,()))),((x0.2.1.2.2.2.2.2.2.2.2.2.2.1,(x0.2.1.2.2.2.2.2.2.2.2.2.2.2.1,(x0.2.1.2.2.2.2.2.2.2.2.2.2.2.2.1,()))),()))).bind fun y4=>bif (!y4.1.1) then some ((false,()),()) else (F143 ((x0.1.2.2.2.2.2.2.2.2.2.2.2.2.2.1,(x0.1.2.2.2.2.2.2.2.2.2.2.2.2.2.2.1,(x0.1.2.2.2.2.2.2.2.2.2.2.2.2.2.2.2.1,()))),((x0.2.1.2.2.2.2.2.2.2.2.2.2.2.2.2.1,(x0.2.1.2.2.2.2.2.2.2.2.2.2.2.2.2.2.1,(x0.2.1.2.2.2.2.2.2.2.2.2.2.2.2.2.2.2.1,()))),()))).bind fun y5=>bif (!y5.1.1) then some ((false,()),()) else some ((true,()),())
noncomputable def c81:Con:=⟨i81,o81,F81⟩
def i44:List Grp:= [⟨.c,(.cons (.sl e143) .nil),[]⟩,⟨.c,(.cons (.sl e143) .nil),[]⟩]
def o44:List Grp:= [⟨.c,(.cons .bool .nil),[]⟩]
noncomputable def F44.b0 (x0:((List D143×Unit)×((List D143×Unit)×Unit))):(v1:(Int×Unit))→Option (Sum (Int×Unit) (Sum (Int×Unit) (((Bool×Unit)×Unit)))):=fun v1=>bif iLt v1.1 (List.length x0.1.1:Int) then (getI x0.1.1 v1.1).bind fun x2=>(getI x0.2.1.1 v1.1).bind fun x3=>(F81 (x2,(x3,()))).bind fun y4=>bif (!y4.1.1) then some (.inr (.inr ((false,()),()))) else some (.inl (iAdd .i64 v1.1 (1:Int),())) else some (.inr (.inl (v1.1,())))
noncomputable def F44:((List D143×Unit)×((List D143×Unit)×Unit))→Option (((Bool×Unit)×Unit)):=fun x0=>bif !iEq (List.length x0.1.1:Int) (List.length x0.2.1.1:Int) then some ((false,()),()) else (loopF (F44.b0 x0) ((0:Int),())).bind fun r6=>Sum.elim (fun v5=>some ((true,()),())) some r6
noncomputable def c44:Con:=⟨i44,o44,F44⟩
def i11:List Grp:= [⟨.agg,e44,[]⟩,⟨.agg,e44,[]⟩]
def o11:List Grp:= [⟨.c,(.cons .bool .nil),[]⟩]
noncomputable def F11:(D44×(D44×Unit))→Option (((Bool×Unit)×Unit)):=fun x0=>(F10 ((x0.1.1,(x0.1.2.1,())),((x0.2.1.1,(x0.2.1.2.1,())),()))).bind fun y1=>bif (!y1.1.1) then some ((false,()),()) else (F40 ((x0.1.2.2.1,()),((x0.2.1.2.2.1,()),()))).bind fun y2=>bif (!y2.1.1) then some ((false,()),()) else (F41 ((x0.1.2.2.2.1,()),((x0.2.1.2.2.2.1,()),()))).bind fun y3=>bif (!y3.1.1) then some ((false,()),()) else (F42 ((x0.1.2.2.2.2.1,()),((x0.2.1.2.2.2.2.1,()),()))).bind fun y4=>bif (!y4.1.1) then some ((false,()),()) else (F43 ((x0.1.2.2.2.2.2.1,()),((x0.2.1.2.2.2.2.2.1,()),()))).bind fun y5=>bif (!y5.1.1) then some ((false,()),()) else (F44 ((x0.1.2.2.2.2.2.2.1,()),((x0.2.1.2.2.2.2.2.2.1,()),()))).bind fun y6=>bif (!y6.1.1) then some ((false,()),()) else some ((true,()),())
noncomputable def c11:Con:=⟨i11,o11,F11⟩
def i4:List Grp:= [⟨.agg,e31,[]⟩]
def o4:List Grp:= [⟨.c,(.cons .bool .nil),[]⟩]
noncomputable def F4:(D31×Unit)→Option (((Bool×Unit)×Unit)):=fun x0=>(F5 (x0.1,(((1048576:Int),()),()))).bind fun y1=>bif iLt y1.1.1 (0:Int) then some ((true,()),()) else (F7 (x0.1,())).bind fun y2=>(F17 (y2.1,())).bind fun y3=>(F7 (x0.1,())).bind fun y4=>(F18 (y4.1,())).bind fun y5=>bif !iEq y5.1.1 y3.1.1 then some ((false,()),()) else (F7 (x0.1,())).bind fun y6=>(F11 (y4.1,(y6.1,()))).bind fun y7=>bif (!y7.1.1) then some ((false,()),()) else some ((true,()),())
noncomputable def c4:Con:=⟨i4,o4,F4⟩
end Go.Proofs.YtmjkakjeiopieaaGreat
-- no more blanks than needed
