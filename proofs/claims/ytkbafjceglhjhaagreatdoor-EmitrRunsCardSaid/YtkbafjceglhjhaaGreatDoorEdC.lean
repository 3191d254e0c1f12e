/-
  Callees that write a row of the caller's, and callees that append to it: what the caller's own memory is behind them. Conditions: as before.
-/
import Derived.Test.YtkbafjceglhjhaaGreatDoorSyS
import Derived.ChangeSame
import Derived.Test.YtkbafjceglhjhaaGreatDoorSyA
import Derived.Test.YtkbafjceglhjhaaGreatDoorProg
import Derived.KernelRfl
import Derived.Test.YtkbafjceglhjhaaGreatDoorRows
namespace Go.Sy
def AiN (P:Program) (G:Nat->V) (f:FuncId) (M:List V->List Blk->AA):Prop :=
 ∀ vs cs κ S h w v h',Good κ S h w->TD G S w->VRs S w vs κ cs->(M vs h).sem=some (v,h') ->
  Mg P f cs w λe w'=>∃ c κ' S',e = .returned c∧Good κ' S' (after h h') w'∧VR S' w' v κ' c∧Ext κ S h w κ' S' (after h h') w'∧Ze κ κ' w w' h'
def Ql (P:Program) (G:Nat->V) (mt:List (Nat×(List V->List Blk->AA))):Prop:=∀ p,p ∈ mt->AiN P G p.1 p.2
theorem Ql.nil {P:Program} {G:Nat->V}:Ql P G []:=λ_ h=>by cases h
theorem Ql.cons {P:Program} {G:Nat->V} {f:Nat} {M:List V->List Blk->AA} {mt:List (Nat×(List V->List Blk->AA))} (h:AiN P G f M) (ht:Ql P G mt):Ql P G ((f,M)::mt):=λp hp=>by
 rcases List.mem_cons.1 hp with rfl | hp
 ·exact h
 ·exact ht p hp
section
variable {P:Program} {τ:List Ty} (hτ:TabOK P τ) (hm:P.follows .mixedOrders=true) {G:Nat->V} {f:FuncId} {fn:Func} {e s:Nat}
include hτ hm in
include hτ hm in
end
end Go.Sy
namespace Go.Sy
end Go.Sy
namespace Go.Sy
open Go.Proofs
set_option maxRecDepth 100000
def tab:List Ty:=[
 ⟨.other,1,0,.und,false⟩,
 ⟨.other,1,8,.val (.nilFunc),false⟩,
 ⟨.int .i64,1,8,.val (.int .i64 0),false⟩,
 ⟨.int .i64,1,8,.val (.int .i64 0),false⟩,
 ⟨.bool,1,1,.val (.bool false),false⟩,
 ⟨.int .u8,1,1,.val (.int .u8 0),false⟩,
 ⟨.int .u8,1,1,.val (.int .u8 0),false⟩,
 ⟨.st [(0,2),(1,3),(2,4),(3,6)],4,24,.agg [.val (.int .i64 0),.val (.int .i64 0),.val (.bool false),.val (.int .u8 0)],true⟩,
 ⟨.st [(0,2),(1,3),(2,4),(3,6)],4,24,.agg [.val (.int .i64 0),.val (.int .i64 0),.val (.bool false),.val (.int .u8 0)],true⟩,
 ⟨.str,1,16,.str [],false⟩,
 ⟨.str,1,16,.str [],false⟩,
 ⟨.str,1,16,.str [],false⟩,
 ⟨.int .u64,1,8,.val (.int .u64 0),false⟩,
 ⟨.st [(0,9),(1,12)],2,24,.agg [.str [],.val (.int .u64 0)],false⟩,
 ⟨.st [(0,9),(1,12)],2,24,.agg [.str [],.val (.int .u64 0)],false⟩,
 ⟨.other,1,8,.val (.pointer none),false⟩,
 ⟨.other,1,8,.val (.pointer none),false⟩,
 ⟨.other,1,8,.val (.pointer none),false⟩,
 ⟨.st [(0,17)],1,8,.agg [.val (.pointer none)],false⟩,
 ⟨.st [(0,17)],1,8,.agg [.val (.pointer none)],false⟩,
 ⟨.other,1,16,.val (.nilIface),false⟩,
 ⟨.int .i32,1,4,.val (.int .i32 0),false⟩,
 ⟨.sl 76,1,24,.nilS,false⟩,
 ⟨.sl 74,1,24,.nilS,false⟩,
 ⟨.sl 3,1,24,.nilS,false⟩,
 ⟨.sl 24,1,24,.nilS,false⟩,
 ⟨.st [(0,3),(1,22),(2,23),(3,3),(4,3),(5,24),(6,25)],7,120,.agg [.val (.int .i64 0),.nilS,.nilS,.val (.int .i64 0),.val (.int .i64 0),.nilS,.nilS],false⟩,
 ⟨.st [(0,3),(1,22),(2,23),(3,3),(4,3),(5,24),(6,25)],7,120,.agg [.val (.int .i64 0),.nilS,.nilS,.val (.int .i64 0),.val (.int .i64 0),.nilS,.nilS],false⟩,
 ⟨.other,1,8,.val (.nilFunc),false⟩,
 ⟨.sl 63,1,24,.nilS,false⟩,
 ⟨.int .i64,1,8,.val (.int .i64 0),false⟩,
 ⟨.other,1,0,.und,false⟩,
 ⟨.other,1,8,.val (.nilFunc),false⟩,
 ⟨.other,1,0,.und,false⟩,
 ⟨.other,1,8,.val (.nilFunc),false⟩,
 ⟨.sl 68,1,24,.nilS,false⟩,
 ⟨.other,1,0,.und,false⟩,
 ⟨.other,1,8,.val (.nilFunc),false⟩,
 ⟨.other,1,8,.val (.nilFunc),false⟩,
 ⟨.other,1,8,.val (.nilFunc),false⟩,
 ⟨.other,1,8,.val (.nilFunc),false⟩,
 ⟨.other,1,8,.val (.nilFunc),false⟩,
 ⟨.st [(0,3),(1,3),(2,9)],3,32,.agg [.val (.int .i64 0),.val (.int .i64 0),.str []],true⟩,
 ⟨.st [(0,3),(1,3),(2,9)],3,32,.agg [.val (.int .i64 0),.val (.int .i64 0),.str []],true⟩,
 ⟨.sl 46,1,24,.nilS,false⟩,
 ⟨.st [(0,3),(1,43),(4,3),(5,44)],6,72,.agg [.val (.int .i64 0),.val (.int .i64 0),.val (.int .i64 0),.str [],.val (.int .i64 0),.nilS],false⟩,
 ⟨.st [(0,3),(1,43),(4,3),(5,44)],6,72,.agg [.val (.int .i64 0),.val (.int .i64 0),.val (.int .i64 0),.str [],.val (.int .i64 0),.nilS],false⟩,
 ⟨.st [(0,3),(1,46)],7,80,.agg [.val (.int .i64 0),.val (.int .i64 0),.val (.int .i64 0),.val (.int .i64 0),.str [],.val (.int .i64 0),.nilS],false⟩,
 ⟨.st [(0,3),(1,46)],7,80,.agg [.val (.int .i64 0),.val (.int .i64 0),.val (.int .i64 0),.val (.int .i64 0),.str [],.val (.int .i64 0),.nilS],false⟩,
 ⟨.st [(0,3),(1,9),(2,9),(3,35),(4,29),(5,48)],12,168,.agg [.val (.int .i64 0),.str [],.str [],.nilS,.nilS,.val (.int .i64 0),.val (.int .i64 0),.val (.int .i64 0),.val (.int .i64 0),.str [],.val (.int .i64 0),.nilS],false⟩,
 ⟨.st [(0,3),(1,9),(2,9),(3,35),(4,29),(5,48)],12,168,.agg [.val (.int .i64 0),.str [],.str [],.nilS,.nilS,.val (.int .i64 0),.val (.int .i64 0),.val (.int .i64 0),.val (.int .i64 0),.str [],.val (.int .i64 0),.nilS],false⟩,
 ⟨.other,1,8,.val (.nilFunc),false⟩,
 ⟨.other,1,8,.val (.nilFunc),false⟩,
 ⟨.other,1,8,.val (.nilFunc),false⟩,
 ⟨.other,1,8,.val (.nilFunc),false⟩,
 ⟨.other,1,8,.val (.nilFunc),false⟩,
 ⟨.other,1,8,.val (.nilFunc),false⟩,
 ⟨.other,1,0,.und,false⟩,
 ⟨.other,1,8,.val (.nilFunc),false⟩,
 ⟨.other,1,8,.val (.nilFunc),false⟩,
 ⟨.other,1,8,.val (.nilFunc),false⟩,
 ⟨.other,1,0,.und,false⟩,
 ⟨.other,1,8,.val (.nilFunc),false⟩,
 ⟨.sl 72,1,24,.nilS,false⟩,
 ⟨.arr 32 3,32,256,.agg [.val (.int .i64 0),.val (.int .i64 0),.val (.int .i64 0),.val (.int .i64 0),.val (.int .i64 0),.val (.int .i64 0),.val (.int .i64 0),.val (.int .i64 0),.val (.int .i64 0),.val (.int .i64 0),.val (.int .i64 0),.val (.int .i64 0),.val (.int .i64 0),.val (.int .i64 0),.val (.int .i64 0),.val (.int .i64 0),.val (.int .i64 0),.val (.int .i64 0),.val (.int .i64 0),.val (.int .i64 0),.val (.int .i64 0),.val (.int .i64 0),.val (.int .i64 0),.val (.int .i64 0),.val (.int .i64 0),.val (.int .i64 0),.val (.int .i64 0),.val (.int .i64 0),.val (.int .i64 0),.val (.int .i64 0),.val (.int .i64 0),.val (.int .i64 0)],true⟩,
 ⟨.st [(0,9),(1,3)],2,24,.agg [.str [],.val (.int .i64 0)],true⟩,
 ⟨.st [(0,9),(1,3)],2,24,.agg [.str [],.val (.int .i64 0)],true⟩,
 ⟨.st [(0,3),(1,3),(2,9),(3,66)],5,56,.agg [.val (.int .i64 0),.val (.int .i64 0),.str [],.str [],.val (.int .i64 0)],true⟩,
 ⟨.st [(0,3),(1,3),(2,9),(3,66)],5,56,.agg [.val (.int .i64 0),.val (.int .i64 0),.str [],.str [],.val (.int .i64 0)],true⟩,
 ⟨.other,1,0,.und,false⟩,
 ⟨.other,1,8,.val (.nilFunc),false⟩,
 ⟨.st [(0,3),(1,3),(2,3),(3,3),(4,3),(5,9),(6,9),(7,3)],8,80,.agg [.val (.int .i64 0),.val (.int .i64 0),.val (.int .i64 0),.val (.int .i64 0),.val (.int .i64 0),.str [],.str [],.val (.int .i64 0)],true⟩,
 ⟨.st [(0,3),(1,3),(2,3),(3,3),(4,3),(5,9),(6,9),(7,3)],8,80,.agg [.val (.int .i64 0),.val (.int .i64 0),.val (.int .i64 0),.val (.int .i64 0),.val (.int .i64 0),.str [],.str [],.val (.int .i64 0)],true⟩,
 ⟨.st [(0,3),(1,3),(2,3),(3,3),(4,3)],5,40,.agg [.val (.int .i64 0),.val (.int .i64 0),.val (.int .i64 0),.val (.int .i64 0),.val (.int .i64 0)],true⟩,
 ⟨.st [(0,3),(1,3),(2,3),(3,3),(4,3)],5,40,.agg [.val (.int .i64 0),.val (.int .i64 0),.val (.int .i64 0),.val (.int .i64 0),.val (.int .i64 0)],true⟩,
 ⟨.st [(0,3),(1,4),(2,4),(3,3),(4,3),(5,3)],6,40,.agg [.val (.int .i64 0),.val (.bool false),.val (.bool false),.val (.int .i64 0),.val (.int .i64 0),.val (.int .i64 0)],true⟩,
 ⟨.st [(0,3),(1,4),(2,4),(3,3),(4,3),(5,3)],6,40,.agg [.val (.int .i64 0),.val (.bool false),.val (.bool false),.val (.int .i64 0),.val (.int .i64 0),.val (.int .i64 0)],true⟩,
 ⟨.sl 66,1,24,.nilS,false⟩,
 ⟨.st [(0,77),(1,3)],2,32,.agg [.nilS,.val (.int .i64 0)],false⟩,
 ⟨.st [(0,77),(1,3)],2,32,.agg [.nilS,.val (.int .i64 0)],false⟩,
 ⟨.st [(0,3),(1,9),(2,3),(3,3),(4,3)],5,48,.agg [.val (.int .i64 0),.str [],.val (.int .i64 0),.val (.int .i64 0),.val (.int .i64 0)],true⟩,
 ⟨.st [(0,3),(1,9),(2,3),(3,3),(4,3)],5,48,.agg [.val (.int .i64 0),.str [],.val (.int .i64 0),.val (.int .i64 0),.val (.int .i64 0)],true⟩,
 ⟨.other,1,0,.und,false⟩,
 ⟨.other,1,8,.val (.nilFunc),false⟩,
 ⟨.other,1,8,.val (.nilFunc),false⟩,
 ⟨.other,1,8,.val (.nilFunc),false⟩,
 ⟨.other,1,8,.val (.nilFunc),false⟩,
 ⟨.sl 94,1,24,.nilS,false⟩,
 ⟨.other,1,8,.val (.nilFunc),false⟩,
 ⟨.other,1,8,.val (.pointer none),false⟩,
 ⟨.st [(0,63)],1,24,.agg [.nilS],false⟩,
 ⟨.st [(0,63)],1,24,.agg [.nilS],false⟩,
 ⟨.imap 3,1,8,.val (.map none),false⟩,
 ⟨.st [(0,24),(1,92)],2,32,.agg [.nilS,.val (.map none)],false⟩,
 ⟨.st [(0,24),(1,92)],2,32,.agg [.nilS,.val (.map none)],false⟩,
 ⟨.other,1,8,.val (.pointer none),false⟩,
 ⟨.st [(0,89),(1,94),(3,95)],4,48,.agg [.val (.pointer none),.nilS,.val (.map none),.val (.pointer none)],false⟩,
 ⟨.st [(0,89),(1,94),(3,95)],4,48,.agg [.val (.pointer none),.nilS,.val (.map none),.val (.pointer none)],false⟩,
 ⟨.other,1,8,.val (.nilFunc),false⟩,
 ⟨.other,1,8,.val (.nilFunc),false⟩,
 ⟨.other,1,0,.und,false⟩,
 ⟨.other,1,8,.val (.nilFunc),false⟩,
 ⟨.other,1,0,.und,false⟩,
 ⟨.other,1,8,.val (.nilFunc),false⟩,
 ⟨.other,1,8,.val (.nilFunc),false⟩,
 ⟨.other,1,8,.val (.nilFunc),false⟩,
 ⟨.other,1,8,.val (.nilFunc),false⟩,
 ⟨.other,1,8,.val (.nilFunc),false⟩,
 ⟨.other,1,8,.val (.nilFunc),false⟩,
 ⟨.other,1,8,.val (.nilFunc),false⟩,
 ⟨.other,1,8,.val (.nilFunc),false⟩,
 ⟨.other,1,8,.val (.nilFunc),false⟩,
 ⟨.other,1,0,.und,false⟩,
 ⟨.other,1,8,.val (.nilFunc),false⟩,
 ⟨.other,1,8,.val (.nilFunc),false⟩,
 ⟨.other,1,8,.val (.nilFunc),false⟩,
 ⟨.other,1,8,.val (.nilFunc),false⟩,
 ⟨.other,1,8,.val (.nilFunc),false⟩,
 ⟨.other,1,8,.val (.nilFunc),false⟩,
 ⟨.other,1,8,.val (.pointer none),false⟩,
 ⟨.other,1,8,.val (.nilFunc),false⟩,
 ⟨.st [(0,72),(8,66),(10,66),(12,3),(13,79),(15,81)],20,216,.agg [.val (.int .i64 0),.val (.int .i64 0),.val (.int .i64 0),.val (.int .i64 0),.val (.int .i64 0),.str [],.str [],.val (.int .i64 0),.str [],.val (.int .i64 0),.str [],.val (.int .i64 0),.val (.int .i64 0),.nilS,.val (.int .i64 0),.val (.int .i64 0),.str [],.val (.int .i64 0),.val (.int .i64 0),.val (.int .i64 0)],false⟩,
 ⟨.st [(0,72),(8,66),(10,66),(12,3),(13,79),(15,81)],20,216,.agg [.val (.int .i64 0),.val (.int .i64 0),.val (.int .i64 0),.val (.int .i64 0),.val (.int .i64 0),.str [],.str [],.val (.int .i64 0),.str [],.val (.int .i64 0),.str [],.val (.int .i64 0),.val (.int .i64 0),.nilS,.val (.int .i64 0),.val (.int .i64 0),.str [],.val (.int .i64 0),.val (.int .i64 0),.val (.int .i64 0)],false⟩,
 ⟨.other,1,8,.val (.nilFunc),false⟩,
 ⟨.gmap false 123,1,8,.val (.map none),false⟩,
 ⟨.other,1,8,.val (.nilFunc),false⟩,
 ⟨.other,1,8,.val (.pointer none),false⟩,
 ⟨.other,1,8,.val (.nilFunc),false⟩,
 ⟨.other,1,8,.val (.nilFunc),false⟩,
 ⟨.other,1,8,.val (.nilFunc),false⟩,
 ⟨.other,1,8,.val (.nilFunc),false⟩,
 ⟨.other,1,0,.und,false⟩,
 ⟨.other,1,8,.val (.nilFunc),false⟩,
 ⟨.other,1,0,.und,false⟩,
 ⟨.other,1,8,.val (.nilFunc),false⟩,
 ⟨.sl 43,1,24,.nilS,false⟩,
 ⟨.other,1,0,.und,false⟩,
 ⟨.other,1,8,.val (.nilFunc),false⟩,
 ⟨.other,1,8,.val (.nilFunc),false⟩,
 ⟨.other,1,8,.val (.nilFunc),false⟩,
 ⟨.sl 9,1,24,.nilS,false⟩,
 ⟨.other,1,8,.val (.nilFunc),false⟩,
 ⟨.other,1,8,.val (.nilFunc),false⟩,
 ⟨.other,1,0,.und,false⟩,
 ⟨.other,1,8,.val (.nilFunc),false⟩,
 ⟨.other,1,8,.val (.nilFunc),false⟩,
 ⟨.other,1,8,.val (.nilFunc),false⟩,
 ⟨.other,1,8,.val (.nilFunc),false⟩,
 ⟨.other,1,8,.val (.nilFunc),false⟩,
 ⟨.gmap true 3,1,8,.val (.map none),false⟩,
 ⟨.other,1,8,.val (.nilFunc),false⟩,
 ⟨.other,1,8,.val (.nilFunc),false⟩,
 ⟨.other,1,8,.val (.nilFunc),false⟩,
 ⟨.other,1,8,.val (.nilFunc),false⟩,
 ⟨.other,1,8,.val (.nilFunc),false⟩,
 ⟨.other,1,8,.val (.nilFunc),false⟩,
 ⟨.other,1,8,.val (.nilFunc),false⟩,
 ⟨.other,1,0,.und,false⟩,
 ⟨.other,1,8,.val (.nilFunc),false⟩,
 ⟨.other,1,0,.und,false⟩,
 ⟨.other,1,8,.val (.nilFunc),false⟩,
 ⟨.other,1,8,.val (.nilFunc),false⟩,
 ⟨.other,1,8,.val (.nilFunc),false⟩,
 ⟨.other,1,8,.val (.nilFunc),false⟩,
 ⟨.other,1,0,.und,false⟩,
 ⟨.other,1,8,.val (.nilFunc),false⟩,
 ⟨.other,1,8,.val (.pointer none),false⟩,
 ⟨.sl 5,1,24,.nilS,false⟩,
 ⟨.st [(0,166),(1,167)],2,32,.agg [.val (.pointer none),.nilS],false⟩,
 ⟨.st [(0,166),(1,167)],2,32,.agg [.val (.pointer none),.nilS],false⟩,
 ⟨.other,1,8,.val (.nilFunc),false⟩,
 ⟨.other,1,16,.val (.nilIface),false⟩,
 ⟨.other,1,16,.val (.nilIface),false⟩,
 ⟨.other,1,0,.und,false⟩,
 ⟨.other,1,8,.val (.nilFunc),false⟩,
 ⟨.other,1,8,.val (.nilFunc),false⟩,
 ⟨.other,1,8,.val (.nilFunc),false⟩,
 ⟨.other,1,0,.und,false⟩,
 ⟨.other,1,8,.val (.nilFunc),false⟩,
 ⟨.other,1,8,.val (.nilFunc),false⟩,
 ⟨.other,1,8,.val (.nilFunc),false⟩,
 ⟨.other,1,8,.val (.nilFunc),false⟩,
 ⟨.other,1,8,.val (.nilFunc),false⟩,
 ⟨.other,1,8,.val (.nilFunc),false⟩,
 ⟨.other,1,8,.val (.nilFunc),false⟩,
 ⟨.other,1,8,.val (.nilFunc),false⟩,
 ⟨.other,1,8,.val (.pointer none),false⟩,
 ⟨.other,1,8,.val (.nilFunc),false⟩,
 ⟨.other,1,8,.val (.nilFunc),false⟩,
 ⟨.other,1,8,.val (.nilFunc),false⟩,
 ⟨.other,1,8,.val (.nilFunc),false⟩,
 ⟨.other,1,0,.und,false⟩,
 ⟨.other,1,8,.val (.nilFunc),false⟩,
 ⟨.other,1,8,.val (.nilFunc),false⟩,
 ⟨.other,1,8,.val (.nilFunc),false⟩,
 ⟨.other,1,8,.val (.nilFunc),false⟩,
 ⟨.other,1,8,.val (.nilFunc),false⟩,
 ⟨.arr 6 9,6,96,.agg [.str [],.str [],.str [],.str [],.str [],.str []],true⟩,
 ⟨.arr 10 9,10,160,.agg [.str [],.str [],.str [],.str [],.str [],.str [],.str [],.str [],.str [],.str []],true⟩,
 ⟨.arr 9 9,9,144,.agg [.str [],.str [],.str [],.str [],.str [],.str [],.str [],.str [],.str []],true⟩,
 ⟨.arr 4 9,4,64,.agg [.str [],.str [],.str [],.str []],true⟩,
 ⟨.other,1,8,.val (.pointer none),false⟩,
 ⟨.other,1,0,.und,false⟩,
 ⟨.other,1,8,.val (.nilFunc),false⟩,
 ⟨.other,1,8,.val (.nilFunc),false⟩,
 ⟨.other,1,8,.val (.nilFunc),false⟩,
 ⟨.other,1,8,.val (.nilFunc),false⟩,
 ⟨.other,1,8,.val (.nilFunc),false⟩,
 ⟨.other,1,8,.val (.nilFunc),false⟩,
 ⟨.other,1,8,.val (.nilFunc),false⟩,
 ⟨.sl 4,1,24,.nilS,false⟩,
 ⟨.other,1,8,.val (.nilFunc),false⟩,
 ⟨.other,1,8,.val (.pointer none),false⟩,
 ⟨.other,1,8,.val (.nilFunc),false⟩,
 ⟨.other,1,8,.val (.nilFunc),false⟩,
 ⟨.other,1,8,.val (.nilFunc),false⟩,
 ⟨.other,1,8,.val (.nilFunc),false⟩,
 ⟨.arr 24 5,24,24,.agg [.val (.int .u8 0),.val (.int .u8 0),.val (.int .u8 0),.val (.int .u8 0),.val (.int .u8 0),.val (.int .u8 0),.val (.int .u8 0),.val (.int .u8 0),.val (.int .u8 0),.val (.int .u8 0),.val (.int .u8 0),.val (.int .u8 0),.val (.int .u8 0),.val (.int .u8 0),.val (.int .u8 0),.val (.int .u8 0),.val (.int .u8 0),.val (.int .u8 0),.val (.int .u8 0),.val (.int .u8 0),.val (.int .u8 0),.val (.int .u8 0),.val (.int .u8 0),.val (.int .u8 0)],true⟩,
 ⟨.int .u64,1,8,.val (.int .u64 0),false⟩,
 ⟨.other,1,8,.val (.nilFunc),false⟩,
 ⟨.other,1,8,.val (.nilFunc),false⟩,
 ⟨.other,1,0,.und,false⟩,
 ⟨.other,1,8,.val (.nilFunc),false⟩,
 ⟨.other,1,8,.val (.nilFunc),false⟩,
 ⟨.arr 20 218,20,160,.agg [.val (.int .u64 0),.val (.int .u64 0),.val (.int .u64 0),.val (.int .u64 0),.val (.int .u64 0),.val (.int .u64 0),.val (.int .u64 0),.val (.int .u64 0),.val (.int .u64 0),.val (.int .u64 0),.val (.int .u64 0),.val (.int .u64 0),.val (.int .u64 0),.val (.int .u64 0),.val (.int .u64 0),.val (.int .u64 0),.val (.int .u64 0),.val (.int .u64 0),.val (.int .u64 0),.val (.int .u64 0)],true⟩,
 ⟨.int .u32,1,4,.val (.int .u32 0),false⟩,
 ⟨.arr 65 5,65,65,.agg [.val (.int .u8 0),.val (.int .u8 0),.val (.int .u8 0),.val (.int .u8 0),.val (.int .u8 0),.val (.int .u8 0),.val (.int .u8 0),.val (.int .u8 0),.val (.int .u8 0),.val (.int .u8 0),.val (.int .u8 0),.val (.int .u8 0),.val (.int .u8 0),.val (.int .u8 0),.val (.int .u8 0),.val (.int .u8 0),.val (.int .u8 0),.val (.int .u8 0),.val (.int .u8 0),.val (.int .u8 0),.val (.int .u8 0),.val (.int .u8 0),.val (.int .u8 0),.val (.int .u8 0),.val (.int .u8 0),.val (.int .u8 0),.val (.int .u8 0),.val (.int .u8 0),.val (.int .u8 0),.val (.int .u8 0),.val (.int .u8 0),.val (.int .u8 0),.val (.int .u8 0),.val (.int .u8 0),.val (.int .u8 0),.val (.int .u8 0),.val (.int .u8 0),.val (.int .u8 0),.val (.int .u8 0),.val (.int .u8 0),.val (.int .u8 0),.val (.int .u8 0),.val (.int .u8 0),.val (.int .u8 0),.val (.int .u8 0),.val (.int .u8 0),.val (.int .u8 0),.val (.int .u8 0),.val (.int .u8 0),.val (.int .u8 0),.val (.int .u8 0),.val (.int .u8 0),.val (.int .u8 0),.val (.int .u8 0),.val (.int .u8 0),.val (.int .u8 0),.val (.int .u8 0),.val (.int .u8 0),.val (.int .u8 0),.val (.int .u8 0),.val (.int .u8 0),.val (.int .u8 0),.val (.int .u8 0),.val (.int .u8 0),.val (.int .u8 0)],true⟩,
 ⟨.int .u64,1,8,.val (.int .u64 0),false⟩,
 ⟨.other,1,8,.val (.nilFunc),false⟩,
 ⟨.other,1,8,.val (.nilFunc),false⟩,
 ⟨.arr 32 5,32,32,.agg [.val (.int .u8 0),.val (.int .u8 0),.val (.int .u8 0),.val (.int .u8 0),.val (.int .u8 0),.val (.int .u8 0),.val (.int .u8 0),.val (.int .u8 0),.val (.int .u8 0),.val (.int .u8 0),.val (.int .u8 0),.val (.int .u8 0),.val (.int .u8 0),.val (.int .u8 0),.val (.int .u8 0),.val (.int .u8 0),.val (.int .u8 0),.val (.int .u8 0),.val (.int .u8 0),.val (.int .u8 0),.val (.int .u8 0),.val (.int .u8 0),.val (.int .u8 0),.val (.int .u8 0),.val (.int .u8 0),.val (.int .u8 0),.val (.int .u8 0),.val (.int .u8 0),.val (.int .u8 0),.val (.int .u8 0),.val (.int .u8 0),.val (.int .u8 0)],true⟩,
 ⟨.arr 64 5,64,64,.agg [.val (.int .u8 0),.val (.int .u8 0),.val (.int .u8 0),.val (.int .u8 0),.val (.int .u8 0),.val (.int .u8 0),.val (.int .u8 0),.val (.int .u8 0),.val (.int .u8 0),.val (.int .u8 0),.val (.int .u8 0),.val (.int .u8 0),.val (.int .u8 0),.val (.int .u8 0),.val (.int .u8 0),.val (.int .u8 0),.val (.int .u8 0),.val (.int .u8 0),.val (.int .u8 0),.val (.int .u8 0),.val (.int .u8 0),.val (.int .u8 0),.val (.int .u8 0),.val (.int .u8 0),.val (.int .u8 0),.val (.int .u8 0),.val (.int .u8 0),.val (.int .u8 0),.val (.int .u8 0),.val (.int .u8 0),.val (.int .u8 0),.val (.int .u8 0),.val (.int .u8 0),.val (.int .u8 0),.val (.int .u8 0),.val (.int .u8 0),.val (.int .u8 0),.val (.int .u8 0),.val (.int .u8 0),.val (.int .u8 0),.val (.int .u8 0),.val (.int .u8 0),.val (.int .u8 0),.val (.int .u8 0),.val (.int .u8 0),.val (.int .u8 0),.val (.int .u8 0),.val (.int .u8 0),.val (.int .u8 0),.val (.int .u8 0),.val (.int .u8 0),.val (.int .u8 0),.val (.int .u8 0),.val (.int .u8 0),.val (.int .u8 0),.val (.int .u8 0),.val (.int .u8 0),.val (.int .u8 0),.val (.int .u8 0),.val (.int .u8 0),.val (.int .u8 0),.val (.int .u8 0),.val (.int .u8 0),.val (.int .u8 0)],true⟩,
 ⟨.st [(0,17),(1,17),(2,17),(3,9)],4,40,.agg [.val (.pointer none),.val (.pointer none),.val (.pointer none),.str []],false⟩,
 ⟨.st [(0,17),(1,17),(2,17),(3,9)],4,40,.agg [.val (.pointer none),.val (.pointer none),.val (.pointer none),.str []],false⟩,
 ⟨.arr 0 16,0,0,.agg [],false⟩,
 ⟨.st [(0,234)],0,0,.agg [],false⟩,
 ⟨.st [(0,234)],0,0,.agg [],false⟩,
 ⟨.other,1,8,.val (.nilFunc),false⟩,
 ⟨.int .u8,1,1,.val (.int .u8 0),false⟩,
 ⟨.int .u8,1,1,.val (.int .u8 0),false⟩,
 ⟨.other,1,8,.val (.nilFunc),false⟩,
 ⟨.int .i32,1,4,.val (.int .i32 0),false⟩,
 ⟨.int .i32,1,4,.val (.int .i32 0),false⟩,
 ⟨.st [(0,12),(1,12),(2,225),(3,238),(4,5),(5,5),(6,239),(7,240),(8,201),(9,241),(10,242)],11,48,.agg [.val (.int .u64 0),.val (.int .u64 0),.val (.int .u32 0),.val (.int .u8 0),.val (.int .u8 0),.val (.int .u8 0),.val (.int .u8 0),.val (.nilFunc),.val (.pointer none),.val (.int .i32 0),.val (.int .i32 0)],false⟩,
 ⟨.st [(0,12),(1,12),(2,225),(3,238),(4,5),(5,5),(6,239),(7,240),(8,201),(9,241),(10,242)],11,48,.agg [.val (.int .u64 0),.val (.int .u64 0),.val (.int .u32 0),.val (.int .u8 0),.val (.int .u8 0),.val (.int .u8 0),.val (.int .u8 0),.val (.nilFunc),.val (.pointer none),.val (.int .i32 0),.val (.int .i32 0)],false⟩]
def Sc (P:Program):Nat->Nat->List (Option Ty)
 | 0,_=>[]
 | n+1,k=>AaF P k::Sc P n (Nat.succ k)
def X9:List Ty->List (Option Ty)
 | []=>[]
 | t::l=>some t::X9 l
theorem AjT:Sc Tryz.prog 245 0=X9 tab:=by kernel_rfl
theorem Ul (P:Program):∀ (n k j:Nat),j<n->(Sc P n k)[j]? = some (AaF P (k+j))
 | 0,_,_,h=>absurd h (Nat.not_lt_zero _)
 | n+1,k,0,_=>rfl
 | n+1,k,j+1,h=>by
  have:=Ul P n (Nat.succ k) j (Nat.lt_of_succ_lt_succ h);simp only [Sc,List.getElem?_cons_succ,this];rw [show Nat.succ k+j=k+(j+1) by omega]
theorem Q7:∀ (l:List Ty) (j:Nat) (t:Ty),l[j]? = some t->(X9 l)[j]? = some (some t)∧j<l.length
 | [],_,_,h=>by simp at h
 | a::l,0,t,h=>by simp at h; subst h; exact ⟨rfl,by simp⟩
 | a::l,j+1,t,h=>by
  have:=Q7 l j t (by simpa using h);exact ⟨by simpa [X9] using this.1,by simp; exact this.2⟩
theorem AeX:tab.length=245:=by kernel_rfl
theorem AjS (j:Nat) (t:Ty) (h:tab[j]? = some t):AaF Tryz.prog j=some t:=by
 obtain ⟨h1,h2⟩:=Q7 tab j t h;rw [AeX] at h2;rw [<- AjT,Ul _ _ _ _ h2] at h1;simpa using h1
end Go.Sy
namespace Go.Proofs.YtkbafjceglhjhaaGreatDoor.Ed
open Go.Sy
def Tm:List (List UInt8):=[[82,102,101],[82,102,105],[70,114,101],[70,114,105],[67,111,101],[67,111,105]]
def YB:List (List UInt8):=[[82,82],[82,87],[87,82],[87,87]]
def XA:List (List UInt8):=[[114,46,114],[114,46,119],[114,46,114,119],[119,46,114],[119,46,119],[119,46,114,119],[114,119,46,114],[114,119,46,119],[114,119,46,114,119]]
def YI:List (List UInt8):=[[68,112,65,100,100,114,100,82],[68,112,65,100,100,114,100,87],[68,112,65,100,100,114,115,82],[68,112,65,100,100,114,115,87],[68,112,68,97,116,97,100,87],
 [68,112,68,97,116,97,115,87],[68,112,67,116,114,108,100,82],[68,112,67,116,114,108,100,87],[68,112,67,116,114,108,115,82],[68,112,67,116,114,108,115,87]]
def Gl:Nat->V:=AoL [(0,Oi Tm),(1,Oi YI),(2,Oi XA),(3,Oi YB)]
theorem mixed:Tryz.prog.follows .mixedOrders=true:=by kernel_rfl
theorem A0:TabOK Tryz.prog tab:=⟨AjS,Ae1⟩
end Go.Proofs.YtkbafjceglhjhaaGreatDoor.Ed
namespace Go.Proofs.YtkbafjceglhjhaaGreatDoor.Ed
open Go.Sy
structure E6 where
 kind:Int
 ext:Bool
 same:Bool
 src:Int
 dst:Int
 fence:Int
 deriving DecidableEq
def eV (e:E6):V:=.agg [iV e.kind,bV e.ext,bV e.same,iV e.src,iV e.dst,iV e.fence]
def toE:V->Option E6
 | .agg [a,b,c,d,e,f]=>match gI a,gB b,gB c,gI d,gI e,gI f with
  | some a,some b,some c,some d,some e,some f=>some ⟨a,b,c,d,e,f⟩
  | _,_,_,_,_,_=>none
 | _=>none
theorem Oh {v:V} {e:E6} (h:toE v=some e):v=eV e:=by
 unfold toE at h;split at h
 ·split at h
  ·rename_i h1 h2 h3 h4 h5 h6
   simp only [Option.some.injEq] at h;subst h;rw [GX h1,SR h2,SR h3,GX h4,GX h5,GX h6];rfl
  ·cases h
 ·cases h
def eqE (a b:E6):Bool:=Ak (ieq a.kind b.kind) (Ak (JZ a.ext b.ext) (Ak (JZ a.same b.same) (Ak (ieq a.src b.src) (Ak (ieq a.dst b.dst) (Ak (ieq a.fence b.fence) true)))))
theorem JH (a b:E6):eqE a b=true↔a=b:=by
 cases a; cases b;simp [eqE,Ak,ieq,JZ]
theorem Adx (a b:E6):eqE a b=eqE b a:=by
 rw [Bool.eq_iff_iff,JH,JH];exact eq_comm
def Dw (c:Nat):E6 :=
 if c<6 then ⟨c / 2+1,c % 2 == 0,false,if c / 2 == 1 then 1 else 2,if c / 2 == 0 then 1 else 2,0⟩
 else if c<102 then ⟨if (c-6) / 8 == 0 then 4 else 5,false,decide (4 <= (c-6) % 8),1+((c-6) % 4 / 2:Nat),1+((c-6) % 2:Nat),((c-6) / 8:Nat)⟩
 else if c<106 then ⟨6,false,decide (2 <= c-102),1,1+((c-102) % 2:Nat),0⟩
 else if c<108 then ⟨7,false,c-102 == 5,1,2,0⟩
 else ⟨8,false,decide (8 <= c-102),1,1+((c-102) % 2:Nat),0⟩
def Gq:E6:=⟨0,false,false,0,0,0⟩
def inR (n:Int):Bool:=decide (0 <= n) && decide (n<112)
theorem UM {n:Int} (h:inR n=true):∃ k:Nat,n=(k:Int)∧k<112:=by
 simp [inR] at h;exact ⟨n.toNat,by omega,by omega⟩
theorem Ada {n:Int} (h:inR n=false):n<0 ∨ 0 <= n∧112 <= n:=by
 simp [inR] at h;omega
def cx0:Cx:=AT Gl [] []
noncomputable def Ap8:List V->AA:=λvs=>Ay (Aj tab cx0 Tryz.f160 vs [])
theorem Aqk:As Tryz.prog Gl 160 Ap8:=AM A0 mixed Tryz.func160 (by kernel_rfl) (by kernel_rfl) (Bs Ar.nil _)
noncomputable def AlZ:List V->AA:=λvs=>Ay (Aj tab cx0 Tryz.f115 vs [])
theorem Aql:As Tryz.prog Gl 115 AlZ:=AM A0 mixed Tryz.func115 (by kernel_rfl) (by kernel_rfl) (Bs Ar.nil _)
noncomputable def AiO:List V->AA:=λvs=>Ay (Aj tab cx0 Tryz.f180 vs [])
theorem p74:As Tryz.prog Gl 180 AiO:=AM A0 mixed Tryz.func180 (by kernel_rfl) (by kernel_rfl) (Bs Ar.nil _)
noncomputable def Aem:List V->AA:=λvs=>Ay (Aj tab cx0 Tryz.f181 vs [])
theorem p75:As Tryz.prog Gl 181 Aem:=AM A0 mixed Tryz.func181 (by kernel_rfl) (by kernel_rfl) (Bs Ar.nil _)
noncomputable def Ap9:List V->AA:=λvs=>Ay (Aj tab cx0 Tryz.f182 vs [])
theorem p76:As Tryz.prog Gl 182 Ap9:=AM A0 mixed Tryz.func182 (by kernel_rfl) (by kernel_rfl) (Bs Ar.nil _)
noncomputable def tb0:AE:=(180,AiO)::(181,Aem)::(182,Ap9)::[]
theorem C5:Ar Tryz.prog Gl tb0:=.cons p74 <| .cons p75 <| .cons p76 .nil
noncomputable def AlI:Cx:=AT Gl tb0 []
def Kh (c:Nat):List UInt8 :=
 if c<6 then Tm.getD c []
 else if 102 <= c then YI.getD (c-102) []
 else (if (c-6) / 8=0 then [80,111] else if (c-6) / 8=1 then [77,70,101,110,99,101] else if (c-6) / 8=2 then [70,101,110,99,101,46,116,115,111]
  else [70,101,110,99,101,46]++XA.getD ((c-6) / 8-3) [])++((if 4 <= (c-6) % 8 then [115] else [100])++YB.getD ((c-6) % 4) [])
end Go.Proofs.YtkbafjceglhjhaaGreatDoor.Ed
namespace Go.Proofs.YtkbafjceglhjhaaGreatDoor.Ed
open Go.Sy
theorem All:(List.range 112).map (λk:Nat=>(Ay (Aj tab cx0 Tryz.f160 [nV k] [])).sem)=(List.range 112).map λk=>some (eV (Dw k),[]):=by kernel_rfl
theorem Af4:(List.range 112).map (λk:Nat=>(Ay (Aj tab cx0 Tryz.f115 [nV k] [])).sem)=(List.range 112).map λk=>some (.str (Kh k),[]):=by kernel_rfl
theorem Aq0:(List.range 112).map (λk:Nat=>(Ay (Aj tab AlI Tryz.f150 [nV k] [])).sem)=(List.range 112).map λk=>some (.tup [eV (Dw k),iV 0],[]):=by kernel_rfl
theorem AnS (n:Int):(Ay (Aj tab AlI Tryz.f150 [iV n] [])).path [true,true,true,true]=some ([ilt n 0,ilt n 0,ilt n 0,true],(.tup [eV Gq,iV 30],[])):=by kernel_rfl
theorem AnR (n:Int):(Ay (Aj tab AlI Tryz.f150 [iV n] [])).path [false,false,false,true]=some ([ilt n 0,ilt n 0,ilt n 0,ile 112 n],(.tup [eV Gq,iV 30],[])):=by kernel_rfl
end Go.Proofs.YtkbafjceglhjhaaGreatDoor.Ed
namespace Go.Proofs.YtkbafjceglhjhaaGreatDoor.Ed
open Go.Sy
def Rs (f:Nat->V):List V->AA
 | [v]=>match gI v with
  | some n=>.br (inR n) (.leaf (f n.toNat,[])) .fail
  | none=>.fail
 | _=>.fail
theorem PD {f:Nat->V} {vs:List V} {r:V×List Blk} (h:(Rs f vs).sem=some r):∃ k:Nat,k<112∧vs=[nV k]∧r=(f k,[]):=by
 unfold Rs at h;split at h
 ·split at h
  ·rename_i v n hn
   obtain ⟨h1,h2⟩:=Ad h;obtain ⟨k,rfl,hk⟩:=UM h1;exact ⟨k,hk,by rw [GX hn]; rfl,by rw [Aa h2]; rfl⟩
  ·cases h
 ·cases h
theorem p71:As Tryz.prog Gl 160 (Rs λk=>eV (Dw k)):=by
 refine Aqk.congr λvs r h=>?_;obtain ⟨k,hk,rfl,rfl⟩:=PD h;exact Gp All k hk
theorem p70:As Tryz.prog Gl 115 (Rs λk=>.str (Kh k)):=by
 refine Aql.congr λvs r h=>?_;obtain ⟨k,hk,rfl,rfl⟩:=PD h;exact Gp Af4 k hk
def ofT:List V->AA
 | [v]=>match gI v with
  | some n=>.br (inR n) (.leaf (.tup [eV (Dw n.toNat),iV 0],[])) (.leaf (.tup [eV Gq,iV 30],[]))
  | none=>.fail
 | _=>.fail
theorem AbT {vs:List V} {r:V×List Blk} (h:(ofT vs).sem=some r):∃ n,vs=[iV n]∧((∃ k:Nat,n=Int.ofNat k∧k<112∧r=(.tup [eV (Dw k),iV 0],[])) ∨ ((n<0 ∨ 0 <= n∧112 <= n)∧r=(.tup [eV Gq,iV 30],[]))):=by
 unfold ofT at h;split at h
 ·split at h
  ·rename_i v n hn
   refine ⟨n,by rw [GX hn],?_⟩;cases hi:inR n with
   | true =>obtain ⟨k,rfl,hk⟩:=UM hi;simp only [T.sem,hi,sel,cond_true,Option.some.injEq] at h;exact .inl ⟨k,rfl,hk,h.symm⟩
   | false =>simp only [T.sem,hi,sel,cond_false,Option.some.injEq] at h;exact .inr ⟨Ada hi,h.symm⟩
  ·cases h
 ·cases h
theorem AfF {a b:Int} (h:a<b):ilt a b=true:=by simpa [ilt] using h
theorem Acc {a b:Int} (h:b <= a):ilt a b=false:=by simp [ilt]; omega
theorem Yg {a b:Int} (h:a <= b):ile a b=true:=by simpa [ile] using h
theorem p31:As Tryz.prog Gl 150 ofT:=by
 refine As.congr (AM A0 mixed Tryz.func150 (by kernel_rfl) (by kernel_rfl) (Bs C5 [])) λvs r h=>?_;obtain ⟨n,rfl,⟨k,rfl,hk,rfl⟩ | ⟨hn,rfl⟩⟩:=AbT h
 ·exact Gp Aq0 k hk
 ·rcases hn with hn | ⟨h0,hn⟩
  ·exact AD (AnS n) (by rw [AfF hn])
  ·exact AD (AnR n) (by rw [Acc h0,Yg hn])
noncomputable def tb1:AE:=(160,Rs λk=>eV (Dw k))::(115,Rs λk=>.str (Kh k))::(150,ofT)::[]
theorem VM:Ar Tryz.prog Gl tb1:=.cons p71 <| .cons p70 <| .cons p31 .nil
noncomputable def cx1:Cx:=AT Gl tb1 [(0,⟨[],1,[],1,113⟩)]
def GY (e:E6):Nat->Nat->Option Nat
 | 0,_=>none
 | m+1,k=>match eqE (Dw k) e with
  | true=>some k
  | false=>GY e m (Nat.succ k)
def BZ (e:E6):Int:=match GY e 112 0 with
 | some k=>Int.ofNat k
 | none=>0
def Bl (e:E6):Int:=match GY e 112 0 with
 | some _=>0
 | none=>30
def PE (e:E6):Nat->Nat->Option (V×List Blk)
 | 0,_=>some (.tup [iV 0,iV 30],[])
 | m+1,k=>sel (eqE (Dw k) e) (some (.tup [nV k,iV 0],[])) (PE e m (Nat.succ k))
def Tn (e:E6):Nat->Nat->Option (V×List Blk)
 | 0,_=>some (.tup [iV 0,iV 30],[])
 | m+1,k=>sel (eqE e (Dw k)) (some (.tup [nV k,iV 0],[])) (Tn e m (Nat.succ k))
theorem Vt (e:E6):∀ m k,PE e m k=match GY e m k with
  | some j=>some (.tup [nV j,iV 0],[])
  | none=>some (.tup [iV 0,iV 30],[])
 | 0,k=>rfl
 | m+1,k=>by
  simp only [PE,GY];cases h:eqE (Dw k) e with
  | true=>rfl
  | false=>exact Vt e m (Nat.succ k)
theorem Ru (e:E6):∀ m k,Tn e m k=PE e m k
 | 0,_=>rfl
 | m+1,k=>by
  simp only [PE,Tn,Ru e m,Adx e]
theorem Rt (e:E6):PE e 112 0=some (.tup [iV (BZ e),iV (Bl e)],[]):=by
 rw [Vt];unfold BZ Bl;cases GY e 112 0 <;> rfl
theorem AlL (e:E6):(Ay (Aj tab cx1 Tryz.f114 [eV e] [])).sem=PE e 112 0:=by kernel_rfl
theorem AlK (e:E6):(Ay (Aj tab cx1 Tryz.f119 [eV e] [])).sem=Tn e 112 0:=by kernel_rfl
def Cc (f:E6->V):List V->AA
 | [v]=>match toE v with
  | some e=>.leaf (f e,[])
  | none=>.fail
 | _=>.fail
theorem Cj {f:E6->V} {vs:List V} {r:V×List Blk} (h:(Cc f vs).sem=some r):∃ e,vs=[eV e]∧r=(f e,[]):=by
 unfold Cc at h;split at h
 ·split at h
  ·rename_i v e hn
   exact ⟨e,by rw [Oh hn],Aa h⟩
  ·cases h
 ·cases h
def Vu (e:E6):V:=.tup [iV (BZ e),iV (Bl e)]
theorem p24:As Tryz.prog Gl 114 (Cc Vu):=by
 refine As.congr (AM A0 mixed Tryz.func114 (by kernel_rfl) (by kernel_rfl) (Γ:=cx1) (Bs VM _)) λvs r h=>?_;obtain ⟨e,rfl,rfl⟩:=Cj h;exact (AlL e).trans (Rt e)
theorem p25:As Tryz.prog Gl 119 (Cc Vu):=by
 refine As.congr (AM A0 mixed Tryz.func119 (by kernel_rfl) (by kernel_rfl) (Γ:=cx1) (Bs VM _)) λvs r h=>?_;obtain ⟨e,rfl,rfl⟩:=Cj h;exact (AlK e).trans ((Ru e 112 0).trans (Rt e))
end Go.Proofs.YtkbafjceglhjhaaGreatDoor.Ed
namespace Go.Proofs.YtkbafjceglhjhaaGreatDoor.Ed
open Go.Sy
noncomputable def tb2:AE:=(114,Cc Vu)::(119,Cc Vu)::tb1
theorem AaN:Ar Tryz.prog Gl tb2:=.cons p24 <| .cons p25 VM
noncomputable def cx2:Cx:=AT Gl tb2 []
theorem AgO (e:E6):(Ay (Aj tab cx2 Tryz.f121 [eV e] [])).sem=some (iV (Bl e),[]):=by kernel_rfl
theorem p29:As Tryz.prog Gl 121 (Cc λe=>iV (Bl e)):=by
 refine As.congr (AM A0 mixed Tryz.func121 (by kernel_rfl) (by kernel_rfl) (Γ:=cx2) (Bs AaN _)) λvs r h=>?_;obtain ⟨e,rfl,rfl⟩:=Cj h;exact AgO e
theorem Is (e:E6):∀ m k j,GY e m k=some j->k <= j∧j<k+m∧Dw j=e
 | 0,k,j,h=>by cases h
 | m+1,k,j,h=>by
  simp only [GY] at h;split at h
  ·rename_i he
   simp only [Option.some.injEq] at h;subst h;exact ⟨Nat.le_refl _,by omega,(JH _ _).1 he⟩
  ·obtain ⟨h1,h2,h3⟩:=Is e m _ j h
   exact ⟨by omega,by omega,h3⟩
def QS (e:E6):List UInt8:=match GY e 112 0 with
 | some k=>Kh k
 | none=>[]
def Nk (e:E6):V:=.tup [.str (QS e),iV (Bl e)]
noncomputable def tb3:AE:=(121,Cc λe=>iV (Bl e))::tb2
theorem tb3_ok:Ar Tryz.prog Gl tb3:=.cons p29 AaN
noncomputable def tbn:AE:=(122,λvs=>Ay (Aj tab cx0 Tryz.f122 vs []))::(163,λvs=>Ay (Aj tab cx0 Tryz.f163 vs []))::[]
theorem AaJ:Ar Tryz.prog Gl tbn :=
 .cons (AM A0 mixed Tryz.func122 (by kernel_rfl) (by kernel_rfl) (Γ:=cx0) (Bs .nil _)) <|
 .cons (AM A0 mixed Tryz.func163 (by kernel_rfl) (by kernel_rfl) (Γ:=cx0) (Bs .nil _)) .nil
noncomputable def cxn:Cx:=AT Gl tbn []
noncomputable def tb4:AE:=(123,λvs=>Ay (Aj tab cxn Tryz.f123 vs []))::(tbn++tb3)
theorem Ar.append {P:Program} {G:Nat->V} {a b:AE} (ha:Ar P G a) (hb:Ar P G b):Ar P G (a++b):=λp hp=>(List.mem_append.1 hp).elim (ha p) (hb p)
theorem AaM:Ar Tryz.prog Gl tb4 :=
 .cons (AM A0 mixed Tryz.func123 (by kernel_rfl) (by kernel_rfl) (Γ:=cxn) (Bs AaJ _)) (Ar.append AaJ tb3_ok)
noncomputable def cx4:Cx:=AT Gl tb4 []
theorem Alf:(List.range 112).map (λk:Nat=>(Ay (Aj tab cx4 Tryz.f80 [eV (Dw k)] [])).sem)=(List.range 112).map λk=>some (.tup [.str (Kh k),iV 0],[]):=by kernel_rfl
theorem Af6 (e:E6):(Ay (Aj tab cx4 Tryz.f80 [eV e] [])).path [true]=some ([AV (ieq (Bl e) 0)],(.tup [.str [],iV 30],[])):=by kernel_rfl
theorem Af8 (e:E6):(Ay (Aj tab cx4 Tryz.f74 [eV e] [])).path [true]=some ([AV (ieq (Bl e) 0)],(.tup [.str [],iV (Bl e)],[])):=by kernel_rfl
theorem Af7 (e:E6):(Ay (Aj tab cx4 Tryz.f74 [eV e] [])).path [false,true]=some ([AV (ieq (Bl e) 0),inR (BZ e)],(.tup [.str (Kh (BZ e).toNat),iV 0],[])):=by kernel_rfl
theorem Alg (e:E6):(Ay (Aj tab cx4 Tryz.f74 [eV e] [])).sem=some (Nk e,[]):=by
 unfold Nk QS;cases h:GY e 112 0 with
 | none =>
  have hf:Bl e=30:=by unfold Bl; rw [h]
  exact AD (Af8 e) (by rw [hf]; rfl)
 | some k =>
  have hf:Bl e=0:=by unfold Bl; rw [h]
  have hn:BZ e=Int.ofNat k:=by unfold BZ; rw [h]
  have hk:=(Is e 112 0 k h).2.1;have:=AD (Af7 e) (by rw [hf,hn,show inR (Int.ofNat k)=true by simp [inR]; omega]; rfl);rw [this,hn,hf];rfl
theorem Af5 (e:E6):(Ay (Aj tab cx4 Tryz.f80 [eV e] [])).sem=some (Nk e,[]):=by
 unfold Nk QS;cases h:GY e 112 0 with
 | none =>
  have hf:Bl e=30:=by unfold Bl; rw [h]
  rw [hf];exact AD (Af6 e) (by rw [hf]; rfl)
 | some k =>
  have hf:Bl e=0:=by unfold Bl; rw [h]
  obtain ⟨_,hk,rfl⟩:=Is e 112 0 k h;rw [hf];exact Gp Alf k (by omega)
theorem p26:As Tryz.prog Gl 74 (Cc Nk):=by
 refine As.congr (AM A0 mixed Tryz.func74 (by kernel_rfl) (by kernel_rfl) (Γ:=cx4) (Bs AaM _)) λvs r h=>?_;obtain ⟨e,rfl,rfl⟩:=Cj h;exact Alg e
theorem p27:As Tryz.prog Gl 80 (Cc Nk):=by
 refine As.congr (AM A0 mixed Tryz.func80 (by kernel_rfl) (by kernel_rfl) (Γ:=cx4) (Bs AaM _)) λvs r h=>?_;obtain ⟨e,rfl,rfl⟩:=Cj h;exact Af5 e
end Go.Proofs.YtkbafjceglhjhaaGreatDoor.Ed
