/-
  The table of the program's types, as the evaluator asks of them, and that it is the program's own. No conditions.
-/
import Derived.Test.YtkbafjceglhjhaaGreatDoorSyA
import Derived.Test.YtkbafjceglhjhaaGreatDoorProg
import Derived.KernelRfl
import Derived.Test.YtkbafjceglhjhaaGreatDoorSyU
import Derived.Test.YtkbafjceglhjhaaGreatDoorRows
namespace Go.Sy
open Go.Proofs
set_option maxRecDepth 100000
def tab:List Ty:=[
 ⟨.other,1,0,.und,false⟩,
 ⟨.other,1,8,.val (.nilFunc),false⟩,
 ⟨.int .i64,1,8,.val (.int .i64 0),false⟩,
 ⟨.int .i64,1,8,.val (.int .i64 0),false⟩,
 ⟨.bool,1,1,.val (.bool false),false⟩,
 ⟨.int .u8,1,1,.val (.int .u8 0),false⟩,
 ⟨.int .u8,1,1,.val (.int .u8 0),false⟩,
 ⟨.st [(0,2),(1,3),(2,4),(3,6)],4,24,.agg [.val (.int .i64 0),.val (.int .i64 0),.val (.bool false),.val (.int .u8 0)],true⟩,
 ⟨.st [(0,2),(1,3),(2,4),(3,6)],4,24,.agg [.val (.int .i64 0),.val (.int .i64 0),.val (.bool false),.val (.int .u8 0)],true⟩,
 ⟨.str,1,16,.str [],false⟩,
 ⟨.str,1,16,.str [],false⟩,
 ⟨.str,1,16,.str [],false⟩,
 ⟨.int .u64,1,8,.val (.int .u64 0),false⟩,
 ⟨.st [(0,9),(1,12)],2,24,.agg [.str [],.val (.int .u64 0)],false⟩,
 ⟨.st [(0,9),(1,12)],2,24,.agg [.str [],.val (.int .u64 0)],false⟩,
 ⟨.other,1,8,.val (.pointer none),false⟩,
 ⟨.other,1,8,.val (.pointer none),false⟩,
 ⟨.other,1,8,.val (.pointer none),false⟩,
 ⟨.st [(0,17)],1,8,.agg [.val (.pointer none)],false⟩,
 ⟨.st [(0,17)],1,8,.agg [.val (.pointer none)],false⟩,
 ⟨.other,1,16,.val (.nilIface),false⟩,
 ⟨.int .i32,1,4,.val (.int .i32 0),false⟩,
 ⟨.sl 76,1,24,.nilS,false⟩,
 ⟨.sl 74,1,24,.nilS,false⟩,
 ⟨.sl 3,1,24,.nilS,false⟩,
 ⟨.sl 24,1,24,.nilS,false⟩,
 ⟨.st [(0,3),(1,22),(2,23),(3,3),(4,3),(5,24),(6,25)],7,120,.agg [.val (.int .i64 0),.nilS,.nilS,.val (.int .i64 0),.val (.int .i64 0),.nilS,.nilS],false⟩,
 ⟨.st [(0,3),(1,22),(2,23),(3,3),(4,3),(5,24),(6,25)],7,120,.agg [.val (.int .i64 0),.nilS,.nilS,.val (.int .i64 0),.val (.int .i64 0),.nilS,.nilS],false⟩,
 ⟨.other,1,8,.val (.nilFunc),false⟩,
 ⟨.sl 63,1,24,.nilS,false⟩,
 ⟨.int .i64,1,8,.val (.int .i64 0),false⟩,
 ⟨.other,1,0,.und,false⟩,
 ⟨.other,1,8,.val (.nilFunc),false⟩,
 ⟨.other,1,0,.und,false⟩,
 ⟨.other,1,8,.val (.nilFunc),false⟩,
 ⟨.sl 68,1,24,.nilS,false⟩,
 ⟨.other,1,0,.und,false⟩,
 ⟨.other,1,8,.val (.nilFunc),false⟩,
 ⟨.other,1,8,.val (.nilFunc),false⟩,
 ⟨.other,1,8,.val (.nilFunc),false⟩,
 ⟨.other,1,8,.val (.nilFunc),false⟩,
 ⟨.other,1,8,.val (.nilFunc),false⟩,
 ⟨.st [(0,3),(1,3),(2,9)],3,32,.agg [.val (.int .i64 0),.val (.int .i64 0),.str []],true⟩,
 ⟨.st [(0,3),(1,3),(2,9)],3,32,.agg [.val (.int .i64 0),.val (.int .i64 0),.str []],true⟩,
 ⟨.sl 46,1,24,.nilS,false⟩,
 ⟨.st [(0,3),(1,43),(4,3),(5,44)],6,72,.agg [.val (.int .i64 0),.val (.int .i64 0),.val (.int .i64 0),.str [],.val (.int .i64 0),.nilS],false⟩,
 ⟨.st [(0,3),(1,43),(4,3),(5,44)],6,72,.agg [.val (.int .i64 0),.val (.int .i64 0),.val (.int .i64 0),.str [],.val (.int .i64 0),.nilS],false⟩,
 ⟨.st [(0,3),(1,46)],7,80,.agg [.val (.int .i64 0),.val (.int .i64 0),.val (.int .i64 0),.val (.int .i64 0),.str [],.val (.int .i64 0),.nilS],false⟩,
 ⟨.st [(0,3),(1,46)],7,80,.agg [.val (.int .i64 0),.val (.int .i64 0),.val (.int .i64 0),.val (.int .i64 0),.str [],.val (.int .i64 0),.nilS],false⟩,
 ⟨.st [(0,3),(1,9),(2,9),(3,35),(4,29),(5,48)],12,168,.agg [.val (.int .i64 0),.str [],.str [],.nilS,.nilS,.val (.int .i64 0),.val (.int .i64 0),.val (.int .i64 0),.val (.int .i64 0),.str [],.val (.int .i64 0),.nilS],false⟩,
 ⟨.st [(0,3),(1,9),(2,9),(3,35),(4,29),(5,48)],12,168,.agg [.val (.int .i64 0),.str [],.str [],.nilS,.nilS,.val (.int .i64 0),.val (.int .i64 0),.val (.int .i64 0),.val (.int .i64 0),.str [],.val (.int .i64 0),.nilS],false⟩,
 ⟨.other,1,8,.val (.nilFunc),false⟩,
 ⟨.other,1,8,.val (.nilFunc),false⟩,
 ⟨.other,1,8,.val (.nilFunc),false⟩,
 ⟨.other,1,8,.val (.nilFunc),false⟩,
 ⟨.other,1,8,.val (.nilFunc),false⟩,
 ⟨.other,1,8,.val (.nilFunc),false⟩,
 ⟨.other,1,0,.und,false⟩,
 ⟨.other,1,8,.val (.nilFunc),false⟩,
 ⟨.other,1,8,.val (.nilFunc),false⟩,
 ⟨.other,1,8,.val (.nilFunc),false⟩,
 ⟨.other,1,0,.und,false⟩,
 ⟨.other,1,8,.val (.nilFunc),false⟩,
 ⟨.sl 72,1,24,.nilS,false⟩,
 ⟨.arr 32 3,32,256,.agg [.val (.int .i64 0),.val (.int .i64 0),.val (.int .i64 0),.val (.int .i64 0),.val (.int .i64 0),.val (.int .i64 0),.val (.int .i64 0),.val (.int .i64 0),.val (.int .i64 0),.val (.int .i64 0),.val (.int .i64 0),.val (.int .i64 0),.val (.int .i64 0),.val (.int .i64 0),.val (.int .i64 0),.val (.int .i64 0),.val (.int .i64 0),.val (.int .i64 0),.val (.int .i64 0),.val (.int .i64 0),.val (.int .i64 0),.val (.int .i64 0),.val (.int .i64 0),.val (.int .i64 0),.val (.int .i64 0),.val (.int .i64 0),.val (.int .i64 0),.val (.int .i64 0),.val (.int .i64 0),.val (.int .i64 0),.val (.int .i64 0),.val (.int .i64 0)],true⟩,
 ⟨.st [(0,9),(1,3)],2,24,.agg [.str [],.val (.int .i64 0)],true⟩,
 ⟨.st [(0,9),(1,3)],2,24,.agg [.str [],.val (.int .i64 0)],true⟩,
 ⟨.st [(0,3),(1,3),(2,9),(3,66)],5,56,.agg [.val (.int .i64 0),.val (.int .i64 0),.str [],.str [],.val (.int .i64 0)],true⟩,
 ⟨.st [(0,3),(1,3),(2,9),(3,66)],5,56,.agg [.val (.int .i64 0),.val (.int .i64 0),.str [],.str [],.val (.int .i64 0)],true⟩,
 ⟨.other,1,0,.und,false⟩,
 ⟨.other,1,8,.val (.nilFunc),false⟩,
 ⟨.st [(0,3),(1,3),(2,3),(3,3),(4,3),(5,9),(6,9),(7,3)],8,80,.agg [.val (.int .i64 0),.val (.int .i64 0),.val (.int .i64 0),.val (.int .i64 0),.val (.int .i64 0),.str [],.str [],.val (.int .i64 0)],true⟩,
 ⟨.st [(0,3),(1,3),(2,3),(3,3),(4,3),(5,9),(6,9),(7,3)],8,80,.agg [.val (.int .i64 0),.val (.int .i64 0),.val (.int .i64 0),.val (.int .i64 0),.val (.int .i64 0),.str [],.str [],.val (.int .i64 0)],true⟩,
 ⟨.st [(0,3),(1,3),(2,3),(3,3),(4,3)],5,40,.agg [.val (.int .i64 0),.val (.int .i64 0),.val (.int .i64 0),.val (.int .i64 0),.val (.int .i64 0)],true⟩,
 ⟨.st [(0,3),(1,3),(2,3),(3,3),(4,3)],5,40,.agg [.val (.int .i64 0),.val (.int .i64 0),.val (.int .i64 0),.val (.int .i64 0),.val (.int .i64 0)],true⟩,
 ⟨.st [(0,3),(1,4),(2,4),(3,3),(4,3),(5,3)],6,40,.agg [.val (.int .i64 0),.val (.bool false),.val (.bool false),.val (.int .i64 0),.val (.int .i64 0),.val (.int .i64 0)],true⟩,
 ⟨.st [(0,3),(1,4),(2,4),(3,3),(4,3),(5,3)],6,40,.agg [.val (.int .i64 0),.val (.bool false),.val (.bool false),.val (.int .i64 0),.val (.int .i64 0),.val (.int .i64 0)],true⟩,
 ⟨.sl 66,1,24,.nilS,false⟩,
 ⟨.st [(0,77),(1,3)],2,32,.agg [.nilS,.val (.int .i64 0)],false⟩,
 ⟨.st [(0,77),(1,3)],2,32,.agg [.nilS,.val (.int .i64 0)],false⟩,
 ⟨.st [(0,3),(1,9),(2,3),(3,3),(4,3)],5,48,.agg [.val (.int .i64 0),.str [],.val (.int .i64 0),.val (.int .i64 0),.val (.int .i64 0)],true⟩,
 ⟨.st [(0,3),(1,9),(2,3),(3,3),(4,3)],5,48,.agg [.val (.int .i64 0),.str [],.val (.int .i64 0),.val (.int .i64 0),.val (.int .i64 0)],true⟩,
 ⟨.other,1,0,.und,false⟩,
 ⟨.other,1,8,.val (.nilFunc),false⟩,
 ⟨.other,1,8,.val (.nilFunc),false⟩,
 ⟨.other,1,8,.val (.nilFunc),false⟩,
 ⟨.other,1,8,.val (.nilFunc),false⟩,
 ⟨.sl 94,1,24,.nilS,false⟩,
 ⟨.other,1,8,.val (.nilFunc),false⟩,
 ⟨.other,1,8,.val (.pointer none),false⟩,
 ⟨.st [(0,63)],1,24,.agg [.nilS],false⟩,
 ⟨.st [(0,63)],1,24,.agg [.nilS],false⟩,
 ⟨.imap 3,1,8,.val (.map none),false⟩,
 ⟨.st [(0,24),(1,92)],2,32,.agg [.nilS,.val (.map none)],false⟩,
 ⟨.st [(0,24),(1,92)],2,32,.agg [.nilS,.val (.map none)],false⟩,
 ⟨.other,1,8,.val (.pointer none),false⟩,
 ⟨.st [(0,89),(1,94),(3,95)],4,48,.agg [.val (.pointer none),.nilS,.val (.map none),.val (.pointer none)],false⟩,
 ⟨.st [(0,89),(1,94),(3,95)],4,48,.agg [.val (.pointer none),.nilS,.val (.map none),.val (.pointer none)],false⟩,
 ⟨.other,1,8,.val (.nilFunc),false⟩,
 ⟨.other,1,8,.val (.nilFunc),false⟩,
 ⟨.other,1,0,.und,false⟩,
 ⟨.other,1,8,.val (.nilFunc),false⟩,
 ⟨.other,1,0,.und,false⟩,
 ⟨.other,1,8,.val (.nilFunc),false⟩,
 ⟨.other,1,8,.val (.nilFunc),false⟩,
 ⟨.other,1,8,.val (.nilFunc),false⟩,
 ⟨.other,1,8,.val (.nilFunc),false⟩,
 ⟨.other,1,8,.val (.nilFunc),false⟩,
 ⟨.other,1,8,.val (.nilFunc),false⟩,
 ⟨.other,1,8,.val (.nilFunc),false⟩,
 ⟨.other,1,8,.val (.nilFunc),false⟩,
 ⟨.other,1,8,.val (.nilFunc),false⟩,
 ⟨.other,1,0,.und,false⟩,
 ⟨.other,1,8,.val (.nilFunc),false⟩,
 ⟨.other,1,8,.val (.nilFunc),false⟩,
 ⟨.other,1,8,.val (.nilFunc),false⟩,
 ⟨.other,1,8,.val (.nilFunc),false⟩,
 ⟨.other,1,8,.val (.nilFunc),false⟩,
 ⟨.other,1,8,.val (.nilFunc),false⟩,
 ⟨.other,1,8,.val (.pointer none),false⟩,
 ⟨.other,1,8,.val (.nilFunc),false⟩,
 ⟨.st [(0,72),(8,66),(10,66),(12,3),(13,79),(15,81)],20,216,.agg [.val (.int .i64 0),.val (.int .i64 0),.val (.int .i64 0),.val (.int .i64 0),.val (.int .i64 0),.str [],.str [],.val (.int .i64 0),.str [],.val (.int .i64 0),.str [],.val (.int .i64 0),.val (.int .i64 0),.nilS,.val (.int .i64 0),.val (.int .i64 0),.str [],.val (.int .i64 0),.val (.int .i64 0),.val (.int .i64 0)],false⟩,
 ⟨.st [(0,72),(8,66),(10,66),(12,3),(13,79),(15,81)],20,216,.agg [.val (.int .i64 0),.val (.int .i64 0),.val (.int .i64 0),.val (.int .i64 0),.val (.int .i64 0),.str [],.str [],.val (.int .i64 0),.str [],.val (.int .i64 0),.str [],.val (.int .i64 0),.val (.int .i64 0),.nilS,.val (.int .i64 0),.val (.int .i64 0),.str [],.val (.int .i64 0),.val (.int .i64 0),.val (.int .i64 0)],false⟩,
 ⟨.other,1,8,.val (.nilFunc),false⟩,
 ⟨.other,1,8,.val (.map none),false⟩,
 ⟨.other,1,8,.val (.nilFunc),false⟩,
 ⟨.other,1,8,.val (.pointer none),false⟩,
 ⟨.other,1,8,.val (.nilFunc),false⟩,
 ⟨.other,1,8,.val (.nilFunc),false⟩,
 ⟨.other,1,8,.val (.nilFunc),false⟩,
 ⟨.other,1,8,.val (.nilFunc),false⟩,
 ⟨.other,1,0,.und,false⟩,
 ⟨.other,1,8,.val (.nilFunc),false⟩,
 ⟨.other,1,0,.und,false⟩,
 ⟨.other,1,8,.val (.nilFunc),false⟩,
 ⟨.sl 43,1,24,.nilS,false⟩,
 ⟨.other,1,0,.und,false⟩,
 ⟨.other,1,8,.val (.nilFunc),false⟩,
 ⟨.other,1,8,.val (.nilFunc),false⟩,
 ⟨.other,1,8,.val (.nilFunc),false⟩,
 ⟨.sl 9,1,24,.nilS,false⟩,
 ⟨.other,1,8,.val (.nilFunc),false⟩,
 ⟨.other,1,8,.val (.nilFunc),false⟩,
 ⟨.other,1,0,.und,false⟩,
 ⟨.other,1,8,.val (.nilFunc),false⟩,
 ⟨.other,1,8,.val (.nilFunc),false⟩,
 ⟨.other,1,8,.val (.nilFunc),false⟩,
 ⟨.other,1,8,.val (.nilFunc),false⟩,
 ⟨.other,1,8,.val (.nilFunc),false⟩,
 ⟨.other,1,8,.val (.map none),false⟩,
 ⟨.other,1,8,.val (.nilFunc),false⟩,
 ⟨.other,1,8,.val (.nilFunc),false⟩,
 ⟨.other,1,8,.val (.nilFunc),false⟩,
 ⟨.other,1,8,.val (.nilFunc),false⟩,
 ⟨.other,1,8,.val (.nilFunc),false⟩,
 ⟨.other,1,8,.val (.nilFunc),false⟩,
 ⟨.other,1,8,.val (.nilFunc),false⟩,
 ⟨.other,1,0,.und,false⟩,
 ⟨.other,1,8,.val (.nilFunc),false⟩,
 ⟨.other,1,0,.und,false⟩,
 ⟨.other,1,8,.val (.nilFunc),false⟩,
 ⟨.other,1,8,.val (.nilFunc),false⟩,
 ⟨.other,1,8,.val (.nilFunc),false⟩,
 ⟨.other,1,8,.val (.nilFunc),false⟩,
 ⟨.other,1,0,.und,false⟩,
 ⟨.other,1,8,.val (.nilFunc),false⟩,
 ⟨.other,1,8,.val (.pointer none),false⟩,
 ⟨.sl 5,1,24,.nilS,false⟩,
 ⟨.st [(0,166),(1,167)],2,32,.agg [.val (.pointer none),.nilS],false⟩,
 ⟨.st [(0,166),(1,167)],2,32,.agg [.val (.pointer none),.nilS],false⟩,
 ⟨.other,1,8,.val (.nilFunc),false⟩,
 ⟨.other,1,16,.val (.nilIface),false⟩,
 ⟨.other,1,16,.val (.nilIface),false⟩,
 ⟨.other,1,0,.und,false⟩,
 ⟨.other,1,8,.val (.nilFunc),false⟩,
 ⟨.other,1,8,.val (.nilFunc),false⟩,
 ⟨.other,1,8,.val (.nilFunc),false⟩,
 ⟨.other,1,0,.und,false⟩,
 ⟨.other,1,8,.val (.nilFunc),false⟩,
 ⟨.other,1,8,.val (.nilFunc),false⟩,
 ⟨.other,1,8,.val (.nilFunc),false⟩,
 ⟨.other,1,8,.val (.nilFunc),false⟩,
 ⟨.other,1,8,.val (.nilFunc),false⟩,
 ⟨.other,1,8,.val (.nilFunc),false⟩,
 ⟨.other,1,8,.val (.nilFunc),false⟩,
 ⟨.other,1,8,.val (.nilFunc),false⟩,
 ⟨.other,1,8,.val (.pointer none),false⟩,
 ⟨.other,1,8,.val (.nilFunc),false⟩,
 ⟨.other,1,8,.val (.nilFunc),false⟩,
 ⟨.other,1,8,.val (.nilFunc),false⟩,
 ⟨.other,1,8,.val (.nilFunc),false⟩,
 ⟨.other,1,0,.und,false⟩,
 ⟨.other,1,8,.val (.nilFunc),false⟩,
 ⟨.other,1,8,.val (.nilFunc),false⟩,
 ⟨.other,1,8,.val (.nilFunc),false⟩,
 ⟨.other,1,8,.val (.nilFunc),false⟩,
 ⟨.other,1,8,.val (.nilFunc),false⟩,
 ⟨.arr 6 9,6,96,.agg [.str [],.str [],.str [],.str [],.str [],.str []],true⟩,
 ⟨.arr 10 9,10,160,.agg [.str [],.str [],.str [],.str [],.str [],.str [],.str [],.str [],.str [],.str []],true⟩,
 ⟨.arr 9 9,9,144,.agg [.str [],.str [],.str [],.str [],.str [],.str [],.str [],.str [],.str []],true⟩,
 ⟨.arr 4 9,4,64,.agg [.str [],.str [],.str [],.str []],true⟩,
 ⟨.other,1,8,.val (.pointer none),false⟩,
 ⟨.other,1,0,.und,false⟩,
 ⟨.other,1,8,.val (.nilFunc),false⟩,
 ⟨.other,1,8,.val (.nilFunc),false⟩,
 ⟨.other,1,8,.val (.nilFunc),false⟩,
 ⟨.other,1,8,.val (.nilFunc),false⟩,
 ⟨.other,1,8,.val (.nilFunc),false⟩,
 ⟨.other,1,8,.val (.nilFunc),false⟩,
 ⟨.other,1,8,.val (.nilFunc),false⟩,
 ⟨.sl 4,1,24,.nilS,false⟩,
 ⟨.other,1,8,.val (.nilFunc),false⟩,
 ⟨.other,1,8,.val (.pointer none),false⟩,
 ⟨.other,1,8,.val (.nilFunc),false⟩,
 ⟨.other,1,8,.val (.nilFunc),false⟩,
 ⟨.other,1,8,.val (.nilFunc),false⟩,
 ⟨.other,1,8,.val (.nilFunc),false⟩,
 ⟨.arr 24 5,24,24,.agg [.val (.int .u8 0),.val (.int .u8 0),.val (.int .u8 0),.val (.int .u8 0),.val (.int .u8 0),.val (.int .u8 0),.val (.int .u8 0),.val (.int .u8 0),.val (.int .u8 0),.val (.int .u8 0),.val (.int .u8 0),.val (.int .u8 0),.val (.int .u8 0),.val (.int .u8 0),.val (.int .u8 0),.val (.int .u8 0),.val (.int .u8 0),.val (.int .u8 0),.val (.int .u8 0),.val (.int .u8 0),.val (.int .u8 0),.val (.int .u8 0),.val (.int .u8 0),.val (.int .u8 0)],true⟩,
 ⟨.int .u64,1,8,.val (.int .u64 0),false⟩,
 ⟨.other,1,8,.val (.nilFunc),false⟩,
 ⟨.other,1,8,.val (.nilFunc),false⟩,
 ⟨.other,1,0,.und,false⟩,
 ⟨.other,1,8,.val (.nilFunc),false⟩,
 ⟨.other,1,8,.val (.nilFunc),false⟩,
 ⟨.arr 20 218,20,160,.agg [.val (.int .u64 0),.val (.int .u64 0),.val (.int .u64 0),.val (.int .u64 0),.val (.int .u64 0),.val (.int .u64 0),.val (.int .u64 0),.val (.int .u64 0),.val (.int .u64 0),.val (.int .u64 0),.val (.int .u64 0),.val (.int .u64 0),.val (.int .u64 0),.val (.int .u64 0),.val (.int .u64 0),.val (.int .u64 0),.val (.int .u64 0),.val (.int .u64 0),.val (.int .u64 0),.val (.int .u64 0)],true⟩,
 ⟨.int .u32,1,4,.val (.int .u32 0),false⟩,
 ⟨.arr 65 5,65,65,.agg [.val (.int .u8 0),.val (.int .u8 0),.val (.int .u8 0),.val (.int .u8 0),.val (.int .u8 0),.val (.int .u8 0),.val (.int .u8 0),.val (.int .u8 0),.val (.int .u8 0),.val (.int .u8 0),.val (.int .u8 0),.val (.int .u8 0),.val (.int .u8 0),.val (.int .u8 0),.val (.int .u8 0),.val (.int .u8 0),.val (.int .u8 0),.val (.int .u8 0),.val (.int .u8 0),.val (.int .u8 0),.val (.int .u8 0),.val (.int .u8 0),.val (.int .u8 0),.val (.int .u8 0),.val (.int .u8 0),.val (.int .u8 0),.val (.int .u8 0),.val (.int .u8 0),.val (.int .u8 0),.val (.int .u8 0),.val (.int .u8 0),.val (.int .u8 0),.val (.int .u8 0),.val (.int .u8 0),.val (.int .u8 0),.val (.int .u8 0),.val (.int .u8 0),.val (.int .u8 0),.val (.int .u8 0),.val (.int .u8 0),.val (.int .u8 0),.val (.int .u8 0),.val (.int .u8 0),.val (.int .u8 0),.val (.int .u8 0),.val (.int .u8 0),.val (.int .u8 0),.val (.int .u8 0),.val (.int .u8 0),.val (.int .u8 0),.val (.int .u8 0),.val (.int .u8 0),.val (.int .u8 0),.val (.int .u8 0),.val (.int .u8 0),.val (.int .u8 0),.val (.int .u8 0),.val (.int .u8 0),.val (.int .u8 0),.val (.int .u8 0),.val (.int .u8 0),.val (.int .u8 0),.val (.int .u8 0),.val (.int .u8 0),.val (.int .u8 0)],true⟩,
 ⟨.int .u64,1,8,.val (.int .u64 0),false⟩,
 ⟨.other,1,8,.val (.nilFunc),false⟩,
 ⟨.other,1,8,.val (.nilFunc),false⟩,
 ⟨.arr 32 5,32,32,.agg [.val (.int .u8 0),.val (.int .u8 0),.val (.int .u8 0),.val (.int .u8 0),.val (.int .u8 0),.val (.int .u8 0),.val (.int .u8 0),.val (.int .u8 0),.val (.int .u8 0),.val (.int .u8 0),.val (.int .u8 0),.val (.int .u8 0),.val (.int .u8 0),.val (.int .u8 0),.val (.int .u8 0),.val (.int .u8 0),.val (.int .u8 0),.val (.int .u8 0),.val (.int .u8 0),.val (.int .u8 0),.val (.int .u8 0),.val (.int .u8 0),.val (.int .u8 0),.val (.int .u8 0),.val (.int .u8 0),.val (.int .u8 0),.val (.int .u8 0),.val (.int .u8 0),.val (.int .u8 0),.val (.int .u8 0),.val (.int .u8 0),.val (.int .u8 0)],true⟩,
 ⟨.arr 64 5,64,64,.agg [.val (.int .u8 0),.val (.int .u8 0),.val (.int .u8 0),.val (.int .u8 0),.val (.int .u8 0),.val (.int .u8 0),.val (.int .u8 0),.val (.int .u8 0),.val (.int .u8 0),.val (.int .u8 0),.val (.int .u8 0),.val (.int .u8 0),.val (.int .u8 0),.val (.int .u8 0),.val (.int .u8 0),.val (.int .u8 0),.val (.int .u8 0),.val (.int .u8 0),.val (.int .u8 0),.val (.int .u8 0),.val (.int .u8 0),.val (.int .u8 0),.val (.int .u8 0),.val (.int .u8 0),.val (.int .u8 0),.val (.int .u8 0),.val (.int .u8 0),.val (.int .u8 0),.val (.int .u8 0),.val (.int .u8 0),.val (.int .u8 0),.val (.int .u8 0),.val (.int .u8 0),.val (.int .u8 0),.val (.int .u8 0),.val (.int .u8 0),.val (.int .u8 0),.val (.int .u8 0),.val (.int .u8 0),.val (.int .u8 0),.val (.int .u8 0),.val (.int .u8 0),.val (.int .u8 0),.val (.int .u8 0),.val (.int .u8 0),.val (.int .u8 0),.val (.int .u8 0),.val (.int .u8 0),.val (.int .u8 0),.val (.int .u8 0),.val (.int .u8 0),.val (.int .u8 0),.val (.int .u8 0),.val (.int .u8 0),.val (.int .u8 0),.val (.int .u8 0),.val (.int .u8 0),.val (.int .u8 0),.val (.int .u8 0),.val (.int .u8 0),.val (.int .u8 0),.val (.int .u8 0),.val (.int .u8 0),.val (.int .u8 0)],true⟩,
 ⟨.st [(0,17),(1,17),(2,17),(3,9)],4,40,.agg [.val (.pointer none),.val (.pointer none),.val (.pointer none),.str []],false⟩,
 ⟨.st [(0,17),(1,17),(2,17),(3,9)],4,40,.agg [.val (.pointer none),.val (.pointer none),.val (.pointer none),.str []],false⟩,
 ⟨.arr 0 16,0,0,.agg [],false⟩,
 ⟨.st [(0,234)],0,0,.agg [],false⟩,
 ⟨.st [(0,234)],0,0,.agg [],false⟩,
 ⟨.other,1,8,.val (.nilFunc),false⟩,
 ⟨.int .u8,1,1,.val (.int .u8 0),false⟩,
 ⟨.int .u8,1,1,.val (.int .u8 0),false⟩,
 ⟨.other,1,8,.val (.nilFunc),false⟩,
 ⟨.int .i32,1,4,.val (.int .i32 0),false⟩,
 ⟨.int .i32,1,4,.val (.int .i32 0),false⟩,
 ⟨.st [(0,12),(1,12),(2,225),(3,238),(4,5),(5,5),(6,239),(7,240),(8,201),(9,241),(10,242)],11,48,.agg [.val (.int .u64 0),.val (.int .u64 0),.val (.int .u32 0),.val (.int .u8 0),.val (.int .u8 0),.val (.int .u8 0),.val (.int .u8 0),.val (.nilFunc),.val (.pointer none),.val (.int .i32 0),.val (.int .i32 0)],false⟩,
 ⟨.st [(0,12),(1,12),(2,225),(3,238),(4,5),(5,5),(6,239),(7,240),(8,201),(9,241),(10,242)],11,48,.agg [.val (.int .u64 0),.val (.int .u64 0),.val (.int .u32 0),.val (.int .u8 0),.val (.int .u8 0),.val (.int .u8 0),.val (.int .u8 0),.val (.nilFunc),.val (.pointer none),.val (.int .i32 0),.val (.int .i32 0)],false⟩]
def Pp (P:Program):Nat->Nat->List (Option Ty)
 | 0,_=>[]
 | n+1,k=>Xk P k::Pp P n (Nat.succ k)
def UC:List Ty->List (Option Ty)
 | []=>[]
 | t::l=>some t::UC l
theorem AdW:Pp Tryz.prog 245 0=UC tab:=by kernel_rfl
theorem QW (P:Program):∀ (n k j:Nat),j<n->(Pp P n k)[j]? = some (Xk P (k+j))
 | 0,_,_,h=>absurd h (Nat.not_lt_zero _)
 | n+1,k,0,_=>rfl
 | n+1,k,j+1,h=>by
  have:=QW P n (Nat.succ k) j (Nat.lt_of_succ_lt_succ h);simp only [Pp,List.getElem?_cons_succ,this];rw [show Nat.succ k+j=k+(j+1) by omega]
theorem Og:∀ (l:List Ty) (j:Nat) (t:Ty),l[j]? = some t->(UC l)[j]? = some (some t)∧j<l.length
 | [],_,_,h=>by simp at h
 | a::l,0,t,h=>by simp at h; subst h; exact ⟨rfl,by simp⟩
 | a::l,j+1,t,h=>by
  have:=Og l j t (by simpa using h);exact ⟨by simpa [UC] using this.1,by simp; exact this.2⟩
theorem Aaw:tab.length=245:=by kernel_rfl
theorem AdV (j:Nat) (t:Ty) (h:tab[j]? = some t):Xk Tryz.prog j=some t:=by
 obtain ⟨h1,h2⟩:=Og tab j t h;rw [Aaw] at h2;rw [<- AdW,QW _ _ _ _ h2] at h1;simpa using h1
end Go.Sy
namespace Go.Proofs.YtkbafjceglhjhaaGreatDoor.Ed
open Go.Sy
def Ql:List (List UInt8):=[[82,102,101],[82,102,105],[70,114,101],[70,114,105],[67,111,101],[67,111,105]]
def Vz:List (List UInt8):=[[82,82],[82,87],[87,82],[87,87]]
def UD:List (List UInt8):=[[114,46,114],[114,46,119],[114,46,114,119],[119,46,114],[119,46,119],[119,46,114,119],[114,119,46,114],[114,119,46,119],[114,119,46,114,119]]
def V6:List (List UInt8):=[[68,112,65,100,100,114,100,82],[68,112,65,100,100,114,100,87],[68,112,65,100,100,114,115,82],[68,112,65,100,100,114,115,87],[68,112,68,97,116,97,100,87],
 [68,112,68,97,116,97,115,87],[68,112,67,116,114,108,100,82],[68,112,67,116,114,108,100,87],[68,112,67,116,114,108,115,82],[68,112,67,116,114,108,115,87]]
def Gl:Nat->V:=AhG [(0,Md Ql),(1,Md V6),(2,Md UD),(3,Md Vz)]
theorem mixed:Tryz.prog.follows .mixedOrders=true:=by kernel_rfl
theorem AA:TabOK Tryz.prog tab:=⟨AdV,ZY⟩
end Go.Proofs.YtkbafjceglhjhaaGreatDoor.Ed
namespace Go.Proofs.YtkbafjceglhjhaaGreatDoor.Ed
open Go.Sy
structure E6 where
 kind:Int
 ext:Bool
 same:Bool
 src:Int
 dst:Int
 fence:Int
 deriving DecidableEq
def eV (e:E6):V:=.agg [iV e.kind,bV e.ext,bV e.same,iV e.src,iV e.dst,iV e.fence]
def toE:V->Option E6
 | .agg [a,b,c,d,e,f]=>match gI a,gB b,gB c,gI d,gI e,gI f with
  | some a,some b,some c,some d,some e,some f=>some ⟨a,b,c,d,e,f⟩
  | _,_,_,_,_,_=>none
 | _=>none
theorem Mb {v:V} {e:E6} (h:toE v=some e):v=eV e:=by
 unfold toE at h;split at h
 ·split at h
  ·rename_i h1 h2 h3 h4 h5 h6
   simp only [Option.some.injEq] at h;subst h;rw [FO h1,PV h2,PV h3,FO h4,FO h5,FO h6];rfl
  ·cases h
 ·cases h
def eqE (a b:E6):Bool:=Aj (ieq a.kind b.kind) (Aj (Hu a.ext b.ext) (Aj (Hu a.same b.same) (Aj (ieq a.src b.src) (Aj (ieq a.dst b.dst) (Aj (ieq a.fence b.fence) true)))))
theorem Iq (a b:E6):eqE a b=true↔a=b:=by
 cases a; cases b;simp [eqE,Aj,ieq,Hu]
theorem Zg (a b:E6):eqE a b=eqE b a:=by
 rw [Bool.eq_iff_iff,Iq,Iq];exact eq_comm
def De (c:Nat):E6 :=
 if c<6 then ⟨c / 2+1,c % 2 == 0,false,if c / 2 == 1 then 1 else 2,if c / 2 == 0 then 1 else 2,0⟩
 else if c<102 then ⟨if (c-6) / 8 == 0 then 4 else 5,false,decide (4 <= (c-6) % 8),1+((c-6) % 4 / 2:Nat),1+((c-6) % 2:Nat),((c-6) / 8:Nat)⟩
 else if c<106 then ⟨6,false,decide (2 <= c-102),1,1+((c-102) % 2:Nat),0⟩
 else if c<108 then ⟨7,false,c-102 == 5,1,2,0⟩
 else ⟨8,false,decide (8 <= c-102),1,1+((c-102) % 2:Nat),0⟩
def Hn:E6:=⟨0,false,false,0,0,0⟩
def inR (n:Int):Bool:=decide (0 <= n) && decide (n<112)
theorem R9 {n:Int} (h:inR n=true):∃ k:Nat,n=(k:Int)∧k<112:=by
 simp [inR] at h;exact ⟨n.toNat,by omega,by omega⟩
theorem YM {n:Int} (h:inR n=false):n<0 ∨ 0 <= n∧112 <= n:=by
 simp [inR] at h;omega
def cx0:Cx:=Br Gl [] []
noncomputable def Aip:List V->AB:=λvs=>A7 (An tab cx0 Tryz.f160 vs [])
theorem AiC:As Tryz.prog Gl 160 Aip:=AH AA mixed Tryz.func160 (by kernel_rfl) (by kernel_rfl) (Bh Ar.nil _)
noncomputable def Af6:List V->AB:=λvs=>A7 (An tab cx0 Tryz.f115 vs [])
theorem AiD:As Tryz.prog Gl 115 Af6:=AH AA mixed Tryz.func115 (by kernel_rfl) (by kernel_rfl) (Bh Ar.nil _)
noncomputable def Adr:List V->AB:=λvs=>A7 (An tab cx0 Tryz.f180 vs [])
theorem p74:As Tryz.prog Gl 180 Adr:=AH AA mixed Tryz.func180 (by kernel_rfl) (by kernel_rfl) (Bh Ar.nil _)
noncomputable def ZN:List V->AB:=λvs=>A7 (An tab cx0 Tryz.f181 vs [])
theorem p75:As Tryz.prog Gl 181 ZN:=AH AA mixed Tryz.func181 (by kernel_rfl) (by kernel_rfl) (Bh Ar.nil _)
noncomputable def Aiq:List V->AB:=λvs=>A7 (An tab cx0 Tryz.f182 vs [])
theorem p76:As Tryz.prog Gl 182 Aiq:=AH AA mixed Tryz.func182 (by kernel_rfl) (by kernel_rfl) (Bh Ar.nil _)
noncomputable def tb0:AK:=(180,Adr)::(181,ZN)::(182,Aiq)::[]
theorem D7:Ar Tryz.prog Gl tb0:=.cons p74 <| .cons p75 <| .cons p76 .nil
noncomputable def Afv:Cx:=Br Gl tb0 []
def I9 (c:Nat):List UInt8 :=
 if c<6 then Ql.getD c []
 else if 102 <= c then V6.getD (c-102) []
 else (if (c-6) / 8=0 then [80,111] else if (c-6) / 8=1 then [77,70,101,110,99,101] else if (c-6) / 8=2 then [70,101,110,99,101,46,116,115,111]
  else [70,101,110,99,101,46]++UD.getD ((c-6) / 8-3) [])++((if 4 <= (c-6) % 8 then [115] else [100])++Vz.getD ((c-6) % 4) [])
end Go.Proofs.YtkbafjceglhjhaaGreatDoor.Ed
namespace Go.Proofs.YtkbafjceglhjhaaGreatDoor.Ed
open Go.Sy
theorem Afb:(List.range 112).map (λk:Nat=>(A7 (An tab cx0 Tryz.f160 [nV k] [])).sem)=(List.range 112).map λk=>some (eV (De k),[]):=by kernel_rfl
theorem AaS:(List.range 112).map (λk:Nat=>(A7 (An tab cx0 Tryz.f115 [nV k] [])).sem)=(List.range 112).map λk=>some (.str (I9 k),[]):=by kernel_rfl
theorem AiP:(List.range 112).map (λk:Nat=>(A7 (An tab Afv Tryz.f150 [nV k] [])).sem)=(List.range 112).map λk=>some (.tup [eV (De k),iV 0],[]):=by kernel_rfl
theorem Aha (n:Int):(A7 (An tab Afv Tryz.f150 [iV n] [])).path [true,true,true,true]=some ([ilt n 0,ilt n 0,ilt n 0,true],(.tup [eV Hn,iV 30],[])):=by kernel_rfl
theorem AgZ (n:Int):(A7 (An tab Afv Tryz.f150 [iV n] [])).path [false,false,false,true]=some ([ilt n 0,ilt n 0,ilt n 0,ile 112 n],(.tup [eV Hn,iV 30],[])):=by kernel_rfl
end Go.Proofs.YtkbafjceglhjhaaGreatDoor.Ed
namespace Go.Proofs.YtkbafjceglhjhaaGreatDoor.Ed
open Go.Sy
def OI (f:Nat->V):List V->AB
 | [v]=>match gI v with
  | some n=>.br (inR n) (.leaf (f n.toNat,[])) .fail
  | none=>.fail
 | _=>.fail
theorem Nu {f:Nat->V} {vs:List V} {r:V×List Blk} (h:(OI f vs).sem=some r):∃ k:Nat,k<112∧vs=[nV k]∧r=(f k,[]):=by
 unfold OI at h;split at h
 ·split at h
  ·rename_i v n hn
   obtain ⟨h1,h2⟩:=Ab h;obtain ⟨k,rfl,hk⟩:=R9 h1;exact ⟨k,hk,by rw [FO hn]; rfl,by rw [Aa h2]; rfl⟩
  ·cases h
 ·cases h
theorem p71:As Tryz.prog Gl 160 (OI λk=>eV (De k)):=by
 refine AiC.congr λvs r h=>?_;obtain ⟨k,hk,rfl,rfl⟩:=Nu h;exact Fi Afb k hk
theorem p70:As Tryz.prog Gl 115 (OI λk=>.str (I9 k)):=by
 refine AiD.congr λvs r h=>?_;obtain ⟨k,hk,rfl,rfl⟩:=Nu h;exact Fi AaS k hk
def ofT:List V->AB
 | [v]=>match gI v with
  | some n=>.br (inR n) (.leaf (.tup [eV (De n.toNat),iV 0],[])) (.leaf (.tup [eV Hn,iV 30],[]))
  | none=>.fail
 | _=>.fail
theorem Yo {vs:List V} {r:V×List Blk} (h:(ofT vs).sem=some r):∃ n,vs=[iV n]∧((∃ k:Nat,n=Int.ofNat k∧k<112∧r=(.tup [eV (De k),iV 0],[])) ∨ ((n<0 ∨ 0 <= n∧112 <= n)∧r=(.tup [eV Hn,iV 30],[]))):=by
 unfold ofT at h;split at h
 ·split at h
  ·rename_i v n hn
   refine ⟨n,by rw [FO hn],?_⟩;cases hi:inR n with
   | true =>obtain ⟨k,rfl,hk⟩:=R9 hi;simp only [T.sem,hi,sel,cond_true,Option.some.injEq] at h;exact .inl ⟨k,rfl,hk,h.symm⟩
   | false =>simp only [T.sem,hi,sel,cond_false,Option.some.injEq] at h;exact .inr ⟨YM hi,h.symm⟩
  ·cases h
 ·cases h
theorem Abc {a b:Int} (h:a<b):ilt a b=true:=by simpa [ilt] using h
theorem Yt {a b:Int} (h:b <= a):ilt a b=false:=by simp [ilt]; omega
theorem Va {a b:Int} (h:a <= b):ile a b=true:=by simpa [ile] using h
theorem p31:As Tryz.prog Gl 150 ofT:=by
 refine As.congr (AH AA mixed Tryz.func150 (by kernel_rfl) (by kernel_rfl) (Bh D7 [])) λvs r h=>?_;obtain ⟨n,rfl,⟨k,rfl,hk,rfl⟩ | ⟨hn,rfl⟩⟩:=Yo h
 ·exact Fi AiP k hk
 ·rcases hn with hn | ⟨h0,hn⟩
  ·exact A2 (Aha n) (by rw [Abc hn])
  ·exact A2 (AgZ n) (by rw [Yt h0,Va hn])
noncomputable def tb1:AK:=(160,OI λk=>eV (De k))::(115,OI λk=>.str (I9 k))::(150,ofT)::[]
theorem SK:Ar Tryz.prog Gl tb1:=.cons p71 <| .cons p70 <| .cons p31 .nil
noncomputable def cx1:Cx:=Br Gl tb1 [(0,⟨[],1,[],1,113⟩)]
def FP (e:E6):Nat->Nat->Option Nat
 | 0,_=>none
 | m+1,k=>match eqE (De k) e with
  | true=>some k
  | false=>FP e m (Nat.succ k)
def BG (e:E6):Int:=match FP e 112 0 with
 | some k=>Int.ofNat k
 | none=>0
def AZ (e:E6):Int:=match FP e 112 0 with
 | some _=>0
 | none=>30
def Nv (e:E6):Nat->Nat->Option (V×List Blk)
 | 0,_=>some (.tup [iV 0,iV 30],[])
 | m+1,k=>sel (eqE (De k) e) (some (.tup [nV k,iV 0],[])) (Nv e m (Nat.succ k))
def Qm (e:E6):Nat->Nat->Option (V×List Blk)
 | 0,_=>some (.tup [iV 0,iV 30],[])
 | m+1,k=>sel (eqE e (De k)) (some (.tup [nV k,iV 0],[])) (Qm e m (Nat.succ k))
theorem Sj (e:E6):∀ m k,Nv e m k=match FP e m k with
  | some j=>some (.tup [nV j,iV 0],[])
  | none=>some (.tup [iV 0,iV 30],[])
 | 0,k=>rfl
 | m+1,k=>by
  simp only [Nv,FP];cases h:eqE (De k) e with
  | true=>rfl
  | false=>exact Sj e m (Nat.succ k)
theorem OK (e:E6):∀ m k,Qm e m k=Nv e m k
 | 0,_=>rfl
 | m+1,k=>by
  simp only [Nv,Qm,OK e m,Zg e]
theorem OJ (e:E6):Nv e 112 0=some (.tup [iV (BG e),iV (AZ e)],[]):=by
 rw [Sj];unfold BG AZ;cases FP e 112 0 <;> rfl
theorem Afy (e:E6):(A7 (An tab cx1 Tryz.f114 [eV e] [])).sem=Nv e 112 0:=by kernel_rfl
theorem Afx (e:E6):(A7 (An tab cx1 Tryz.f119 [eV e] [])).sem=Qm e 112 0:=by kernel_rfl
def BI (f:E6->V):List V->AB
 | [v]=>match toE v with
  | some e=>.leaf (f e,[])
  | none=>.fail
 | _=>.fail
theorem BO {f:E6->V} {vs:List V} {r:V×List Blk} (h:(BI f vs).sem=some r):∃ e,vs=[eV e]∧r=(f e,[]):=by
 unfold BI at h;split at h
 ·split at h
  ·rename_i v e hn
   exact ⟨e,by rw [Mb hn],Aa h⟩
  ·cases h
 ·cases h
def Sk (e:E6):V:=.tup [iV (BG e),iV (AZ e)]
theorem p24:As Tryz.prog Gl 114 (BI Sk):=by
 refine As.congr (AH AA mixed Tryz.func114 (by kernel_rfl) (by kernel_rfl) (Γ:=cx1) (Bh SK _)) λvs r h=>?_;obtain ⟨e,rfl,rfl⟩:=BO h;exact (Afy e).trans (OJ e)
theorem p25:As Tryz.prog Gl 119 (BI Sk):=by
 refine As.congr (AH AA mixed Tryz.func119 (by kernel_rfl) (by kernel_rfl) (Γ:=cx1) (Bh SK _)) λvs r h=>?_;obtain ⟨e,rfl,rfl⟩:=BO h;exact (Afx e).trans ((OK e 112 0).trans (OJ e))
end Go.Proofs.YtkbafjceglhjhaaGreatDoor.Ed
namespace Go.Proofs.YtkbafjceglhjhaaGreatDoor.Ed
open Go.Sy
noncomputable def tb2:AK:=(114,BI Sk)::(119,BI Sk)::tb1
theorem Xu:Ar Tryz.prog Gl tb2:=.cons p24 <| .cons p25 SK
noncomputable def cx2:Cx:=Br Gl tb2 []
theorem AbL (e:E6):(A7 (An tab cx2 Tryz.f121 [eV e] [])).sem=some (iV (AZ e),[]):=by kernel_rfl
theorem p29:As Tryz.prog Gl 121 (BI λe=>iV (AZ e)):=by
 refine As.congr (AH AA mixed Tryz.func121 (by kernel_rfl) (by kernel_rfl) (Γ:=cx2) (Bh Xu _)) λvs r h=>?_;obtain ⟨e,rfl,rfl⟩:=BO h;exact AbL e
theorem Hb (e:E6):∀ m k j,FP e m k=some j->k <= j∧j<k+m∧De j=e
 | 0,k,j,h=>by cases h
 | m+1,k,j,h=>by
  simp only [FP] at h;split at h
  ·rename_i he
   simp only [Option.some.injEq] at h;subst h;exact ⟨Nat.le_refl _,by omega,(Iq _ _).1 he⟩
  ·obtain ⟨h1,h2,h3⟩:=Hb e m _ j h
   exact ⟨by omega,by omega,h3⟩
def O2 (e:E6):List UInt8:=match FP e 112 0 with
 | some k=>I9 k
 | none=>[]
def Li (e:E6):V:=.tup [.str (O2 e),iV (AZ e)]
noncomputable def tb3:AK:=(121,BI λe=>iV (AZ e))::tb2
theorem tb3_ok:Ar Tryz.prog Gl tb3:=.cons p29 Xu
noncomputable def tbn:AK:=(122,λvs=>A7 (An tab cx0 Tryz.f122 vs []))::(163,λvs=>A7 (An tab cx0 Tryz.f163 vs []))::[]
theorem Xo:Ar Tryz.prog Gl tbn :=
 .cons (AH AA mixed Tryz.func122 (by kernel_rfl) (by kernel_rfl) (Γ:=cx0) (Bh .nil _)) <|
 .cons (AH AA mixed Tryz.func163 (by kernel_rfl) (by kernel_rfl) (Γ:=cx0) (Bh .nil _)) .nil
noncomputable def cxn:Cx:=Br Gl tbn []
noncomputable def tb4:AK:=(123,λvs=>A7 (An tab cxn Tryz.f123 vs []))::(tbn++tb3)
theorem Ar.append {P:Program} {G:Nat->V} {a b:AK} (ha:Ar P G a) (hb:Ar P G b):Ar P G (a++b):=λp hp=>(List.mem_append.1 hp).elim (ha p) (hb p)
theorem Xt:Ar Tryz.prog Gl tb4 :=
 .cons (AH AA mixed Tryz.func123 (by kernel_rfl) (by kernel_rfl) (Γ:=cxn) (Bh Xo _)) (Ar.append Xo tb3_ok)
noncomputable def cx4:Cx:=Br Gl tb4 []
theorem AeW:(List.range 112).map (λk:Nat=>(A7 (An tab cx4 Tryz.f80 [eV (De k)] [])).sem)=(List.range 112).map λk=>some (.tup [.str (I9 k),iV 0],[]):=by kernel_rfl
theorem AaU (e:E6):(A7 (An tab cx4 Tryz.f80 [eV e] [])).path [true]=some ([AL (ieq (AZ e) 0)],(.tup [.str [],iV 30],[])):=by kernel_rfl
theorem AaW (e:E6):(A7 (An tab cx4 Tryz.f74 [eV e] [])).path [true]=some ([AL (ieq (AZ e) 0)],(.tup [.str [],iV (AZ e)],[])):=by kernel_rfl
theorem AaV (e:E6):(A7 (An tab cx4 Tryz.f74 [eV e] [])).path [false,true]=some ([AL (ieq (AZ e) 0),inR (BG e)],(.tup [.str (I9 (BG e).toNat),iV 0],[])):=by kernel_rfl
theorem AeX (e:E6):(A7 (An tab cx4 Tryz.f74 [eV e] [])).sem=some (Li e,[]):=by
 unfold Li O2;cases h:FP e 112 0 with
 | none =>
  have hf:AZ e=30:=by unfold AZ; rw [h]
  exact A2 (AaW e) (by rw [hf]; rfl)
 | some k =>
  have hf:AZ e=0:=by unfold AZ; rw [h]
  have hn:BG e=Int.ofNat k:=by unfold BG; rw [h]
  have hk:=(Hb e 112 0 k h).2.1;have:=A2 (AaV e) (by rw [hf,hn,show inR (Int.ofNat k)=true by simp [inR]; omega]; rfl);rw [this,hn,hf];rfl
theorem AaT (e:E6):(A7 (An tab cx4 Tryz.f80 [eV e] [])).sem=some (Li e,[]):=by
 unfold Li O2;cases h:FP e 112 0 with
 | none =>
  have hf:AZ e=30:=by unfold AZ; rw [h]
  rw [hf];exact A2 (AaU e) (by rw [hf]; rfl)
 | some k =>
  have hf:AZ e=0:=by unfold AZ; rw [h]
  obtain ⟨_,hk,rfl⟩:=Hb e 112 0 k h;rw [hf];exact Fi AeW k (by omega)
theorem p26:As Tryz.prog Gl 74 (BI Li):=by
 refine As.congr (AH AA mixed Tryz.func74 (by kernel_rfl) (by kernel_rfl) (Γ:=cx4) (Bh Xt _)) λvs r h=>?_;obtain ⟨e,rfl,rfl⟩:=BO h;exact AeX e
theorem p27:As Tryz.prog Gl 80 (BI Li):=by
 refine As.congr (AH AA mixed Tryz.func80 (by kernel_rfl) (by kernel_rfl) (Γ:=cx4) (Bh Xt _)) λvs r h=>?_;obtain ⟨e,rfl,rfl⟩:=BO h;exact AaT e
end Go.Proofs.YtkbafjceglhjhaaGreatDoor.Ed
