/-
  The table of the program's types, as the evaluator asks of them, and that it is the program's own. No conditions.
-/
import Derived.Test.YtkbafjceglhjhaaGreatDoorSyA
import Derived.Test.YtkbafjceglhjhaaGreatDoorProg
import Derived.KernelRfl
import Derived.Test.YtkbafjceglhjhaaGreatDoorSyU
import Derived.Test.YtkbafjceglhjhaaGreatDoorRows
namespace Go.Sy
open Go.Proofs
set_option maxRecDepth 100000
def tab:List Ty:=[
 ⟨.other,1,0,.und,false⟩,
 ⟨.other,1,8,.val (.nilFunc),false⟩,
 ⟨.int .i64,1,8,.val (.int .i64 0),false⟩,
 ⟨.int .i64,1,8,.val (.int .i64 0),false⟩,
 ⟨.bool,1,1,.val (.bool false),false⟩,
 ⟨.int .u8,1,1,.val (.int .u8 0),false⟩,
 ⟨.int .u8,1,1,.val (.int .u8 0),false⟩,
 ⟨.st [(0,2),(1,3),(2,4),(3,6)],4,24,.agg [.val (.int .i64 0),.val (.int .i64 0),.val (.bool false),.val (.int .u8 0)],true⟩,
 ⟨.st [(0,2),(1,3),(2,4),(3,6)],4,24,.agg [.val (.int .i64 0),.val (.int .i64 0),.val (.bool false),.val (.int .u8 0)],true⟩,
 ⟨.str,1,16,.str [],false⟩,
 ⟨.str,1,16,.str [],false⟩,
 ⟨.str,1,16,.str [],false⟩,
 ⟨.int .u64,1,8,.val (.int .u64 0),false⟩,
 ⟨.st [(0,9),(1,12)],2,24,.agg [.str [],.val (.int .u64 0)],false⟩,
 ⟨.st [(0,9),(1,12)],2,24,.agg [.str [],.val (.int .u64 0)],false⟩,
 ⟨.other,1,8,.val (.pointer none),false⟩,
 ⟨.other,1,8,.val (.pointer none),false⟩,
 ⟨.other,1,8,.val (.pointer none),false⟩,
 ⟨.st [(0,17)],1,8,.agg [.val (.pointer none)],false⟩,
 ⟨.st [(0,17)],1,8,.agg [.val (.pointer none)],false⟩,
 ⟨.other,1,16,.val (.nilIface),false⟩,
 ⟨.int .i32,1,4,.val (.int .i32 0),false⟩,
 ⟨.sl 76,1,24,.nilS,false⟩,
 ⟨.sl 74,1,24,.nilS,false⟩,
 ⟨.sl 3,1,24,.nilS,false⟩,
 ⟨.sl 24,1,24,.nilS,false⟩,
 ⟨.st [(0,3),(1,22),(2,23),(3,3),(4,3),(5,24),(6,25)],7,120,.agg [.val (.int .i64 0),.nilS,.nilS,.val (.int .i64 0),.val (.int .i64 0),.nilS,.nilS],false⟩,
 ⟨.st [(0,3),(1,22),(2,23),(3,3),(4,3),(5,24),(6,25)],7,120,.agg [.val (.int .i64 0),.nilS,.nilS,.val (.int .i64 0),.val (.int .i64 0),.nilS,.nilS],false⟩,
 ⟨.other,1,8,.val (.nilFunc),false⟩,
 ⟨.sl 63,1,24,.nilS,false⟩,
 ⟨.int .i64,1,8,.val (.int .i64 0),false⟩,
 ⟨.other,1,0,.und,false⟩,
 ⟨.other,1,8,.val (.nilFunc),false⟩,
 ⟨.other,1,0,.und,false⟩,
 ⟨.other,1,8,.val (.nilFunc),false⟩,
 ⟨.sl 68,1,24,.nilS,false⟩,
 ⟨.other,1,0,.und,false⟩,
 ⟨.other,1,8,.val (.nilFunc),false⟩,
 ⟨.other,1,8,.val (.nilFunc),false⟩,
 ⟨.other,1,8,.val (.nilFunc),false⟩,
 ⟨.other,1,8,.val (.nilFunc),false⟩,
 ⟨.other,1,8,.val (.nilFunc),false⟩,
 ⟨.st [(0,3),(1,3),(2,9)],3,32,.agg [.val (.int .i64 0),.val (.int .i64 0),.str []],true⟩,
 ⟨.st [(0,3),(1,3),(2,9)],3,32,.agg [.val (.int .i64 0),.val (.int .i64 0),.str []],true⟩,
 ⟨.sl 46,1,24,.nilS,false⟩,
 ⟨.st [(0,3),(1,43),(4,3),(5,44)],6,72,.agg [.val (.int .i64 0),.val (.int .i64 0),.val (.int .i64 0),.str [],.val (.int .i64 0),.nilS],false⟩,
 ⟨.st [(0,3),(1,43),(4,3),(5,44)],6,72,.agg [.val (.int .i64 0),.val (.int .i64 0),.val (.int .i64 0),.str [],.val (.int .i64 0),.nilS],false⟩,
 ⟨.st [(0,3),(1,46)],7,80,.agg [.val (.int .i64 0),.val (.int .i64 0),.val (.int .i64 0),.val (.int .i64 0),.str [],.val (.int .i64 0),.nilS],false⟩,
 ⟨.st [(0,3),(1,46)],7,80,.agg [.val (.int .i64 0),.val (.int .i64 0),.val (.int .i64 0),.val (.int .i64 0),.str [],.val (.int .i64 0),.nilS],false⟩,
 ⟨.st [(0,3),(1,9),(2,9),(3,35),(4,29),(5,48)],12,168,.agg [.val (.int .i64 0),.str [],.str [],.nilS,.nilS,.val (.int .i64 0),.val (.int .i64 0),.val (.int .i64 0),.val (.int .i64 0),.str [],.val (.int .i64 0),.nilS],false⟩,
 ⟨.st [(0,3),(1,9),(2,9),(3,35),(4,29),(5,48)],12,168,.agg [.val (.int .i64 0),.str [],.str [],.nilS,.nilS,.val (.int .i64 0),.val (.int .i64 0),.val (.int .i64 0),.val (.int .i64 0),.str [],.val (.int .i64 0),.nilS],false⟩,
 ⟨.other,1,8,.val (.nilFunc),false⟩,
 ⟨.other,1,8,.val (.nilFunc),false⟩,
 ⟨.other,1,8,.val (.nilFunc),false⟩,
 ⟨.other,1,8,.val (.nilFunc),false⟩,
 ⟨.other,1,8,.val (.nilFunc),false⟩,
 ⟨.other,1,8,.val (.nilFunc),false⟩,
 ⟨.other,1,0,.und,false⟩,
 ⟨.other,1,8,.val (.nilFunc),false⟩,
 ⟨.other,1,8,.val (.nilFunc),false⟩,
 ⟨.other,1,8,.val (.nilFunc),false⟩,
 ⟨.other,1,0,.und,false⟩,
 ⟨.other,1,8,.val (.nilFunc),false⟩,
 ⟨.sl 72,1,24,.nilS,false⟩,
 ⟨.arr 32 3,32,256,.agg [.val (.int .i64 0),.val (.int .i64 0),.val (.int .i64 0),.val (.int .i64 0),.val (.int .i64 0),.val (.int .i64 0),.val (.int .i64 0),.val (.int .i64 0),.val (.int .i64 0),.val (.int .i64 0),.val (.int .i64 0),.val (.int .i64 0),.val (.int .i64 0),.val (.int .i64 0),.val (.int .i64 0),.val (.int .i64 0),.val (.int .i64 0),.val (.int .i64 0),.val (.int .i64 0),.val (.int .i64 0),.val (.int .i64 0),.val (.int .i64 0),.val (.int .i64 0),.val (.int .i64 0),.val (.int .i64 0),.val (.int .i64 0),.val (.int .i64 0),.val (.int .i64 0),.val (.int .i64 0),.val (.int .i64 0),.val (.int .i64 0),.val (.int .i64 0)],true⟩,
 ⟨.st [(0,9),(1,3)],2,24,.agg [.str [],.val (.int .i64 0)],true⟩,
 ⟨.st [(0,9),(1,3)],2,24,.agg [.str [],.val (.int .i64 0)],true⟩,
 ⟨.st [(0,3),(1,3),(2,9),(3,66)],5,56,.agg [.val (.int .i64 0),.val (.int .i64 0),.str [],.str [],.val (.int .i64 0)],true⟩,
 ⟨.st [(0,3),(1,3),(2,9),(3,66)],5,56,.agg [.val (.int .i64 0),.val (.int .i64 0),.str [],.str [],.val (.int .i64 0)],true⟩,
 ⟨.other,1,0,.und,false⟩,
 ⟨.other,1,8,.val (.nilFunc),false⟩,
 ⟨.st [(0,3),(1,3),(2,3),(3,3),(4,3),(5,9),(6,9),(7,3)],8,80,.agg [.val (.int .i64 0),.val (.int .i64 0),.val (.int .i64 0),.val (.int .i64 0),.val (.int .i64 0),.str [],.str [],.val (.int .i64 0)],true⟩,
 ⟨.st [(0,3),(1,3),(2,3),(3,3),(4,3),(5,9),(6,9),(7,3)],8,80,.agg [.val (.int .i64 0),.val (.int .i64 0),.val (.int .i64 0),.val (.int .i64 0),.val (.int .i64 0),.str [],.str [],.val (.int .i64 0)],true⟩,
 ⟨.st [(0,3),(1,3),(2,3),(3,3),(4,3)],5,40,.agg [.val (.int .i64 0),.val (.int .i64 0),.val (.int .i64 0),.val (.int .i64 0),.val (.int .i64 0)],true⟩,
 ⟨.st [(0,3),(1,3),(2,3),(3,3),(4,3)],5,40,.agg [.val (.int .i64 0),.val (.int .i64 0),.val (.int .i64 0),.val (.int .i64 0),.val (.int .i64 0)],true⟩,
 ⟨.st [(0,3),(1,4),(2,4),(3,3),(4,3),(5,3)],6,40,.agg [.val (.int .i64 0),.val (.bool false),.val (.bool false),.val (.int .i64 0),.val (.int .i64 0),.val (.int .i64 0)],true⟩,
 ⟨.st [(0,3),(1,4),(2,4),(3,3),(4,3),(5,3)],6,40,.agg [.val (.int .i64 0),.val (.bool false),.val (.bool false),.val (.int .i64 0),.val (.int .i64 0),.val (.int .i64 0)],true⟩,
 ⟨.sl 66,1,24,.nilS,false⟩,
 ⟨.st [(0,77),(1,3)],2,32,.agg [.nilS,.val (.int .i64 0)],false⟩,
 ⟨.st [(0,77),(1,3)],2,32,.agg [.nilS,.val (.int .i64 0)],false⟩,
 ⟨.st [(0,3),(1,9),(2,3),(3,3),(4,3)],5,48,.agg [.val (.int .i64 0),.str [],.val (.int .i64 0),.val (.int .i64 0),.val (.int .i64 0)],true⟩,
 ⟨.st [(0,3),(1,9),(2,3),(3,3),(4,3)],5,48,.agg [.val (.int .i64 0),.str [],.val (.int .i64 0),.val (.int .i64 0),.val (.int .i64 0)],true⟩,
 ⟨.other,1,0,.und,false⟩,
 ⟨.other,1,8,.val (.nilFunc),false⟩,
 ⟨.other,1,8,.val (.nilFunc),false⟩,
 ⟨.other,1,8,.val (.nilFunc),false⟩,
 ⟨.other,1,8,.val (.nilFunc),false⟩,
 ⟨.sl 94,1,24,.nilS,false⟩,
 ⟨.other,1,8,.val (.nilFunc),false⟩,
 ⟨.other,1,8,.val (.pointer none),false⟩,
 ⟨.st [(0,63)],1,24,.agg [.nilS],false⟩,
 ⟨.st [(0,63)],1,24,.agg [.nilS],false⟩,
 ⟨.imap 3,1,8,.val (.map none),false⟩,
 ⟨.st [(0,24),(1,92)],2,32,.agg [.nilS,.val (.map none)],false⟩,
 ⟨.st [(0,24),(1,92)],2,32,.agg [.nilS,.val (.map none)],false⟩,
 ⟨.other,1,8,.val (.pointer none),false⟩,
 ⟨.st [(0,89),(1,94),(3,95)],4,48,.agg [.val (.pointer none),.nilS,.val (.map none),.val (.pointer none)],false⟩,
 ⟨.st [(0,89),(1,94),(3,95)],4,48,.agg [.val (.pointer none),.nilS,.val (.map none),.val (.pointer none)],false⟩,
 ⟨.other,1,8,.val (.nilFunc),false⟩,
 ⟨.other,1,8,.val (.nilFunc),false⟩,
 ⟨.other,1,0,.und,false⟩,
 ⟨.other,1,8,.val (.nilFunc),false⟩,
 ⟨.other,1,0,.und,false⟩,
 ⟨.other,1,8,.val (.nilFunc),false⟩,
 ⟨.other,1,8,.val (.nilFunc),false⟩,
 ⟨.other,1,8,.val (.nilFunc),false⟩,
 ⟨.other,1,8,.val (.nilFunc),false⟩,
 ⟨.other,1,8,.val (.nilFunc),false⟩,
 ⟨.other,1,8,.val (.nilFunc),false⟩,
 ⟨.other,1,8,.val (.nilFunc),false⟩,
 ⟨.other,1,8,.val (.nilFunc),false⟩,
 ⟨.other,1,8,.val (.nilFunc),false⟩,
 ⟨.other,1,0,.und,false⟩,
 ⟨.other,1,8,.val (.nilFunc),false⟩,
 ⟨.other,1,8,.val (.nilFunc),false⟩,
 ⟨.other,1,8,.val (.nilFunc),false⟩,
 ⟨.other,1,8,.val (.nilFunc),false⟩,
 ⟨.other,1,8,.val (.nilFunc),false⟩,
 ⟨.other,1,8,.val (.nilFunc),false⟩,
 ⟨.other,1,8,.val (.pointer none),false⟩,
 ⟨.other,1,8,.val (.nilFunc),false⟩,
 ⟨.st [(0,72),(8,66),(10,66),(12,3),(13,79),(15,81)],20,216,.agg [.val (.int .i64 0),.val (.int .i64 0),.val (.int .i64 0),.val (.int .i64 0),.val (.int .i64 0),.str [],.str [],.val (.int .i64 0),.str [],.val (.int .i64 0),.str [],.val (.int .i64 0),.val (.int .i64 0),.nilS,.val (.int .i64 0),.val (.int .i64 0),.str [],.val (.int .i64 0),.val (.int .i64 0),.val (.int .i64 0)],false⟩,
 ⟨.st [(0,72),(8,66),(10,66),(12,3),(13,79),(15,81)],20,216,.agg [.val (.int .i64 0),.val (.int .i64 0),.val (.int .i64 0),.val (.int .i64 0),.val (.int .i64 0),.str [],.str [],.val (.int .i64 0),.str [],.val (.int .i64 0),.str [],.val (.int .i64 0),.val (.int .i64 0),.nilS,.val (.int .i64 0),.val (.int .i64 0),.str [],.val (.int .i64 0),.val (.int .i64 0),.val (.int .i64 0)],false⟩,
 ⟨.other,1,8,.val (.nilFunc),false⟩,
 ⟨.other,1,8,.val (.map none),false⟩,
 ⟨.other,1,8,.val (.nilFunc),false⟩,
 ⟨.other,1,8,.val (.pointer none),false⟩,
 ⟨.other,1,8,.val (.nilFunc),false⟩,
 ⟨.other,1,8,.val (.nilFunc),false⟩,
 ⟨.other,1,8,.val (.nilFunc),false⟩,
 ⟨.other,1,8,.val (.nilFunc),false⟩,
 ⟨.other,1,0,.und,false⟩,
 ⟨.other,1,8,.val (.nilFunc),false⟩,
 ⟨.other,1,0,.und,false⟩,
 ⟨.other,1,8,.val (.nilFunc),false⟩,
 ⟨.sl 43,1,24,.nilS,false⟩,
 ⟨.other,1,0,.und,false⟩,
 ⟨.other,1,8,.val (.nilFunc),false⟩,
 ⟨.other,1,8,.val (.nilFunc),false⟩,
 ⟨.other,1,8,.val (.nilFunc),false⟩,
 ⟨.sl 9,1,24,.nilS,false⟩,
 ⟨.other,1,8,.val (.nilFunc),false⟩,
 ⟨.other,1,8,.val (.nilFunc),false⟩,
 ⟨.other,1,0,.und,false⟩,
 ⟨.other,1,8,.val (.nilFunc),false⟩,
 ⟨.other,1,8,.val (.nilFunc),false⟩,
 ⟨.other,1,8,.val (.nilFunc),false⟩,
 ⟨.other,1,8,.val (.nilFunc),false⟩,
 ⟨.other,1,8,.val (.nilFunc),false⟩,
 ⟨.other,1,8,.val (.map none),false⟩,
 ⟨.other,1,8,.val (.nilFunc),false⟩,
 ⟨.other,1,8,.val (.nilFunc),false⟩,
 ⟨.other,1,8,.val (.nilFunc),false⟩,
 ⟨.other,1,8,.val (.nilFunc),false⟩,
 ⟨.other,1,8,.val (.nilFunc),false⟩,
 ⟨.other,1,8,.val (.nilFunc),false⟩,
 ⟨.other,1,8,.val (.nilFunc),false⟩,
 ⟨.other,1,0,.und,false⟩,
 ⟨.other,1,8,.val (.nilFunc),false⟩,
 ⟨.other,1,0,.und,false⟩,
 ⟨.other,1,8,.val (.nilFunc),false⟩,
 ⟨.other,1,8,.val (.nilFunc),false⟩,
 ⟨.other,1,8,.val (.nilFunc),false⟩,
 ⟨.other,1,8,.val (.nilFunc),false⟩,
 ⟨.other,1,0,.und,false⟩,
 ⟨.other,1,8,.val (.nilFunc),false⟩,
 ⟨.other,1,8,.val (.pointer none),false⟩,
 ⟨.sl 5,1,24,.nilS,false⟩,
 ⟨.st [(0,166),(1,167)],2,32,.agg [.val (.pointer none),.nilS],false⟩,
 ⟨.st [(0,166),(1,167)],2,32,.agg [.val (.pointer none),.nilS],false⟩,
 ⟨.other,1,8,.val (.nilFunc),false⟩,
 ⟨.other,1,16,.val (.nilIface),false⟩,
 ⟨.other,1,16,.val (.nilIface),false⟩,
 ⟨.other,1,0,.und,false⟩,
 ⟨.other,1,8,.val (.nilFunc),false⟩,
 ⟨.other,1,8,.val (.nilFunc),false⟩,
 ⟨.other,1,8,.val (.nilFunc),false⟩,
 ⟨.other,1,0,.und,false⟩,
 ⟨.other,1,8,.val (.nilFunc),false⟩,
 ⟨.other,1,8,.val (.nilFunc),false⟩,
 ⟨.other,1,8,.val (.nilFunc),false⟩,
 ⟨.other,1,8,.val (.nilFunc),false⟩,
 ⟨.other,1,8,.val (.nilFunc),false⟩,
 ⟨.other,1,8,.val (.nilFunc),false⟩,
 ⟨.other,1,8,.val (.nilFunc),false⟩,
 ⟨.other,1,8,.val (.nilFunc),false⟩,
 ⟨.other,1,8,.val (.pointer none),false⟩,
 ⟨.other,1,8,.val (.nilFunc),false⟩,
 ⟨.other,1,8,.val (.nilFunc),false⟩,
 ⟨.other,1,8,.val (.nilFunc),false⟩,
 ⟨.other,1,8,.val (.nilFunc),false⟩,
 ⟨.other,1,0,.und,false⟩,
 ⟨.other,1,8,.val (.nilFunc),false⟩,
 ⟨.other,1,8,.val (.nilFunc),false⟩,
 ⟨.other,1,8,.val (.nilFunc),false⟩,
 ⟨.other,1,8,.val (.nilFunc),false⟩,
 ⟨.other,1,8,.val (.nilFunc),false⟩,
 ⟨.arr 6 9,6,96,.agg [.str [],.str [],.str [],.str [],.str [],.str []],true⟩,
 ⟨.arr 10 9,10,160,.agg [.str [],.str [],.str [],.str [],.str [],.str [],.str [],.str [],.str [],.str []],true⟩,
 ⟨.arr 9 9,9,144,.agg [.str [],.str [],.str [],.str [],.str [],.str [],.str [],.str [],.str []],true⟩,
 ⟨.arr 4 9,4,64,.agg [.str [],.str [],.str [],.str []],true⟩,
 ⟨.other,1,8,.val (.pointer none),false⟩,
 ⟨.other,1,0,.und,false⟩,
 ⟨.other,1,8,.val (.nilFunc),false⟩,
 ⟨.other,1,8,.val (.nilFunc),false⟩,
 ⟨.other,1,8,.val (.nilFunc),false⟩,
 ⟨.other,1,8,.val (.nilFunc),false⟩,
 ⟨.other,1,8,.val (.nilFunc),false⟩,
 ⟨.other,1,8,.val (.nilFunc),false⟩,
 ⟨.other,1,8,.val (.nilFunc),false⟩,
 ⟨.sl 4,1,24,.nilS,false⟩,
 ⟨.other,1,8,.val (.nilFunc),false⟩,
 ⟨.other,1,8,.val (.pointer none),false⟩,
 ⟨.other,1,8,.val (.nilFunc),false⟩,
 ⟨.other,1,8,.val (.nilFunc),false⟩,
 ⟨.other,1,8,.val (.nilFunc),false⟩,
 ⟨.other,1,8,.val (.nilFunc),false⟩,
 ⟨.arr 24 5,24,24,.agg [.val (.int .u8 0),.val (.int .u8 0),.val (.int .u8 0),.val (.int .u8 0),.val (.int .u8 0),.val (.int .u8 0),.val (.int .u8 0),.val (.int .u8 0),.val (.int .u8 0),.val (.int .u8 0),.val (.int .u8 0),.val (.int .u8 0),.val (.int .u8 0),.val (.int .u8 0),.val (.int .u8 0),.val (.int .u8 0),.val (.int .u8 0),.val (.int .u8 0),.val (.int .u8 0),.val (.int .u8 0),.val (.int .u8 0),.val (.int .u8 0),.val (.int .u8 0),.val (.int .u8 0)],true⟩,
 ⟨.int .u64,1,8,.val (.int .u64 0),false⟩,
 ⟨.other,1,8,.val (.nilFunc),false⟩,
 ⟨.other,1,8,.val (.nilFunc),false⟩,
 ⟨.other,1,0,.und,false⟩,
 ⟨.other,1,8,.val (.nilFunc),false⟩,
 ⟨.other,1,8,.val (.nilFunc),false⟩,
 ⟨.arr 20 218,20,160,.agg [.val (.int .u64 0),.val (.int .u64 0),.val (.int .u64 0),.val (.int .u64 0),.val (.int .u64 0),.val (.int .u64 0),.val (.int .u64 0),.val (.int .u64 0),.val (.int .u64 0),.val (.int .u64 0),.val (.int .u64 0),.val (.int .u64 0),.val (.int .u64 0),.val (.int .u64 0),.val (.int .u64 0),.val (.int .u64 0),.val (.int .u64 0),.val (.int .u64 0),.val (.int .u64 0),.val (.int .u64 0)],true⟩,
 ⟨.int .u32,1,4,.val (.int .u32 0),false⟩,
 ⟨.arr 65 5,65,65,.agg [.val (.int .u8 0),.val (.int .u8 0),.val (.int .u8 0),.val (.int .u8 0),.val (.int .u8 0),.val (.int .u8 0),.val (.int .u8 0),.val (.int .u8 0),.val (.int .u8 0),.val (.int .u8 0),.val (.int .u8 0),.val (.int .u8 0),.val (.int .u8 0),.val (.int .u8 0),.val (.int .u8 0),.val (.int .u8 0),.val (.int .u8 0),.val (.int .u8 0),.val (.int .u8 0),.val (.int .u8 0),.val (.int .u8 0),.val (.int .u8 0),.val (.int .u8 0),.val (.int .u8 0),.val (.int .u8 0),.val (.int .u8 0),.val (.int .u8 0),.val (.int .u8 0),.val (.int .u8 0),.val (.int .u8 0),.val (.int .u8 0),.val (.int .u8 0),.val (.int .u8 0),.val (.int .u8 0),.val (.int .u8 0),.val (.int .u8 0),.val (.int .u8 0),.val (.int .u8 0),.val (.int .u8 0),.val (.int .u8 0),.val (.int .u8 0),.val (.int .u8 0),.val (.int .u8 0),.val (.int .u8 0),.val (.int .u8 0),.val (.int .u8 0),.val (.int .u8 0),.val (.int .u8 0),.val (.int .u8 0),.val (.int .u8 0),.val (.int .u8 0),.val (.int .u8 0),.val (.int .u8 0),.val (.int .u8 0),.val (.int .u8 0),.val (.int .u8 0),.val (.int .u8 0),.val (.int .u8 0),.val (.int .u8 0),.val (.int .u8 0),.val (.int .u8 0),.val (.int .u8 0),.val (.int .u8 0),.val (.int .u8 0),.val (.int .u8 0)],true⟩,
 ⟨.int .u64,1,8,.val (.int .u64 0),false⟩,
 ⟨.other,1,8,.val (.nilFunc),false⟩,
 ⟨.other,1,8,.val (.nilFunc),false⟩,
 ⟨.arr 32 5,32,32,.agg [.val (.int .u8 0),.val (.int .u8 0),.val (.int .u8 0),.val (.int .u8 0),.val (.int .u8 0),.val (.int .u8 0),.val (.int .u8 0),.val (.int .u8 0),.val (.int .u8 0),.val (.int .u8 0),.val (.int .u8 0),.val (.int .u8 0),.val (.int .u8 0),.val (.int .u8 0),.val (.int .u8 0),.val (.int .u8 0),.val (.int .u8 0),.val (.int .u8 0),.val (.int .u8 0),.val (.int .u8 0),.val (.int .u8 0),.val (.int .u8 0),.val (.int .u8 0),.val (.int .u8 0),.val (.int .u8 0),.val (.int .u8 0),.val (.int .u8 0),.val (.int .u8 0),.val (.int .u8 0),.val (.int .u8 0),.val (.int .u8 0),.val (.int .u8 0)],true⟩,
 ⟨.arr 64 5,64,64,.agg [.val (.int .u8 0),.val (.int .u8 0),.val (.int .u8 0),.val (.int .u8 0),.val (.int .u8 0),.val (.int .u8 0),.val (.int .u8 0),.val (.int .u8 0),.val (.int .u8 0),.val (.int .u8 0),.val (.int .u8 0),.val (.int .u8 0),.val (.int .u8 0),.val (.int .u8 0),.val (.int .u8 0),.val (.int .u8 0),.val (.int .u8 0),.val (.int .u8 0),.val (.int .u8 0),.val (.int .u8 0),.val (.int .u8 0),.val (.int .u8 0),.val (.int .u8 0),.val (.int .u8 0),.val (.int .u8 0),.val (.int .u8 0),.val (.int .u8 0),.val (.int .u8 0),.val (.int .u8 0),.val (.int .u8 0),.val (.int .u8 0),.val (.int .u8 0),.val (.int .u8 0),.val (.int .u8 0),.val (.int .u8 0),.val (.int .u8 0),.val (.int .u8 0),.val (.int .u8 0),.val (.int .u8 0),.val (.int .u8 0),.val (.int .u8 0),.val (.int .u8 0),.val (.int .u8 0),.val (.int .u8 0),.val (.int .u8 0),.val (.int .u8 0),.val (.int .u8 0),.val (.int .u8 0),.val (.int .u8 0),.val (.int .u8 0),.val (.int .u8 0),.val (.int .u8 0),.val (.int .u8 0),.val (.int .u8 0),.val (.int .u8 0),.val (.int .u8 0),.val (.int .u8 0),.val (.int .u8 0),.val (.int .u8 0),.val (.int .u8 0),.val (.int .u8 0),.val (.int .u8 0),.val (.int .u8 0),.val (.int .u8 0)],true⟩,
 ⟨.st [(0,17),(1,17),(2,17),(3,9)],4,40,.agg [.val (.pointer none),.val (.pointer none),.val (.pointer none),.str []],false⟩,
 ⟨.st [(0,17),(1,17),(2,17),(3,9)],4,40,.agg [.val (.pointer none),.val (.pointer none),.val (.pointer none),.str []],false⟩,
 ⟨.arr 0 16,0,0,.agg [],false⟩,
 ⟨.st [(0,234)],0,0,.agg [],false⟩,
 ⟨.st [(0,234)],0,0,.agg [],false⟩,
 ⟨.other,1,8,.val (.nilFunc),false⟩,
 ⟨.int .u8,1,1,.val (.int .u8 0),false⟩,
 ⟨.int .u8,1,1,.val (.int .u8 0),false⟩,
 ⟨.other,1,8,.val (.nilFunc),false⟩,
 ⟨.int .i32,1,4,.val (.int .i32 0),false⟩,
 ⟨.int .i32,1,4,.val (.int .i32 0),false⟩,
 ⟨.st [(0,12),(1,12),(2,225),(3,238),(4,5),(5,5),(6,239),(7,240),(8,201),(9,241),(10,242)],11,48,.agg [.val (.int .u64 0),.val (.int .u64 0),.val (.int .u32 0),.val (.int .u8 0),.val (.int .u8 0),.val (.int .u8 0),.val (.int .u8 0),.val (.nilFunc),.val (.pointer none),.val (.int .i32 0),.val (.int .i32 0)],false⟩,
 ⟨.st [(0,12),(1,12),(2,225),(3,238),(4,5),(5,5),(6,239),(7,240),(8,201),(9,241),(10,242)],11,48,.agg [.val (.int .u64 0),.val (.int .u64 0),.val (.int .u32 0),.val (.int .u8 0),.val (.int .u8 0),.val (.int .u8 0),.val (.int .u8 0),.val (.nilFunc),.val (.pointer none),.val (.int .i32 0),.val (.int .i32 0)],false⟩]
def PM (P:Program):Nat->Nat->List (Option Ty)
 | 0,_=>[]
 | n+1,k=>Yd P k::PM P n (Nat.succ k)
def Vo:List Ty->List (Option Ty)
 | []=>[]
 | t::l=>some t::Vo l
theorem AfX:PM Tryz.prog 245 0=Vo tab:=by kernel_rfl
theorem RF (P:Program):∀ (n k j:Nat),j<n->(PM P n k)[j]? = some (Yd P (k+j))
 | 0,_,_,h=>absurd h (Nat.not_lt_zero _)
 | n+1,k,0,_=>rfl
 | n+1,k,j+1,h=>by
  have:=RF P n (Nat.succ k) j (Nat.lt_of_succ_lt_succ h);simp only [PM,List.getElem?_cons_succ,this];rw [show Nat.succ k+j=k+(j+1) by omega]
theorem O8:∀ (l:List Ty) (j:Nat) (t:Ty),l[j]? = some t->(Vo l)[j]? = some (some t)∧j<l.length
 | [],_,_,h=>by simp at h
 | a::l,0,t,h=>by simp at h; subst h; exact ⟨rfl,by simp⟩
 | a::l,j+1,t,h=>by
  have:=O8 l j t (by simpa using h);exact ⟨by simpa [Vo] using this.1,by simp; exact this.2⟩
theorem Ab8:tab.length=245:=by kernel_rfl
theorem AfW (j:Nat) (t:Ty) (h:tab[j]? = some t):Yd Tryz.prog j=some t:=by
 obtain ⟨h1,h2⟩:=O8 tab j t h;rw [Ab8] at h2;rw [<- AfX,RF _ _ _ _ h2] at h1;simpa using h1
end Go.Sy
namespace Go.Proofs.YtkbafjceglhjhaaGreatDoor.Ed
open Go.Sy
def QI:List (List UInt8):=[[82,102,101],[82,102,105],[70,114,101],[70,114,105],[67,111,101],[67,111,105]]
def Wm:List (List UInt8):=[[82,82],[82,87],[87,82],[87,87]]
def Vp:List (List UInt8):=[[114,46,114],[114,46,119],[114,46,114,119],[119,46,114],[119,46,119],[119,46,114,119],[114,119,46,114],[114,119,46,119],[114,119,46,114,119]]
def Wt:List (List UInt8):=[[68,112,65,100,100,114,100,82],[68,112,65,100,100,114,100,87],[68,112,65,100,100,114,115,82],[68,112,65,100,100,114,115,87],[68,112,68,97,116,97,100,87],
 [68,112,68,97,116,97,115,87],[68,112,67,116,114,108,100,82],[68,112,67,116,114,108,100,87],[68,112,67,116,114,108,115,82],[68,112,67,116,114,108,115,87]]
def Gl:Nat->V:=Akm [(0,Mx QI),(1,Mx Wt),(2,Mx Vp),(3,Mx Wm)]
theorem mixed:Tryz.prog.follows .mixedOrders=true:=by kernel_rfl
theorem A8:TabOK Tryz.prog tab:=⟨AfW,Abh⟩
end Go.Proofs.YtkbafjceglhjhaaGreatDoor.Ed
namespace Go.Proofs.YtkbafjceglhjhaaGreatDoor.Ed
open Go.Sy
structure E6 where
 kind:Int
 ext:Bool
 same:Bool
 src:Int
 dst:Int
 fence:Int
 deriving DecidableEq
def eV (e:E6):V:=.agg [iV e.kind,bV e.ext,bV e.same,iV e.src,iV e.dst,iV e.fence]
def toE:V->Option E6
 | .agg [a,b,c,d,e,f]=>match gI a,gB b,gB c,gI d,gI e,gI f with
  | some a,some b,some c,some d,some e,some f=>some ⟨a,b,c,d,e,f⟩
  | _,_,_,_,_,_=>none
 | _=>none
theorem Mw {v:V} {e:E6} (h:toE v=some e):v=eV e:=by
 unfold toE at h;split at h
 ·split at h
  ·rename_i h1 h2 h3 h4 h5 h6
   simp only [Option.some.injEq] at h;subst h;rw [FV h1,Qy h2,Qy h3,FV h4,FV h5,FV h6];rfl
  ·cases h
 ·cases h
def eqE (a b:E6):Bool:=Aj (ieq a.kind b.kind) (Aj (Jr a.ext b.ext) (Aj (Jr a.same b.same) (Aj (ieq a.src b.src) (Aj (ieq a.dst b.dst) (Aj (ieq a.fence b.fence) true)))))
theorem I1 (a b:E6):eqE a b=true↔a=b:=by
 cases a; cases b;simp [eqE,Aj,ieq,Jr]
theorem Aag (a b:E6):eqE a b=eqE b a:=by
 rw [Bool.eq_iff_iff,I1,I1];exact eq_comm
def Df (c:Nat):E6 :=
 if c<6 then ⟨c / 2+1,c % 2 == 0,false,if c / 2 == 1 then 1 else 2,if c / 2 == 0 then 1 else 2,0⟩
 else if c<102 then ⟨if (c-6) / 8 == 0 then 4 else 5,false,decide (4 <= (c-6) % 8),1+((c-6) % 4 / 2:Nat),1+((c-6) % 2:Nat),((c-6) / 8:Nat)⟩
 else if c<106 then ⟨6,false,decide (2 <= c-102),1,1+((c-102) % 2:Nat),0⟩
 else if c<108 then ⟨7,false,c-102 == 5,1,2,0⟩
 else ⟨8,false,decide (8 <= c-102),1,1+((c-102) % 2:Nat),0⟩
def H2:E6:=⟨0,false,false,0,0,0⟩
def inR (n:Int):Bool:=decide (0 <= n) && decide (n<112)
theorem Ss {n:Int} (h:inR n=true):∃ k:Nat,n=(k:Int)∧k<112:=by
 simp [inR] at h;exact ⟨n.toNat,by omega,by omega⟩
theorem ZM {n:Int} (h:inR n=false):n<0 ∨ 0 <= n∧112 <= n:=by
 simp [inR] at h;omega
def cx0:Cx:=Bd Gl [] []
noncomputable def AkQ:List V->A9:=λvs=>Ax (Ak tab cx0 Tryz.f160 vs [])
theorem Alp:As Tryz.prog Gl 160 AkQ:=AG A8 mixed Tryz.func160 (by kernel_rfl) (by kernel_rfl) (Bi Ar.nil _)
noncomputable def AhN:List V->A9:=λvs=>Ax (Ak tab cx0 Tryz.f115 vs [])
theorem Alq:As Tryz.prog Gl 115 AhN:=AG A8 mixed Tryz.func115 (by kernel_rfl) (by kernel_rfl) (Bi Ar.nil _)
noncomputable def Afd:List V->A9:=λvs=>Ax (Ak tab cx0 Tryz.f180 vs [])
theorem p74:As Tryz.prog Gl 180 Afd:=AG A8 mixed Tryz.func180 (by kernel_rfl) (by kernel_rfl) (Bi Ar.nil _)
noncomputable def AaU:List V->A9:=λvs=>Ax (Ak tab cx0 Tryz.f181 vs [])
theorem p75:As Tryz.prog Gl 181 AaU:=AG A8 mixed Tryz.func181 (by kernel_rfl) (by kernel_rfl) (Bi Ar.nil _)
noncomputable def AkR:List V->A9:=λvs=>Ax (Ak tab cx0 Tryz.f182 vs [])
theorem p76:As Tryz.prog Gl 182 AkR:=AG A8 mixed Tryz.func182 (by kernel_rfl) (by kernel_rfl) (Bi Ar.nil _)
noncomputable def tb0:AM:=(180,Afd)::(181,AaU)::(182,AkR)::[]
theorem CN:Ar Tryz.prog Gl tb0:=.cons p74 <| .cons p75 <| .cons p76 .nil
noncomputable def Ah8:Cx:=Bd Gl tb0 []
def IN (c:Nat):List UInt8 :=
 if c<6 then QI.getD c []
 else if 102 <= c then Wt.getD (c-102) []
 else (if (c-6) / 8=0 then [80,111] else if (c-6) / 8=1 then [77,70,101,110,99,101] else if (c-6) / 8=2 then [70,101,110,99,101,46,116,115,111]
  else [70,101,110,99,101,46]++Vp.getD ((c-6) / 8-3) [])++((if 4 <= (c-6) % 8 then [115] else [100])++Wm.getD ((c-6) % 4) [])
end Go.Proofs.YtkbafjceglhjhaaGreatDoor.Ed
namespace Go.Proofs.YtkbafjceglhjhaaGreatDoor.Ed
open Go.Sy
theorem Ahf:(List.range 112).map (λk:Nat=>(Ax (Ak tab cx0 Tryz.f160 [nV k] [])).sem)=(List.range 112).map λk=>some (eV (Df k),[]):=by kernel_rfl
theorem Acc:(List.range 112).map (λk:Nat=>(Ax (Ak tab cx0 Tryz.f115 [nV k] [])).sem)=(List.range 112).map λk=>some (.str (IN k),[]):=by kernel_rfl
theorem Al2:(List.range 112).map (λk:Nat=>(Ax (Ak tab Ah8 Tryz.f150 [nV k] [])).sem)=(List.range 112).map λk=>some (.tup [eV (Df k),iV 0],[]):=by kernel_rfl
theorem Ajw (n:Int):(Ax (Ak tab Ah8 Tryz.f150 [iV n] [])).path [true,true,true,true]=some ([ilt n 0,ilt n 0,ilt n 0,true],(.tup [eV H2,iV 30],[])):=by kernel_rfl
theorem Ajv (n:Int):(Ax (Ak tab Ah8 Tryz.f150 [iV n] [])).path [false,false,false,true]=some ([ilt n 0,ilt n 0,ilt n 0,ile 112 n],(.tup [eV H2,iV 30],[])):=by kernel_rfl
end Go.Proofs.YtkbafjceglhjhaaGreatDoor.Ed
namespace Go.Proofs.YtkbafjceglhjhaaGreatDoor.Ed
open Go.Sy
def Pg (f:Nat->V):List V->A9
 | [v]=>match gI v with
  | some n=>.br (inR n) (.leaf (f n.toNat,[])) .fail
  | none=>.fail
 | _=>.fail
theorem NJ {f:Nat->V} {vs:List V} {r:V×List Blk} (h:(Pg f vs).sem=some r):∃ k:Nat,k<112∧vs=[nV k]∧r=(f k,[]):=by
 unfold Pg at h;split at h
 ·split at h
  ·rename_i v n hn
   obtain ⟨h1,h2⟩:=Ac h;obtain ⟨k,rfl,hk⟩:=Ss h1;exact ⟨k,hk,by rw [FV hn]; rfl,by rw [Aa h2]; rfl⟩
  ·cases h
 ·cases h
theorem p71:As Tryz.prog Gl 160 (Pg λk=>eV (Df k)):=by
 refine Alp.congr λvs r h=>?_;obtain ⟨k,hk,rfl,rfl⟩:=NJ h;exact Fu Ahf k hk
theorem p70:As Tryz.prog Gl 115 (Pg λk=>.str (IN k)):=by
 refine Alq.congr λvs r h=>?_;obtain ⟨k,hk,rfl,rfl⟩:=NJ h;exact Fu Acc k hk
def ofT:List V->A9
 | [v]=>match gI v with
  | some n=>.br (inR n) (.leaf (.tup [eV (Df n.toNat),iV 0],[])) (.leaf (.tup [eV H2,iV 30],[]))
  | none=>.fail
 | _=>.fail
theorem Ze {vs:List V} {r:V×List Blk} (h:(ofT vs).sem=some r):∃ n,vs=[iV n]∧((∃ k:Nat,n=Int.ofNat k∧k<112∧r=(.tup [eV (Df k),iV 0],[])) ∨ ((n<0 ∨ 0 <= n∧112 <= n)∧r=(.tup [eV H2,iV 30],[]))):=by
 unfold ofT at h;split at h
 ·split at h
  ·rename_i v n hn
   refine ⟨n,by rw [FV hn],?_⟩;cases hi:inR n with
   | true =>obtain ⟨k,rfl,hk⟩:=Ss hi;simp only [T.sem,hi,sel,cond_true,Option.some.injEq] at h;exact .inl ⟨k,rfl,hk,h.symm⟩
   | false =>simp only [T.sem,hi,sel,cond_false,Option.some.injEq] at h;exact .inr ⟨ZM hi,h.symm⟩
  ·cases h
 ·cases h
theorem Acm {a b:Int} (h:a<b):ilt a b=true:=by simpa [ilt] using h
theorem Zj {a b:Int} (h:b <= a):ilt a b=false:=by simp [ilt]; omega
theorem VG {a b:Int} (h:a <= b):ile a b=true:=by simpa [ile] using h
theorem p31:As Tryz.prog Gl 150 ofT:=by
 refine As.congr (AG A8 mixed Tryz.func150 (by kernel_rfl) (by kernel_rfl) (Bi CN [])) λvs r h=>?_;obtain ⟨n,rfl,⟨k,rfl,hk,rfl⟩ | ⟨hn,rfl⟩⟩:=Ze h
 ·exact Fu Al2 k hk
 ·rcases hn with hn | ⟨h0,hn⟩
  ·exact A5 (Ajw n) (by rw [Acm hn])
  ·exact A5 (Ajv n) (by rw [Zj h0,VG hn])
noncomputable def tb1:AM:=(160,Pg λk=>eV (Df k))::(115,Pg λk=>.str (IN k))::(150,ofT)::[]
theorem T0:Ar Tryz.prog Gl tb1:=.cons p71 <| .cons p70 <| .cons p31 .nil
noncomputable def cx1:Cx:=Bd Gl tb1 [(0,⟨[],1,[],1,113⟩)]
def FW (e:E6):Nat->Nat->Option Nat
 | 0,_=>none
 | m+1,k=>match eqE (Df k) e with
  | true=>some k
  | false=>FW e m (Nat.succ k)
def BL (e:E6):Int:=match FW e 112 0 with
 | some k=>Int.ofNat k
 | none=>0
def Bc (e:E6):Int:=match FW e 112 0 with
 | some _=>0
 | none=>30
def NK (e:E6):Nat->Nat->Option (V×List Blk)
 | 0,_=>some (.tup [iV 0,iV 30],[])
 | m+1,k=>sel (eqE (Df k) e) (some (.tup [nV k,iV 0],[])) (NK e m (Nat.succ k))
def QJ (e:E6):Nat->Nat->Option (V×List Blk)
 | 0,_=>some (.tup [iV 0,iV 30],[])
 | m+1,k=>sel (eqE e (Df k)) (some (.tup [nV k,iV 0],[])) (QJ e m (Nat.succ k))
theorem SX (e:E6):∀ m k,NK e m k=match FW e m k with
  | some j=>some (.tup [nV j,iV 0],[])
  | none=>some (.tup [iV 0,iV 30],[])
 | 0,k=>rfl
 | m+1,k=>by
  simp only [NK,FW];cases h:eqE (Df k) e with
  | true=>rfl
  | false=>exact SX e m (Nat.succ k)
theorem Pi (e:E6):∀ m k,QJ e m k=NK e m k
 | 0,_=>rfl
 | m+1,k=>by
  simp only [NK,QJ,Pi e m,Aag e]
theorem Ph (e:E6):NK e 112 0=some (.tup [iV (BL e),iV (Bc e)],[]):=by
 rw [SX];unfold BL Bc;cases FW e 112 0 <;> rfl
theorem AhB (e:E6):(Ax (Ak tab cx1 Tryz.f114 [eV e] [])).sem=NK e 112 0:=by kernel_rfl
theorem AhA (e:E6):(Ax (Ak tab cx1 Tryz.f119 [eV e] [])).sem=QJ e 112 0:=by kernel_rfl
def BN (f:E6->V):List V->A9
 | [v]=>match toE v with
  | some e=>.leaf (f e,[])
  | none=>.fail
 | _=>.fail
theorem BS {f:E6->V} {vs:List V} {r:V×List Blk} (h:(BN f vs).sem=some r):∃ e,vs=[eV e]∧r=(f e,[]):=by
 unfold BN at h;split at h
 ·split at h
  ·rename_i v e hn
   exact ⟨e,by rw [Mw hn],Aa h⟩
  ·cases h
 ·cases h
def SY (e:E6):V:=.tup [iV (BL e),iV (Bc e)]
theorem p24:As Tryz.prog Gl 114 (BN SY):=by
 refine As.congr (AG A8 mixed Tryz.func114 (by kernel_rfl) (by kernel_rfl) (Γ:=cx1) (Bi T0 _)) λvs r h=>?_;obtain ⟨e,rfl,rfl⟩:=BS h;exact (AhB e).trans (Ph e)
theorem p25:As Tryz.prog Gl 119 (BN SY):=by
 refine As.congr (AG A8 mixed Tryz.func119 (by kernel_rfl) (by kernel_rfl) (Γ:=cx1) (Bi T0 _)) λvs r h=>?_;obtain ⟨e,rfl,rfl⟩:=BS h;exact (AhA e).trans ((Pi e 112 0).trans (Ph e))
end Go.Proofs.YtkbafjceglhjhaaGreatDoor.Ed
namespace Go.Proofs.YtkbafjceglhjhaaGreatDoor.Ed
open Go.Sy
noncomputable def tb2:AM:=(114,BN SY)::(119,BN SY)::tb1
theorem Ym:Ar Tryz.prog Gl tb2:=.cons p24 <| .cons p25 T0
noncomputable def cx2:Cx:=Bd Gl tb2 []
theorem Adq (e:E6):(Ax (Ak tab cx2 Tryz.f121 [eV e] [])).sem=some (iV (Bc e),[]):=by kernel_rfl
theorem p29:As Tryz.prog Gl 121 (BN λe=>iV (Bc e)):=by
 refine As.congr (AG A8 mixed Tryz.func121 (by kernel_rfl) (by kernel_rfl) (Γ:=cx2) (Bi Ym _)) λvs r h=>?_;obtain ⟨e,rfl,rfl⟩:=BS h;exact Adq e
theorem Hn (e:E6):∀ m k j,FW e m k=some j->k <= j∧j<k+m∧Df j=e
 | 0,k,j,h=>by cases h
 | m+1,k,j,h=>by
  simp only [FW] at h;split at h
  ·rename_i he
   simp only [Option.some.injEq] at h;subst h;exact ⟨Nat.le_refl _,by omega,(I1 _ _).1 he⟩
  ·obtain ⟨h1,h2,h3⟩:=Hn e m _ j h
   exact ⟨by omega,by omega,h3⟩
def OO (e:E6):List UInt8:=match FW e 112 0 with
 | some k=>IN k
 | none=>[]
def L1 (e:E6):V:=.tup [.str (OO e),iV (Bc e)]
noncomputable def tb3:AM:=(121,BN λe=>iV (Bc e))::tb2
theorem tb3_ok:Ar Tryz.prog Gl tb3:=.cons p29 Ym
noncomputable def tbn:AM:=(122,λvs=>Ax (Ak tab cx0 Tryz.f122 vs []))::(163,λvs=>Ax (Ak tab cx0 Tryz.f163 vs []))::[]
theorem Yh:Ar Tryz.prog Gl tbn :=
 .cons (AG A8 mixed Tryz.func122 (by kernel_rfl) (by kernel_rfl) (Γ:=cx0) (Bi .nil _)) <|
 .cons (AG A8 mixed Tryz.func163 (by kernel_rfl) (by kernel_rfl) (Γ:=cx0) (Bi .nil _)) .nil
noncomputable def cxn:Cx:=Bd Gl tbn []
noncomputable def tb4:AM:=(123,λvs=>Ax (Ak tab cxn Tryz.f123 vs []))::(tbn++tb3)
theorem Ar.append {P:Program} {G:Nat->V} {a b:AM} (ha:Ar P G a) (hb:Ar P G b):Ar P G (a++b):=λp hp=>(List.mem_append.1 hp).elim (ha p) (hb p)
theorem Yl:Ar Tryz.prog Gl tb4 :=
 .cons (AG A8 mixed Tryz.func123 (by kernel_rfl) (by kernel_rfl) (Γ:=cxn) (Bi Yh _)) (Ar.append Yh tb3_ok)
noncomputable def cx4:Cx:=Bd Gl tb4 []
theorem Aha:(List.range 112).map (λk:Nat=>(Ax (Ak tab cx4 Tryz.f80 [eV (Df k)] [])).sem)=(List.range 112).map λk=>some (.tup [.str (IN k),iV 0],[]):=by kernel_rfl
theorem Ace (e:E6):(Ax (Ak tab cx4 Tryz.f80 [eV e] [])).path [true]=some ([AN (ieq (Bc e) 0)],(.tup [.str [],iV 30],[])):=by kernel_rfl
theorem Acg (e:E6):(Ax (Ak tab cx4 Tryz.f74 [eV e] [])).path [true]=some ([AN (ieq (Bc e) 0)],(.tup [.str [],iV (Bc e)],[])):=by kernel_rfl
theorem Acf (e:E6):(Ax (Ak tab cx4 Tryz.f74 [eV e] [])).path [false,true]=some ([AN (ieq (Bc e) 0),inR (BL e)],(.tup [.str (IN (BL e).toNat),iV 0],[])):=by kernel_rfl
theorem Ahb (e:E6):(Ax (Ak tab cx4 Tryz.f74 [eV e] [])).sem=some (L1 e,[]):=by
 unfold L1 OO;cases h:FW e 112 0 with
 | none =>
  have hf:Bc e=30:=by unfold Bc; rw [h]
  exact A5 (Acg e) (by rw [hf]; rfl)
 | some k =>
  have hf:Bc e=0:=by unfold Bc; rw [h]
  have hn:BL e=Int.ofNat k:=by unfold BL; rw [h]
  have hk:=(Hn e 112 0 k h).2.1;have:=A5 (Acf e) (by rw [hf,hn,show inR (Int.ofNat k)=true by simp [inR]; omega]; rfl);rw [this,hn,hf];rfl
theorem Acd (e:E6):(Ax (Ak tab cx4 Tryz.f80 [eV e] [])).sem=some (L1 e,[]):=by
 unfold L1 OO;cases h:FW e 112 0 with
 | none =>
  have hf:Bc e=30:=by unfold Bc; rw [h]
  rw [hf];exact A5 (Ace e) (by rw [hf]; rfl)
 | some k =>
  have hf:Bc e=0:=by unfold Bc; rw [h]
  obtain ⟨_,hk,rfl⟩:=Hn e 112 0 k h;rw [hf];exact Fu Aha k (by omega)
theorem p26:As Tryz.prog Gl 74 (BN L1):=by
 refine As.congr (AG A8 mixed Tryz.func74 (by kernel_rfl) (by kernel_rfl) (Γ:=cx4) (Bi Yl _)) λvs r h=>?_;obtain ⟨e,rfl,rfl⟩:=BS h;exact Ahb e
theorem p27:As Tryz.prog Gl 80 (BN L1):=by
 refine As.congr (AG A8 mixed Tryz.func80 (by kernel_rfl) (by kernel_rfl) (Γ:=cx4) (Bi Yl _)) λvs r h=>?_;obtain ⟨e,rfl,rfl⟩:=BS h;exact Acd e
end Go.Proofs.YtkbafjceglhjhaaGreatDoor.Ed
