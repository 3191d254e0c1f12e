/-
  The table of the program's types, as the evaluator asks of them, and that it is the program's own. No conditions.
-/
import Derived.Test.YtkbafjceglhjhaaGreatDoorSyA
import Derived.Test.YtkbafjceglhjhaaGreatDoorProg
import Derived.KernelRfl
import Derived.Test.YtkbafjceglhjhaaGreatDoorSyU
import Derived.Test.YtkbafjceglhjhaaGreatDoorRows
namespace Go.Sy
open Go.Proofs
set_option maxRecDepth 100000
def tab:List Ty:=[
 ⟨.other,1,0,.und,false⟩,
 ⟨.other,1,8,.val (.nilFunc),false⟩,
 ⟨.int .i64,1,8,.val (.int .i64 0),false⟩,
 ⟨.int .i64,1,8,.val (.int .i64 0),false⟩,
 ⟨.bool,1,1,.val (.bool false),false⟩,
 ⟨.int .u8,1,1,.val (.int .u8 0),false⟩,
 ⟨.int .u8,1,1,.val (.int .u8 0),false⟩,
 ⟨.st [(0,2),(1,3),(2,4),(3,6)],4,24,.agg [.val (.int .i64 0),.val (.int .i64 0),.val (.bool false),.val (.int .u8 0)],true⟩,
 ⟨.st [(0,2),(1,3),(2,4),(3,6)],4,24,.agg [.val (.int .i64 0),.val (.int .i64 0),.val (.bool false),.val (.int .u8 0)],true⟩,
 ⟨.str,1,16,.str [],false⟩,
 ⟨.str,1,16,.str [],false⟩,
 ⟨.str,1,16,.str [],false⟩,
 ⟨.int .u64,1,8,.val (.int .u64 0),false⟩,
 ⟨.st [(0,9),(1,12)],2,24,.agg [.str [],.val (.int .u64 0)],false⟩,
 ⟨.st [(0,9),(1,12)],2,24,.agg [.str [],.val (.int .u64 0)],false⟩,
 ⟨.other,1,8,.val (.pointer none),false⟩,
 ⟨.other,1,8,.val (.pointer none),false⟩,
 ⟨.other,1,8,.val (.pointer none),false⟩,
 ⟨.st [(0,17)],1,8,.agg [.val (.pointer none)],false⟩,
 ⟨.st [(0,17)],1,8,.agg [.val (.pointer none)],false⟩,
 ⟨.other,1,16,.val (.nilIface),false⟩,
 ⟨.int .i32,1,4,.val (.int .i32 0),false⟩,
 ⟨.sl 76,1,24,.nilS,false⟩,
 ⟨.sl 74,1,24,.nilS,false⟩,
 ⟨.sl 3,1,24,.nilS,false⟩,
 ⟨.sl 24,1,24,.nilS,false⟩,
 ⟨.st [(0,3),(1,22),(2,23),(3,3),(4,3),(5,24),(6,25)],7,120,.agg [.val (.int .i64 0),.nilS,.nilS,.val (.int .i64 0),.val (.int .i64 0),.nilS,.nilS],false⟩,
 ⟨.st [(0,3),(1,22),(2,23),(3,3),(4,3),(5,24),(6,25)],7,120,.agg [.val (.int .i64 0),.nilS,.nilS,.val (.int .i64 0),.val (.int .i64 0),.nilS,.nilS],false⟩,
 ⟨.other,1,8,.val (.nilFunc),false⟩,
 ⟨.sl 63,1,24,.nilS,false⟩,
 ⟨.int .i64,1,8,.val (.int .i64 0),false⟩,
 ⟨.other,1,0,.und,false⟩,
 ⟨.other,1,8,.val (.nilFunc),false⟩,
 ⟨.other,1,0,.und,false⟩,
 ⟨.other,1,8,.val (.nilFunc),false⟩,
 ⟨.sl 68,1,24,.nilS,false⟩,
 ⟨.other,1,0,.und,false⟩,
 ⟨.other,1,8,.val (.nilFunc),false⟩,
 ⟨.other,1,8,.val (.nilFunc),false⟩,
 ⟨.other,1,8,.val (.nilFunc),false⟩,
 ⟨.other,1,8,.val (.nilFunc),false⟩,
 ⟨.other,1,8,.val (.nilFunc),false⟩,
 ⟨.st [(0,3),(1,3),(2,9)],3,32,.agg [.val (.int .i64 0),.val (.int .i64 0),.str []],true⟩,
 ⟨.st [(0,3),(1,3),(2,9)],3,32,.agg [.val (.int .i64 0),.val (.int .i64 0),.str []],true⟩,
 ⟨.sl 46,1,24,.nilS,false⟩,
 ⟨.st [(0,3),(1,43),(4,3),(5,44)],6,72,.agg [.val (.int .i64 0),.val (.int .i64 0),.val (.int .i64 0),.str [],.val (.int .i64 0),.nilS],false⟩,
 ⟨.st [(0,3),(1,43),(4,3),(5,44)],6,72,.agg [.val (.int .i64 0),.val (.int .i64 0),.val (.int .i64 0),.str [],.val (.int .i64 0),.nilS],false⟩,
 ⟨.st [(0,3),(1,46)],7,80,.agg [.val (.int .i64 0),.val (.int .i64 0),.val (.int .i64 0),.val (.int .i64 0),.str [],.val (.int .i64 0),.nilS],false⟩,
 ⟨.st [(0,3),(1,46)],7,80,.agg [.val (.int .i64 0),.val (.int .i64 0),.val (.int .i64 0),.val (.int .i64 0),.str [],.val (.int .i64 0),.nilS],false⟩,
 ⟨.st [(0,3),(1,9),(2,9),(3,35),(4,29),(5,48)],12,168,.agg [.val (.int .i64 0),.str [],.str [],.nilS,.nilS,.val (.int .i64 0),.val (.int .i64 0),.val (.int .i64 0),.val (.int .i64 0),.str [],.val (.int .i64 0),.nilS],false⟩,
 ⟨.st [(0,3),(1,9),(2,9),(3,35),(4,29),(5,48)],12,168,.agg [.val (.int .i64 0),.str [],.str [],.nilS,.nilS,.val (.int .i64 0),.val (.int .i64 0),.val (.int .i64 0),.val (.int .i64 0),.str [],.val (.int .i64 0),.nilS],false⟩,
 ⟨.other,1,8,.val (.nilFunc),false⟩,
 ⟨.other,1,8,.val (.nilFunc),false⟩,
 ⟨.other,1,8,.val (.nilFunc),false⟩,
 ⟨.other,1,8,.val (.nilFunc),false⟩,
 ⟨.other,1,8,.val (.nilFunc),false⟩,
 ⟨.other,1,8,.val (.nilFunc),false⟩,
 ⟨.other,1,0,.und,false⟩,
 ⟨.other,1,8,.val (.nilFunc),false⟩,
 ⟨.other,1,8,.val (.nilFunc),false⟩,
 ⟨.other,1,8,.val (.nilFunc),false⟩,
 ⟨.other,1,0,.und,false⟩,
 ⟨.other,1,8,.val (.nilFunc),false⟩,
 ⟨.sl 72,1,24,.nilS,false⟩,
 ⟨.arr 32 3,32,256,.agg [.val (.int .i64 0),.val (.int .i64 0),.val (.int .i64 0),.val (.int .i64 0),.val (.int .i64 0),.val (.int .i64 0),.val (.int .i64 0),.val (.int .i64 0),.val (.int .i64 0),.val (.int .i64 0),.val (.int .i64 0),.val (.int .i64 0),.val (.int .i64 0),.val (.int .i64 0),.val (.int .i64 0),.val (.int .i64 0),.val (.int .i64 0),.val (.int .i64 0),.val (.int .i64 0),.val (.int .i64 0),.val (.int .i64 0),.val (.int .i64 0),.val (.int .i64 0),.val (.int .i64 0),.val (.int .i64 0),.val (.int .i64 0),.val (.int .i64 0),.val (.int .i64 0),.val (.int .i64 0),.val (.int .i64 0),.val (.int .i64 0),.val (.int .i64 0)],true⟩,
 ⟨.st [(0,9),(1,3)],2,24,.agg [.str [],.val (.int .i64 0)],true⟩,
 ⟨.st [(0,9),(1,3)],2,24,.agg [.str [],.val (.int .i64 0)],true⟩,
 ⟨.st [(0,3),(1,3),(2,9),(3,66)],5,56,.agg [.val (.int .i64 0),.val (.int .i64 0),.str [],.str [],.val (.int .i64 0)],true⟩,
 ⟨.st [(0,3),(1,3),(2,9),(3,66)],5,56,.agg [.val (.int .i64 0),.val (.int .i64 0),.str [],.str [],.val (.int .i64 0)],true⟩,
 ⟨.other,1,0,.und,false⟩,
 ⟨.other,1,8,.val (.nilFunc),false⟩,
 ⟨.st [(0,3),(1,3),(2,3),(3,3),(4,3),(5,9),(6,9),(7,3)],8,80,.agg [.val (.int .i64 0),.val (.int .i64 0),.val (.int .i64 0),.val (.int .i64 0),.val (.int .i64 0),.str [],.str [],.val (.int .i64 0)],true⟩,
 ⟨.st [(0,3),(1,3),(2,3),(3,3),(4,3),(5,9),(6,9),(7,3)],8,80,.agg [.val (.int .i64 0),.val (.int .i64 0),.val (.int .i64 0),.val (.int .i64 0),.val (.int .i64 0),.str [],.str [],.val (.int .i64 0)],true⟩,
 ⟨.st [(0,3),(1,3),(2,3),(3,3),(4,3)],5,40,.agg [.val (.int .i64 0),.val (.int .i64 0),.val (.int .i64 0),.val (.int .i64 0),.val (.int .i64 0)],true⟩,
 ⟨.st [(0,3),(1,3),(2,3),(3,3),(4,3)],5,40,.agg [.val (.int .i64 0),.val (.int .i64 0),.val (.int .i64 0),.val (.int .i64 0),.val (.int .i64 0)],true⟩,
 ⟨.st [(0,3),(1,4),(2,4),(3,3),(4,3),(5,3)],6,40,.agg [.val (.int .i64 0),.val (.bool false),.val (.bool false),.val (.int .i64 0),.val (.int .i64 0),.val (.int .i64 0)],true⟩,
 ⟨.st [(0,3),(1,4),(2,4),(3,3),(4,3),(5,3)],6,40,.agg [.val (.int .i64 0),.val (.bool false),.val (.bool false),.val (.int .i64 0),.val (.int .i64 0),.val (.int .i64 0)],true⟩,
 ⟨.sl 66,1,24,.nilS,false⟩,
 ⟨.st [(0,77),(1,3)],2,32,.agg [.nilS,.val (.int .i64 0)],false⟩,
 ⟨.st [(0,77),(1,3)],2,32,.agg [.nilS,.val (.int .i64 0)],false⟩,
 ⟨.st [(0,3),(1,9),(2,3),(3,3),(4,3)],5,48,.agg [.val (.int .i64 0),.str [],.val (.int .i64 0),.val (.int .i64 0),.val (.int .i64 0)],true⟩,
 ⟨.st [(0,3),(1,9),(2,3),(3,3),(4,3)],5,48,.agg [.val (.int .i64 0),.str [],.val (.int .i64 0),.val (.int .i64 0),.val (.int .i64 0)],true⟩,
 ⟨.other,1,0,.und,false⟩,
 ⟨.other,1,8,.val (.nilFunc),false⟩,
 ⟨.other,1,8,.val (.nilFunc),false⟩,
 ⟨.other,1,8,.val (.nilFunc),false⟩,
 ⟨.other,1,8,.val (.nilFunc),false⟩,
 ⟨.sl 94,1,24,.nilS,false⟩,
 ⟨.other,1,8,.val (.nilFunc),false⟩,
 ⟨.other,1,8,.val (.pointer none),false⟩,
 ⟨.st [(0,63)],1,24,.agg [.nilS],false⟩,
 ⟨.st [(0,63)],1,24,.agg [.nilS],false⟩,
 ⟨.imap 3,1,8,.val (.map none),false⟩,
 ⟨.st [(0,24),(1,92)],2,32,.agg [.nilS,.val (.map none)],false⟩,
 ⟨.st [(0,24),(1,92)],2,32,.agg [.nilS,.val (.map none)],false⟩,
 ⟨.other,1,8,.val (.pointer none),false⟩,
 ⟨.st [(0,89),(1,94),(3,95)],4,48,.agg [.val (.pointer none),.nilS,.val (.map none),.val (.pointer none)],false⟩,
 ⟨.st [(0,89),(1,94),(3,95)],4,48,.agg [.val (.pointer none),.nilS,.val (.map none),.val (.pointer none)],false⟩,
 ⟨.other,1,8,.val (.nilFunc),false⟩,
 ⟨.other,1,8,.val (.nilFunc),false⟩,
 ⟨.other,1,0,.und,false⟩,
 ⟨.other,1,8,.val (.nilFunc),false⟩,
 ⟨.other,1,0,.und,false⟩,
 ⟨.other,1,8,.val (.nilFunc),false⟩,
 ⟨.other,1,8,.val (.nilFunc),false⟩,
 ⟨.other,1,8,.val (.nilFunc),false⟩,
 ⟨.other,1,8,.val (.nilFunc),false⟩,
 ⟨.other,1,8,.val (.nilFunc),false⟩,
 ⟨.other,1,8,.val (.nilFunc),false⟩,
 ⟨.other,1,8,.val (.nilFunc),false⟩,
 ⟨.other,1,8,.val (.nilFunc),false⟩,
 ⟨.other,1,8,.val (.nilFunc),false⟩,
 ⟨.other,1,0,.und,false⟩,
 ⟨.other,1,8,.val (.nilFunc),false⟩,
 ⟨.other,1,8,.val (.nilFunc),false⟩,
 ⟨.other,1,8,.val (.nilFunc),false⟩,
 ⟨.other,1,8,.val (.nilFunc),false⟩,
 ⟨.other,1,8,.val (.nilFunc),false⟩,
 ⟨.other,1,8,.val (.nilFunc),false⟩,
 ⟨.other,1,8,.val (.pointer none),false⟩,
 ⟨.other,1,8,.val (.nilFunc),false⟩,
 ⟨.st [(0,72),(8,66),(10,66),(12,3),(13,79),(15,81)],20,216,.agg [.val (.int .i64 0),.val (.int .i64 0),.val (.int .i64 0),.val (.int .i64 0),.val (.int .i64 0),.str [],.str [],.val (.int .i64 0),.str [],.val (.int .i64 0),.str [],.val (.int .i64 0),.val (.int .i64 0),.nilS,.val (.int .i64 0),.val (.int .i64 0),.str [],.val (.int .i64 0),.val (.int .i64 0),.val (.int .i64 0)],false⟩,
 ⟨.st [(0,72),(8,66),(10,66),(12,3),(13,79),(15,81)],20,216,.agg [.val (.int .i64 0),.val (.int .i64 0),.val (.int .i64 0),.val (.int .i64 0),.val (.int .i64 0),.str [],.str [],.val (.int .i64 0),.str [],.val (.int .i64 0),.str [],.val (.int .i64 0),.val (.int .i64 0),.nilS,.val (.int .i64 0),.val (.int .i64 0),.str [],.val (.int .i64 0),.val (.int .i64 0),.val (.int .i64 0)],false⟩,
 ⟨.other,1,8,.val (.nilFunc),false⟩,
 ⟨.other,1,8,.val (.map none),false⟩,
 ⟨.other,1,8,.val (.nilFunc),false⟩,
 ⟨.other,1,8,.val (.pointer none),false⟩,
 ⟨.other,1,8,.val (.nilFunc),false⟩,
 ⟨.other,1,8,.val (.nilFunc),false⟩,
 ⟨.other,1,8,.val (.nilFunc),false⟩,
 ⟨.other,1,8,.val (.nilFunc),false⟩,
 ⟨.other,1,0,.und,false⟩,
 ⟨.other,1,8,.val (.nilFunc),false⟩,
 ⟨.other,1,0,.und,false⟩,
 ⟨.other,1,8,.val (.nilFunc),false⟩,
 ⟨.sl 43,1,24,.nilS,false⟩,
 ⟨.other,1,0,.und,false⟩,
 ⟨.other,1,8,.val (.nilFunc),false⟩,
 ⟨.other,1,8,.val (.nilFunc),false⟩,
 ⟨.other,1,8,.val (.nilFunc),false⟩,
 ⟨.sl 9,1,24,.nilS,false⟩,
 ⟨.other,1,8,.val (.nilFunc),false⟩,
 ⟨.other,1,8,.val (.nilFunc),false⟩,
 ⟨.other,1,0,.und,false⟩,
 ⟨.other,1,8,.val (.nilFunc),false⟩,
 ⟨.other,1,8,.val (.nilFunc),false⟩,
 ⟨.other,1,8,.val (.nilFunc),false⟩,
 ⟨.other,1,8,.val (.nilFunc),false⟩,
 ⟨.other,1,8,.val (.nilFunc),false⟩,
 ⟨.other,1,8,.val (.map none),false⟩,
 ⟨.other,1,8,.val (.nilFunc),false⟩,
 ⟨.other,1,8,.val (.nilFunc),false⟩,
 ⟨.other,1,8,.val (.nilFunc),false⟩,
 ⟨.other,1,8,.val (.nilFunc),false⟩,
 ⟨.other,1,8,.val (.nilFunc),false⟩,
 ⟨.other,1,8,.val (.nilFunc),false⟩,
 ⟨.other,1,8,.val (.nilFunc),false⟩,
 ⟨.other,1,0,.und,false⟩,
 ⟨.other,1,8,.val (.nilFunc),false⟩,
 ⟨.other,1,0,.und,false⟩,
 ⟨.other,1,8,.val (.nilFunc),false⟩,
 ⟨.other,1,8,.val (.nilFunc),false⟩,
 ⟨.other,1,8,.val (.nilFunc),false⟩,
 ⟨.other,1,8,.val (.nilFunc),false⟩,
 ⟨.other,1,0,.und,false⟩,
 ⟨.other,1,8,.val (.nilFunc),false⟩,
 ⟨.other,1,8,.val (.pointer none),false⟩,
 ⟨.sl 5,1,24,.nilS,false⟩,
 ⟨.st [(0,166),(1,167)],2,32,.agg [.val (.pointer none),.nilS],false⟩,
 ⟨.st [(0,166),(1,167)],2,32,.agg [.val (.pointer none),.nilS],false⟩,
 ⟨.other,1,8,.val (.nilFunc),false⟩,
 ⟨.other,1,16,.val (.nilIface),false⟩,
 ⟨.other,1,16,.val (.nilIface),false⟩,
 ⟨.other,1,0,.und,false⟩,
 ⟨.other,1,8,.val (.nilFunc),false⟩,
 ⟨.other,1,8,.val (.nilFunc),false⟩,
 ⟨.other,1,8,.val (.nilFunc),false⟩,
 ⟨.other,1,0,.und,false⟩,
 ⟨.other,1,8,.val (.nilFunc),false⟩,
 ⟨.other,1,8,.val (.nilFunc),false⟩,
 ⟨.other,1,8,.val (.nilFunc),false⟩,
 ⟨.other,1,8,.val (.nilFunc),false⟩,
 ⟨.other,1,8,.val (.nilFunc),false⟩,
 ⟨.other,1,8,.val (.nilFunc),false⟩,
 ⟨.other,1,8,.val (.nilFunc),false⟩,
 ⟨.other,1,8,.val (.nilFunc),false⟩,
 ⟨.other,1,8,.val (.pointer none),false⟩,
 ⟨.other,1,8,.val (.nilFunc),false⟩,
 ⟨.other,1,8,.val (.nilFunc),false⟩,
 ⟨.other,1,8,.val (.nilFunc),false⟩,
 ⟨.other,1,8,.val (.nilFunc),false⟩,
 ⟨.other,1,0,.und,false⟩,
 ⟨.other,1,8,.val (.nilFunc),false⟩,
 ⟨.other,1,8,.val (.nilFunc),false⟩,
 ⟨.other,1,8,.val (.nilFunc),false⟩,
 ⟨.other,1,8,.val (.nilFunc),false⟩,
 ⟨.other,1,8,.val (.nilFunc),false⟩,
 ⟨.arr 6 9,6,96,.agg [.str [],.str [],.str [],.str [],.str [],.str []],true⟩,
 ⟨.arr 10 9,10,160,.agg [.str [],.str [],.str [],.str [],.str [],.str [],.str [],.str [],.str [],.str []],true⟩,
 ⟨.arr 9 9,9,144,.agg [.str [],.str [],.str [],.str [],.str [],.str [],.str [],.str [],.str []],true⟩,
 ⟨.arr 4 9,4,64,.agg [.str [],.str [],.str [],.str []],true⟩,
 ⟨.other,1,8,.val (.pointer none),false⟩,
 ⟨.other,1,0,.und,false⟩,
 ⟨.other,1,8,.val (.nilFunc),false⟩,
 ⟨.other,1,8,.val (.nilFunc),false⟩,
 ⟨.other,1,8,.val (.nilFunc),false⟩,
 ⟨.other,1,8,.val (.nilFunc),false⟩,
 ⟨.other,1,8,.val (.nilFunc),false⟩,
 ⟨.other,1,8,.val (.nilFunc),false⟩,
 ⟨.other,1,8,.val (.nilFunc),false⟩,
 ⟨.sl 4,1,24,.nilS,false⟩,
 ⟨.other,1,8,.val (.nilFunc),false⟩,
 ⟨.other,1,8,.val (.pointer none),false⟩,
 ⟨.other,1,8,.val (.nilFunc),false⟩,
 ⟨.other,1,8,.val (.nilFunc),false⟩,
 ⟨.other,1,8,.val (.nilFunc),false⟩,
 ⟨.other,1,8,.val (.nilFunc),false⟩,
 ⟨.arr 24 5,24,24,.agg [.val (.int .u8 0),.val (.int .u8 0),.val (.int .u8 0),.val (.int .u8 0),.val (.int .u8 0),.val (.int .u8 0),.val (.int .u8 0),.val (.int .u8 0),.val (.int .u8 0),.val (.int .u8 0),.val (.int .u8 0),.val (.int .u8 0),.val (.int .u8 0),.val (.int .u8 0),.val (.int .u8 0),.val (.int .u8 0),.val (.int .u8 0),.val (.int .u8 0),.val (.int .u8 0),.val (.int .u8 0),.val (.int .u8 0),.val (.int .u8 0),.val (.int .u8 0),.val (.int .u8 0)],true⟩,
 ⟨.int .u64,1,8,.val (.int .u64 0),false⟩,
 ⟨.other,1,8,.val (.nilFunc),false⟩,
 ⟨.other,1,8,.val (.nilFunc),false⟩,
 ⟨.other,1,0,.und,false⟩,
 ⟨.other,1,8,.val (.nilFunc),false⟩,
 ⟨.other,1,8,.val (.nilFunc),false⟩,
 ⟨.arr 20 218,20,160,.agg [.val (.int .u64 0),.val (.int .u64 0),.val (.int .u64 0),.val (.int .u64 0),.val (.int .u64 0),.val (.int .u64 0),.val (.int .u64 0),.val (.int .u64 0),.val (.int .u64 0),.val (.int .u64 0),.val (.int .u64 0),.val (.int .u64 0),.val (.int .u64 0),.val (.int .u64 0),.val (.int .u64 0),.val (.int .u64 0),.val (.int .u64 0),.val (.int .u64 0),.val (.int .u64 0),.val (.int .u64 0)],true⟩,
 ⟨.int .u32,1,4,.val (.int .u32 0),false⟩,
 ⟨.arr 65 5,65,65,.agg [.val (.int .u8 0),.val (.int .u8 0),.val (.int .u8 0),.val (.int .u8 0),.val (.int .u8 0),.val (.int .u8 0),.val (.int .u8 0),.val (.int .u8 0),.val (.int .u8 0),.val (.int .u8 0),.val (.int .u8 0),.val (.int .u8 0),.val (.int .u8 0),.val (.int .u8 0),.val (.int .u8 0),.val (.int .u8 0),.val (.int .u8 0),.val (.int .u8 0),.val (.int .u8 0),.val (.int .u8 0),.val (.int .u8 0),.val (.int .u8 0),.val (.int .u8 0),.val (.int .u8 0),.val (.int .u8 0),.val (.int .u8 0),.val (.int .u8 0),.val (.int .u8 0),.val (.int .u8 0),.val (.int .u8 0),.val (.int .u8 0),.val (.int .u8 0),.val (.int .u8 0),.val (.int .u8 0),.val (.int .u8 0),.val (.int .u8 0),.val (.int .u8 0),.val (.int .u8 0),.val (.int .u8 0),.val (.int .u8 0),.val (.int .u8 0),.val (.int .u8 0),.val (.int .u8 0),.val (.int .u8 0),.val (.int .u8 0),.val (.int .u8 0),.val (.int .u8 0),.val (.int .u8 0),.val (.int .u8 0),.val (.int .u8 0),.val (.int .u8 0),.val (.int .u8 0),.val (.int .u8 0),.val (.int .u8 0),.val (.int .u8 0),.val (.int .u8 0),.val (.int .u8 0),.val (.int .u8 0),.val (.int .u8 0),.val (.int .u8 0),.val (.int .u8 0),.val (.int .u8 0),.val (.int .u8 0),.val (.int .u8 0),.val (.int .u8 0)],true⟩,
 ⟨.int .u64,1,8,.val (.int .u64 0),false⟩,
 ⟨.other,1,8,.val (.nilFunc),false⟩,
 ⟨.other,1,8,.val (.nilFunc),false⟩,
 ⟨.arr 32 5,32,32,.agg [.val (.int .u8 0),.val (.int .u8 0),.val (.int .u8 0),.val (.int .u8 0),.val (.int .u8 0),.val (.int .u8 0),.val (.int .u8 0),.val (.int .u8 0),.val (.int .u8 0),.val (.int .u8 0),.val (.int .u8 0),.val (.int .u8 0),.val (.int .u8 0),.val (.int .u8 0),.val (.int .u8 0),.val (.int .u8 0),.val (.int .u8 0),.val (.int .u8 0),.val (.int .u8 0),.val (.int .u8 0),.val (.int .u8 0),.val (.int .u8 0),.val (.int .u8 0),.val (.int .u8 0),.val (.int .u8 0),.val (.int .u8 0),.val (.int .u8 0),.val (.int .u8 0),.val (.int .u8 0),.val (.int .u8 0),.val (.int .u8 0),.val (.int .u8 0)],true⟩,
 ⟨.arr 64 5,64,64,.agg [.val (.int .u8 0),.val (.int .u8 0),.val (.int .u8 0),.val (.int .u8 0),.val (.int .u8 0),.val (.int .u8 0),.val (.int .u8 0),.val (.int .u8 0),.val (.int .u8 0),.val (.int .u8 0),.val (.int .u8 0),.val (.int .u8 0),.val (.int .u8 0),.val (.int .u8 0),.val (.int .u8 0),.val (.int .u8 0),.val (.int .u8 0),.val (.int .u8 0),.val (.int .u8 0),.val (.int .u8 0),.val (.int .u8 0),.val (.int .u8 0),.val (.int .u8 0),.val (.int .u8 0),.val (.int .u8 0),.val (.int .u8 0),.val (.int .u8 0),.val (.int .u8 0),.val (.int .u8 0),.val (.int .u8 0),.val (.int .u8 0),.val (.int .u8 0),.val (.int .u8 0),.val (.int .u8 0),.val (.int .u8 0),.val (.int .u8 0),.val (.int .u8 0),.val (.int .u8 0),.val (.int .u8 0),.val (.int .u8 0),.val (.int .u8 0),.val (.int .u8 0),.val (.int .u8 0),.val (.int .u8 0),.val (.int .u8 0),.val (.int .u8 0),.val (.int .u8 0),.val (.int .u8 0),.val (.int .u8 0),.val (.int .u8 0),.val (.int .u8 0),.val (.int .u8 0),.val (.int .u8 0),.val (.int .u8 0),.val (.int .u8 0),.val (.int .u8 0),.val (.int .u8 0),.val (.int .u8 0),.val (.int .u8 0),.val (.int .u8 0),.val (.int .u8 0),.val (.int .u8 0),.val (.int .u8 0),.val (.int .u8 0)],true⟩,
 ⟨.st [(0,17),(1,17),(2,17),(3,9)],4,40,.agg [.val (.pointer none),.val (.pointer none),.val (.pointer none),.str []],false⟩,
 ⟨.st [(0,17),(1,17),(2,17),(3,9)],4,40,.agg [.val (.pointer none),.val (.pointer none),.val (.pointer none),.str []],false⟩,
 ⟨.arr 0 16,0,0,.agg [],false⟩,
 ⟨.st [(0,234)],0,0,.agg [],false⟩,
 ⟨.st [(0,234)],0,0,.agg [],false⟩,
 ⟨.other,1,8,.val (.nilFunc),false⟩,
 ⟨.int .u8,1,1,.val (.int .u8 0),false⟩,
 ⟨.int .u8,1,1,.val (.int .u8 0),false⟩,
 ⟨.other,1,8,.val (.nilFunc),false⟩,
 ⟨.int .i32,1,4,.val (.int .i32 0),false⟩,
 ⟨.int .i32,1,4,.val (.int .i32 0),false⟩,
 ⟨.st [(0,12),(1,12),(2,225),(3,238),(4,5),(5,5),(6,239),(7,240),(8,201),(9,241),(10,242)],11,48,.agg [.val (.int .u64 0),.val (.int .u64 0),.val (.int .u32 0),.val (.int .u8 0),.val (.int .u8 0),.val (.int .u8 0),.val (.int .u8 0),.val (.nilFunc),.val (.pointer none),.val (.int .i32 0),.val (.int .i32 0)],false⟩,
 ⟨.st [(0,12),(1,12),(2,225),(3,238),(4,5),(5,5),(6,239),(7,240),(8,201),(9,241),(10,242)],11,48,.agg [.val (.int .u64 0),.val (.int .u64 0),.val (.int .u32 0),.val (.int .u8 0),.val (.int .u8 0),.val (.int .u8 0),.val (.int .u8 0),.val (.nilFunc),.val (.pointer none),.val (.int .i32 0),.val (.int .i32 0)],false⟩]
def Si (P:Program):Nat->Nat->List (Option Ty)
 | 0,_=>[]
 | n+1,k=>Abn P k::Si P n (Nat.succ k)
def Yc:List Ty->List (Option Ty)
 | []=>[]
 | t::l=>some t::Yc l
theorem AkG:Si Tryz.prog 245 0=Yc tab:=by kernel_rfl
theorem Uv (P:Program):∀ (n k j:Nat),j<n->(Si P n k)[j]? = some (Abn P (k+j))
 | 0,_,_,h=>absurd h (Nat.not_lt_zero _)
 | n+1,k,0,_=>rfl
 | n+1,k,j+1,h=>by
  have:=Uv P n (Nat.succ k) j (Nat.lt_of_succ_lt_succ h);simp only [Si,List.getElem?_cons_succ,this];rw [show Nat.succ k+j=k+(j+1) by omega]
theorem Q8:∀ (l:List Ty) (j:Nat) (t:Ty),l[j]? = some t->(Yc l)[j]? = some (some t)∧j<l.length
 | [],_,_,h=>by simp at h
 | a::l,0,t,h=>by simp at h; subst h; exact ⟨rfl,by simp⟩
 | a::l,j+1,t,h=>by
  have:=Q8 l j t (by simpa using h);exact ⟨by simpa [Yc] using this.1,by simp; exact this.2⟩
theorem AfO:tab.length=245:=by kernel_rfl
theorem AkF (j:Nat) (t:Ty) (h:tab[j]? = some t):Abn Tryz.prog j=some t:=by
 obtain ⟨h1,h2⟩:=Q8 tab j t h;rw [AfO] at h2;rw [<- AkG,Uv _ _ _ _ h2] at h1;simpa using h1
end Go.Sy
namespace Go.Proofs.YtkbafjceglhjhaaGreatDoor.Ed
open Go.Sy
def T0:List (List UInt8):=[[82,102,101],[82,102,105],[70,114,101],[70,114,105],[67,111,101],[67,111,105]]
def Za:List (List UInt8):=[[82,82],[82,87],[87,82],[87,87]]
def Yd:List (List UInt8):=[[114,46,114],[114,46,119],[114,46,114,119],[119,46,114],[119,46,119],[119,46,114,119],[114,119,46,114],[114,119,46,119],[114,119,46,114,119]]
def Zh:List (List UInt8):=[[68,112,65,100,100,114,100,82],[68,112,65,100,100,114,100,87],[68,112,65,100,100,114,115,82],[68,112,65,100,100,114,115,87],[68,112,68,97,116,97,100,87],
 [68,112,68,97,116,97,115,87],[68,112,67,116,114,108,100,82],[68,112,67,116,114,108,100,87],[68,112,67,116,114,108,115,82],[68,112,67,116,114,108,115,87]]
def Gl:Nat->V:=Aqr [(0,NY T0),(1,NY Zh),(2,NY Yd),(3,NY Za)]
theorem mixed:Tryz.prog.follows .mixedOrders=true:=by kernel_rfl
theorem A2:TabOK Tryz.prog tab:=⟨AkF,Afu⟩
end Go.Proofs.YtkbafjceglhjhaaGreatDoor.Ed
namespace Go.Proofs.YtkbafjceglhjhaaGreatDoor.Ed
open Go.Sy
structure E6 where
 kind:Int
 ext:Bool
 same:Bool
 src:Int
 dst:Int
 fence:Int
 deriving DecidableEq
def eV (e:E6):V:=.agg [iV e.kind,bV e.ext,bV e.same,iV e.src,iV e.dst,iV e.fence]
def toE:V->Option E6
 | .agg [a,b,c,d,e,f]=>match gI a,gB b,gB c,gI d,gI e,gI f with
  | some a,some b,some c,some d,some e,some f=>some ⟨a,b,c,d,e,f⟩
  | _,_,_,_,_,_=>none
 | _=>none
theorem NX {v:V} {e:E6} (h:toE v=some e):v=eV e:=by
 unfold toE at h;split at h
 ·split at h
  ·rename_i h1 h2 h3 h4 h5 h6
   simp only [Option.some.injEq] at h;subst h;rw [GV h1,Td h2,Td h3,GV h4,GV h5,GV h6];rfl
  ·cases h
 ·cases h
def eqE (a b:E6):Bool:=Al (ieq a.kind b.kind) (Al (JR a.ext b.ext) (Al (JR a.same b.same) (Al (ieq a.src b.src) (Al (ieq a.dst b.dst) (Al (ieq a.fence b.fence) true)))))
theorem JB (a b:E6):eqE a b=true↔a=b:=by
 cases a; cases b;simp [eqE,Al,ieq,JR]
theorem Aea (a b:E6):eqE a b=eqE b a:=by
 rw [Bool.eq_iff_iff,JB,JB];exact eq_comm
def Du (c:Nat):E6 :=
 if c<6 then ⟨c / 2+1,c % 2 == 0,false,if c / 2 == 1 then 1 else 2,if c / 2 == 0 then 1 else 2,0⟩
 else if c<102 then ⟨if (c-6) / 8 == 0 then 4 else 5,false,decide (4 <= (c-6) % 8),1+((c-6) % 4 / 2:Nat),1+((c-6) % 2:Nat),((c-6) / 8:Nat)⟩
 else if c<106 then ⟨6,false,decide (2 <= c-102),1,1+((c-102) % 2:Nat),0⟩
 else if c<108 then ⟨7,false,c-102 == 5,1,2,0⟩
 else ⟨8,false,decide (8 <= c-102),1,1+((c-102) % 2:Nat),0⟩
def Gn:E6:=⟨0,false,false,0,0,0⟩
def inR (n:Int):Bool:=decide (0 <= n) && decide (n<112)
theorem Va {n:Int} (h:inR n=true):∃ k:Nat,n=(k:Int)∧k<112:=by
 simp [inR] at h;exact ⟨n.toNat,by omega,by omega⟩
theorem AdG {n:Int} (h:inR n=false):n<0 ∨ 0 <= n∧112 <= n:=by
 simp [inR] at h;omega
def cx0:Cx:=AO Gl [] []
noncomputable def AqV:List V->A5:=λvs=>A0 (Aj tab cx0 Tryz.f160 vs [])
theorem ArP:Ap Tryz.prog Gl 160 AqV:=AM A2 mixed Tryz.func160 (by kernel_rfl) (by kernel_rfl) (Bh Ao.nil _)
noncomputable def AmV:List V->A5:=λvs=>A0 (Aj tab cx0 Tryz.f115 vs [])
theorem ArQ:Ap Tryz.prog Gl 115 AmV:=AM A2 mixed Tryz.func115 (by kernel_rfl) (by kernel_rfl) (Bh Ao.nil _)
noncomputable def AjG:List V->A5:=λvs=>A0 (Aj tab cx0 Tryz.f180 vs [])
theorem p74:Ap Tryz.prog Gl 180 AjG:=AM A2 mixed Tryz.func180 (by kernel_rfl) (by kernel_rfl) (Bh Ao.nil _)
noncomputable def Aff:List V->A5:=λvs=>A0 (Aj tab cx0 Tryz.f181 vs [])
theorem p75:Ap Tryz.prog Gl 181 Aff:=AM A2 mixed Tryz.func181 (by kernel_rfl) (by kernel_rfl) (Bh Ao.nil _)
noncomputable def AqW:List V->A5:=λvs=>A0 (Aj tab cx0 Tryz.f182 vs [])
theorem p76:Ap Tryz.prog Gl 182 AqW:=AM A2 mixed Tryz.func182 (by kernel_rfl) (by kernel_rfl) (Bh Ao.nil _)
noncomputable def tb0:A7:=(180,AjG)::(181,Aff)::(182,AqW)::[]
theorem Ca:Ao Tryz.prog Gl tb0:=.cons p74 <| .cons p75 <| .cons p76 .nil
noncomputable def Am8:Cx:=AO Gl tb0 []
def IV (c:Nat):List UInt8 :=
 if c<6 then T0.getD c []
 else if 102 <= c then Zh.getD (c-102) []
 else (if (c-6) / 8=0 then [80,111] else if (c-6) / 8=1 then [77,70,101,110,99,101] else if (c-6) / 8=2 then [70,101,110,99,101,46,116,115,111]
  else [70,101,110,99,101,46]++Yd.getD ((c-6) / 8-3) [])++((if 4 <= (c-6) % 8 then [115] else [100])++Za.getD ((c-6) % 4) [])
end Go.Proofs.YtkbafjceglhjhaaGreatDoor.Ed
namespace Go.Proofs.YtkbafjceglhjhaaGreatDoor.Ed
open Go.Sy
theorem AlZ:(List.range 112).map (λk:Nat=>(A0 (Aj tab cx0 Tryz.f160 [nV k] [])).sem)=(List.range 112).map λk=>some (eV (Du k),[]):=by kernel_rfl
theorem Agy:(List.range 112).map (λk:Nat=>(A0 (Aj tab cx0 Tryz.f115 [nV k] [])).sem)=(List.range 112).map λk=>some (.str (IV k),[]):=by kernel_rfl
theorem As0:(List.range 112).map (λk:Nat=>(A0 (Aj tab Am8 Tryz.f150 [nV k] [])).sem)=(List.range 112).map λk=>some (.tup [eV (Du k),iV 0],[]):=by kernel_rfl
theorem Apr (n:Int):(A0 (Aj tab Am8 Tryz.f150 [iV n] [])).path [true,true,true,true]=some ([ilt n 0,ilt n 0,ilt n 0,true],(.tup [eV Gn,iV 30],[])):=by kernel_rfl
theorem Apq (n:Int):(A0 (Aj tab Am8 Tryz.f150 [iV n] [])).path [false,false,false,true]=some ([ilt n 0,ilt n 0,ilt n 0,ile 112 n],(.tup [eV Gn,iV 30],[])):=by kernel_rfl
end Go.Proofs.YtkbafjceglhjhaaGreatDoor.Ed
namespace Go.Proofs.YtkbafjceglhjhaaGreatDoor.Ed
open Go.Sy
def Rt (f:Nat->V):List V->A5
 | [v]=>match gI v with
  | some n=>.br (inR n) (.leaf (f n.toNat,[])) .fail
  | none=>.fail
 | _=>.fail
theorem PD {f:Nat->V} {vs:List V} {r:V×List Blk} (h:(Rt f vs).sem=some r):∃ k:Nat,k<112∧vs=[nV k]∧r=(f k,[]):=by
 unfold Rt at h;split at h
 ·split at h
  ·rename_i v n hn
   obtain ⟨h1,h2⟩:=Ac h;obtain ⟨k,rfl,hk⟩:=Va h1;exact ⟨k,hk,by rw [GV hn]; rfl,by rw [Ab h2]; rfl⟩
  ·cases h
 ·cases h
theorem p71:Ap Tryz.prog Gl 160 (Rt λk=>eV (Du k)):=by
 refine ArP.congr λvs r h=>?_;obtain ⟨k,hk,rfl,rfl⟩:=PD h;exact Gm AlZ k hk
theorem p70:Ap Tryz.prog Gl 115 (Rt λk=>.str (IV k)):=by
 refine ArQ.congr λvs r h=>?_;obtain ⟨k,hk,rfl,rfl⟩:=PD h;exact Gm Agy k hk
def ofT:List V->A5
 | [v]=>match gI v with
  | some n=>.br (inR n) (.leaf (.tup [eV (Du n.toNat),iV 0],[])) (.leaf (.tup [eV Gn,iV 30],[]))
  | none=>.fail
 | _=>.fail
theorem Ac4 {vs:List V} {r:V×List Blk} (h:(ofT vs).sem=some r):∃ n,vs=[iV n]∧((∃ k:Nat,n=Int.ofNat k∧k<112∧r=(.tup [eV (Du k),iV 0],[])) ∨ ((n<0 ∨ 0 <= n∧112 <= n)∧r=(.tup [eV Gn,iV 30],[]))):=by
 unfold ofT at h;split at h
 ·split at h
  ·rename_i v n hn
   refine ⟨n,by rw [GV hn],?_⟩;cases hi:inR n with
   | true =>obtain ⟨k,rfl,hk⟩:=Va hi;simp only [T.sem,hi,sel,cond_true,Option.some.injEq] at h;exact .inl ⟨k,rfl,hk,h.symm⟩
   | false =>simp only [T.sem,hi,sel,cond_false,Option.some.injEq] at h;exact .inr ⟨AdG hi,h.symm⟩
  ·cases h
 ·cases h
theorem Ag8 {a b:Int} (h:a<b):ilt a b=true:=by simpa [ilt] using h
theorem AcE {a b:Int} (h:b <= a):ilt a b=false:=by simp [ilt]; omega
theorem Y8 {a b:Int} (h:a <= b):ile a b=true:=by simpa [ile] using h
theorem p31:Ap Tryz.prog Gl 150 ofT:=by
 refine Ap.congr (AM A2 mixed Tryz.func150 (by kernel_rfl) (by kernel_rfl) (Bh Ca [])) λvs r h=>?_;obtain ⟨n,rfl,⟨k,rfl,hk,rfl⟩ | ⟨hn,rfl⟩⟩:=Ac4 h
 ·exact Gm As0 k hk
 ·rcases hn with hn | ⟨h0,hn⟩
  ·exact AG (Apr n) (by rw [Ag8 hn])
  ·exact AG (Apq n) (by rw [AcE h0,Y8 hn])
noncomputable def tb1:A7:=(160,Rt λk=>eV (Du k))::(115,Rt λk=>.str (IV k))::(150,ofT)::[]
theorem Wh:Ao Tryz.prog Gl tb1:=.cons p71 <| .cons p70 <| .cons p31 .nil
noncomputable def cx1:Cx:=AO Gl tb1 [(0,⟨[],1,[],1,113⟩)]
def GX (e:E6):Nat->Nat->Option Nat
 | 0,_=>none
 | m+1,k=>match eqE (Du k) e with
  | true=>some k
  | false=>GX e m (Nat.succ k)
def Cd (e:E6):Int:=match GX e 112 0 with
 | some k=>Int.ofNat k
 | none=>0
def Be (e:E6):Int:=match GX e 112 0 with
 | some _=>0
 | none=>30
def PE (e:E6):Nat->Nat->Option (V×List Blk)
 | 0,_=>some (.tup [iV 0,iV 30],[])
 | m+1,k=>sel (eqE (Du k) e) (some (.tup [nV k,iV 0],[])) (PE e m (Nat.succ k))
def TA (e:E6):Nat->Nat->Option (V×List Blk)
 | 0,_=>some (.tup [iV 0,iV 30],[])
 | m+1,k=>sel (eqE e (Du k)) (some (.tup [nV k,iV 0],[])) (TA e m (Nat.succ k))
theorem V7 (e:E6):∀ m k,PE e m k=match GX e m k with
  | some j=>some (.tup [nV j,iV 0],[])
  | none=>some (.tup [iV 0,iV 30],[])
 | 0,k=>rfl
 | m+1,k=>by
  simp only [PE,GX];cases h:eqE (Du k) e with
  | true=>rfl
  | false=>exact V7 e m (Nat.succ k)
theorem Rv (e:E6):∀ m k,TA e m k=PE e m k
 | 0,_=>rfl
 | m+1,k=>by
  simp only [PE,TA,Rv e m,Aea e]
theorem Ru (e:E6):PE e 112 0=some (.tup [iV (Cd e),iV (Be e)],[]):=by
 rw [V7];unfold Cd Be;cases GX e 112 0 <;> rfl
theorem AmB (e:E6):(A0 (Aj tab cx1 Tryz.f114 [eV e] [])).sem=PE e 112 0:=by kernel_rfl
theorem AmA (e:E6):(A0 (Aj tab cx1 Tryz.f119 [eV e] [])).sem=TA e 112 0:=by kernel_rfl
def BX (f:E6->V):List V->A5
 | [v]=>match toE v with
  | some e=>.leaf (f e,[])
  | none=>.fail
 | _=>.fail
theorem Cn {f:E6->V} {vs:List V} {r:V×List Blk} (h:(BX f vs).sem=some r):∃ e,vs=[eV e]∧r=(f e,[]):=by
 unfold BX at h;split at h
 ·split at h
  ·rename_i v e hn
   exact ⟨e,by rw [NX hn],Ab h⟩
  ·cases h
 ·cases h
def V8 (e:E6):V:=.tup [iV (Cd e),iV (Be e)]
theorem p24:Ap Tryz.prog Gl 114 (BX V8):=by
 refine Ap.congr (AM A2 mixed Tryz.func114 (by kernel_rfl) (by kernel_rfl) (Γ:=cx1) (Bh Wh _)) λvs r h=>?_;obtain ⟨e,rfl,rfl⟩:=Cn h;exact (AmB e).trans (Ru e)
theorem p25:Ap Tryz.prog Gl 119 (BX V8):=by
 refine Ap.congr (AM A2 mixed Tryz.func119 (by kernel_rfl) (by kernel_rfl) (Γ:=cx1) (Bh Wh _)) λvs r h=>?_;obtain ⟨e,rfl,rfl⟩:=Cn h;exact (AmA e).trans ((Rv e 112 0).trans (Ru e))
end Go.Proofs.YtkbafjceglhjhaaGreatDoor.Ed
namespace Go.Proofs.YtkbafjceglhjhaaGreatDoor.Ed
open Go.Sy
noncomputable def tb2:A7:=(114,BX V8)::(119,BX V8)::tb1
theorem Aby:Ao Tryz.prog Gl tb2:=.cons p24 <| .cons p25 Wh
noncomputable def cx2:Cx:=AO Gl tb2 []
theorem AhO (e:E6):(A0 (Aj tab cx2 Tryz.f121 [eV e] [])).sem=some (iV (Be e),[]):=by kernel_rfl
theorem p29:Ap Tryz.prog Gl 121 (BX λe=>iV (Be e)):=by
 refine Ap.congr (AM A2 mixed Tryz.func121 (by kernel_rfl) (by kernel_rfl) (Γ:=cx2) (Bh Aby _)) λvs r h=>?_;obtain ⟨e,rfl,rfl⟩:=Cn h;exact AhO e
theorem I0 (e:E6):∀ m k j,GX e m k=some j->k <= j∧j<k+m∧Du j=e
 | 0,k,j,h=>by cases h
 | m+1,k,j,h=>by
  simp only [GX] at h;split at h
  ·rename_i he
   simp only [Option.some.injEq] at h;subst h;exact ⟨Nat.le_refl _,by omega,(JB _ _).1 he⟩
  ·obtain ⟨h1,h2,h3⟩:=I0 e m _ j h
   exact ⟨by omega,by omega,h3⟩
def Cc (e:E6):List UInt8:=match GX e 112 0 with
 | some k=>IV k
 | none=>[]
def JZ (e:E6):V:=.tup [.str (Cc e),iV (Be e)]
noncomputable def tb3:A7:=(121,BX λe=>iV (Be e))::tb2
theorem tb3_ok:Ao Tryz.prog Gl tb3:=.cons p29 Aby
noncomputable def tbn:A7:=(122,λvs=>A0 (Aj tab cx0 Tryz.f122 vs []))::(163,λvs=>A0 (Aj tab cx0 Tryz.f163 vs []))::[]
theorem Abs:Ao Tryz.prog Gl tbn :=
 .cons (AM A2 mixed Tryz.func122 (by kernel_rfl) (by kernel_rfl) (Γ:=cx0) (Bh .nil _)) <|
 .cons (AM A2 mixed Tryz.func163 (by kernel_rfl) (by kernel_rfl) (Γ:=cx0) (Bh .nil _)) .nil
noncomputable def cxn:Cx:=AO Gl tbn []
noncomputable def tb4:A7:=(123,λvs=>A0 (Aj tab cxn Tryz.f123 vs []))::(tbn++tb3)
theorem Ao.append {P:Program} {G:Nat->V} {a b:A7} (ha:Ao P G a) (hb:Ao P G b):Ao P G (a++b):=λp hp=>(List.mem_append.1 hp).elim (ha p) (hb p)
theorem tb4_ok:Ao Tryz.prog Gl tb4 :=
 .cons (AM A2 mixed Tryz.func123 (by kernel_rfl) (by kernel_rfl) (Γ:=cxn) (Bh Abs _)) (Ao.append Abs tb3_ok)
noncomputable def cx4:Cx:=AO Gl tb4 []
theorem AlT:(List.range 112).map (λk:Nat=>(A0 (Aj tab cx4 Tryz.f80 [eV (Du k)] [])).sem)=(List.range 112).map λk=>some (.tup [.str (IV k),iV 0],[]):=by kernel_rfl
theorem Ag0 (e:E6):(A0 (Aj tab cx4 Tryz.f80 [eV e] [])).path [true]=some ([AQ (ieq (Be e) 0)],(.tup [.str [],iV 30],[])):=by kernel_rfl
theorem Ag2 (e:E6):(A0 (Aj tab cx4 Tryz.f74 [eV e] [])).path [true]=some ([AQ (ieq (Be e) 0)],(.tup [.str [],iV (Be e)],[])):=by kernel_rfl
theorem Ag1 (e:E6):(A0 (Aj tab cx4 Tryz.f74 [eV e] [])).path [false,true]=some ([AQ (ieq (Be e) 0),inR (Cd e)],(.tup [.str (IV (Cd e).toNat),iV 0],[])):=by kernel_rfl
theorem AlU (e:E6):(A0 (Aj tab cx4 Tryz.f74 [eV e] [])).sem=some (JZ e,[]):=by
 unfold JZ Cc;cases h:GX e 112 0 with
 | none =>
  have hf:Be e=30:=by unfold Be; rw [h]
  exact AG (Ag2 e) (by rw [hf]; rfl)
 | some k =>
  have hf:Be e=0:=by unfold Be; rw [h]
  have hn:Cd e=Int.ofNat k:=by unfold Cd; rw [h]
  have hk:=(I0 e 112 0 k h).2.1;have:=AG (Ag1 e) (by rw [hf,hn,show inR (Int.ofNat k)=true by simp [inR]; omega]; rfl);rw [this,hn,hf];rfl
theorem Agz (e:E6):(A0 (Aj tab cx4 Tryz.f80 [eV e] [])).sem=some (JZ e,[]):=by
 unfold JZ Cc;cases h:GX e 112 0 with
 | none =>
  have hf:Be e=30:=by unfold Be; rw [h]
  rw [hf];exact AG (Ag0 e) (by rw [hf]; rfl)
 | some k =>
  have hf:Be e=0:=by unfold Be; rw [h]
  obtain ⟨_,hk,rfl⟩:=I0 e 112 0 k h;rw [hf];exact Gm AlT k (by omega)
theorem p26:Ap Tryz.prog Gl 74 (BX JZ):=by
 refine Ap.congr (AM A2 mixed Tryz.func74 (by kernel_rfl) (by kernel_rfl) (Γ:=cx4) (Bh tb4_ok _)) λvs r h=>?_;obtain ⟨e,rfl,rfl⟩:=Cn h;exact AlU e
theorem p27:Ap Tryz.prog Gl 80 (BX JZ):=by
 refine Ap.congr (AM A2 mixed Tryz.func80 (by kernel_rfl) (by kernel_rfl) (Γ:=cx4) (Bh tb4_ok _)) λvs r h=>?_;obtain ⟨e,rfl,rfl⟩:=Cn h;exact Agz e
end Go.Proofs.YtkbafjceglhjhaaGreatDoor.Ed
