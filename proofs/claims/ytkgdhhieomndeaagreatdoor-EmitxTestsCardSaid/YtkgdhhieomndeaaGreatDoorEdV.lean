/-
  The table of the program's types, as the evaluator asks of them, and that it is the program's own. No conditions.
-/
import Derived.Test.YtkgdhhieomndeaaGreatDoorSyA
import Derived.Test.YtkgdhhieomndeaaGreatDoorProg
import Derived.KernelRfl
import Derived.Test.YtkgdhhieomndeaaGreatDoorSyU
import Derived.Test.YtkgdhhieomndeaaGreatDoorRows
import Derived.Test.YtkgdhhieomndeaaGreatDoorCards
import Derived.Test.YtkgdhhieomndeaaGreatDoorTie
import Derived.ProofKit
import Derived.OpenShut
import Derived.Deep.DeepHandedRow
namespace Go.Sy
open Go.Proofs
set_option maxRecDepth 100000
def tab:List Ty:=[
 ⟨.other,1,0,.und,false⟩,
 ⟨.other,1,8,.val (.nilFunc),false⟩,
 ⟨.int .i64,1,8,.val (.int .i64 0),false⟩,
 ⟨.int .i64,1,8,.val (.int .i64 0),false⟩,
 ⟨.bool,1,1,.val (.bool false),false⟩,
 ⟨.int .u8,1,1,.val (.int .u8 0),false⟩,
 ⟨.int .u8,1,1,.val (.int .u8 0),false⟩,
 ⟨.st [(0,2),(1,3),(2,4),(3,6)],4,24,.agg [.val (.int .i64 0),.val (.int .i64 0),.val (.bool false),.val (.int .u8 0)],true⟩,
 ⟨.st [(0,2),(1,3),(2,4),(3,6)],4,24,.agg [.val (.int .i64 0),.val (.int .i64 0),.val (.bool false),.val (.int .u8 0)],true⟩,
 ⟨.str,1,16,.str [],false⟩,
 ⟨.str,1,16,.str [],false⟩,
 ⟨.str,1,16,.str [],false⟩,
 ⟨.int .u64,1,8,.val (.int .u64 0),false⟩,
 ⟨.st [(0,9),(1,12)],2,24,.agg [.str [],.val (.int .u64 0)],false⟩,
 ⟨.st [(0,9),(1,12)],2,24,.agg [.str [],.val (.int .u64 0)],false⟩,
 ⟨.other,1,8,.val (.pointer none),false⟩,
 ⟨.other,1,8,.val (.pointer none),false⟩,
 ⟨.other,1,8,.val (.pointer none),false⟩,
 ⟨.st [(0,17)],1,8,.agg [.val (.pointer none)],false⟩,
 ⟨.st [(0,17)],1,8,.agg [.val (.pointer none)],false⟩,
 ⟨.other,1,16,.val (.nilIface),false⟩,
 ⟨.int .i32,1,4,.val (.int .i32 0),false⟩,
 ⟨.sl 92,1,24,.nilS,false⟩,
 ⟨.sl 80,1,24,.nilS,false⟩,
 ⟨.sl 3,1,24,.nilS,false⟩,
 ⟨.sl 24,1,24,.nilS,false⟩,
 ⟨.st [(0,3),(1,22),(2,23),(3,3),(4,3),(5,24),(6,25)],7,120,.agg [.val (.int .i64 0),.nilS,.nilS,.val (.int .i64 0),.val (.int .i64 0),.nilS,.nilS],false⟩,
 ⟨.st [(0,3),(1,22),(2,23),(3,3),(4,3),(5,24),(6,25)],7,120,.agg [.val (.int .i64 0),.nilS,.nilS,.val (.int .i64 0),.val (.int .i64 0),.nilS,.nilS],false⟩,
 ⟨.other,1,8,.val (.nilFunc),false⟩,
 ⟨.sl 55,1,24,.nilS,false⟩,
 ⟨.sl 49,1,24,.nilS,false⟩,
 ⟨.st [(0,3),(1,3),(2,9)],3,32,.agg [.val (.int .i64 0),.val (.int .i64 0),.str []],true⟩,
 ⟨.st [(0,3),(1,3),(2,9)],3,32,.agg [.val (.int .i64 0),.val (.int .i64 0),.str []],true⟩,
 ⟨.sl 35,1,24,.nilS,false⟩,
 ⟨.st [(0,3),(1,32),(4,3),(5,33)],6,72,.agg [.val (.int .i64 0),.val (.int .i64 0),.val (.int .i64 0),.str [],.val (.int .i64 0),.nilS],false⟩,
 ⟨.st [(0,3),(1,32),(4,3),(5,33)],6,72,.agg [.val (.int .i64 0),.val (.int .i64 0),.val (.int .i64 0),.str [],.val (.int .i64 0),.nilS],false⟩,
 ⟨.st [(0,3),(1,35)],7,80,.agg [.val (.int .i64 0),.val (.int .i64 0),.val (.int .i64 0),.val (.int .i64 0),.str [],.val (.int .i64 0),.nilS],false⟩,
 ⟨.st [(0,3),(1,35)],7,80,.agg [.val (.int .i64 0),.val (.int .i64 0),.val (.int .i64 0),.val (.int .i64 0),.str [],.val (.int .i64 0),.nilS],false⟩,
 ⟨.st [(0,3),(1,9),(2,9),(3,29),(4,30),(5,37)],12,168,.agg [.val (.int .i64 0),.str [],.str [],.nilS,.nilS,.val (.int .i64 0),.val (.int .i64 0),.val (.int .i64 0),.val (.int .i64 0),.str [],.val (.int .i64 0),.nilS],false⟩,
 ⟨.st [(0,3),(1,9),(2,9),(3,29),(4,30),(5,37)],12,168,.agg [.val (.int .i64 0),.str [],.str [],.nilS,.nilS,.val (.int .i64 0),.val (.int .i64 0),.val (.int .i64 0),.val (.int .i64 0),.str [],.val (.int .i64 0),.nilS],false⟩,
 ⟨.int .i64,1,8,.val (.int .i64 0),false⟩,
 ⟨.other,1,0,.und,false⟩,
 ⟨.other,1,8,.val (.nilFunc),false⟩,
 ⟨.other,1,8,.val (.nilFunc),false⟩,
 ⟨.other,1,8,.val (.nilFunc),false⟩,
 ⟨.other,1,8,.val (.nilFunc),false⟩,
 ⟨.other,1,8,.val (.nilFunc),false⟩,
 ⟨.other,1,0,.und,false⟩,
 ⟨.other,1,8,.val (.nilFunc),false⟩,
 ⟨.sl 51,1,24,.nilS,false⟩,
 ⟨.st [(0,3),(1,3),(2,3),(3,3),(4,3),(5,9),(6,9),(7,3)],8,80,.agg [.val (.int .i64 0),.val (.int .i64 0),.val (.int .i64 0),.val (.int .i64 0),.val (.int .i64 0),.str [],.str [],.val (.int .i64 0)],true⟩,
 ⟨.st [(0,3),(1,3),(2,3),(3,3),(4,3),(5,9),(6,9),(7,3)],8,80,.agg [.val (.int .i64 0),.val (.int .i64 0),.val (.int .i64 0),.val (.int .i64 0),.val (.int .i64 0),.str [],.str [],.val (.int .i64 0)],true⟩,
 ⟨.st [(0,9),(1,3)],2,24,.agg [.str [],.val (.int .i64 0)],true⟩,
 ⟨.st [(0,9),(1,3)],2,24,.agg [.str [],.val (.int .i64 0)],true⟩,
 ⟨.st [(0,3),(1,3),(2,9),(3,53)],5,56,.agg [.val (.int .i64 0),.val (.int .i64 0),.str [],.str [],.val (.int .i64 0)],true⟩,
 ⟨.st [(0,3),(1,3),(2,9),(3,53)],5,56,.agg [.val (.int .i64 0),.val (.int .i64 0),.str [],.str [],.val (.int .i64 0)],true⟩,
 ⟨.other,1,0,.und,false⟩,
 ⟨.other,1,8,.val (.nilFunc),false⟩,
 ⟨.other,1,8,.val (.nilFunc),false⟩,
 ⟨.other,1,8,.val (.nilFunc),false⟩,
 ⟨.other,1,8,.val (.nilFunc),false⟩,
 ⟨.other,1,8,.val (.nilFunc),false⟩,
 ⟨.other,1,0,.und,false⟩,
 ⟨.other,1,8,.val (.nilFunc),false⟩,
 ⟨.other,1,0,.und,false⟩,
 ⟨.other,1,8,.val (.nilFunc),false⟩,
 ⟨.other,1,0,.und,false⟩,
 ⟨.other,1,8,.val (.nilFunc),false⟩,
 ⟨.other,1,8,.val (.nilFunc),false⟩,
 ⟨.other,1,8,.val (.nilFunc),false⟩,
 ⟨.other,1,0,.und,false⟩,
 ⟨.other,1,8,.val (.nilFunc),false⟩,
 ⟨.other,1,8,.val (.nilFunc),false⟩,
 ⟨.other,1,8,.val (.nilFunc),false⟩,
 ⟨.other,1,8,.val (.nilFunc),false⟩,
 ⟨.other,1,8,.val (.nilFunc),false⟩,
 ⟨.other,1,8,.val (.nilFunc),false⟩,
 ⟨.other,1,8,.val (.nilFunc),false⟩,
 ⟨.other,1,8,.val (.nilFunc),false⟩,
 ⟨.st [(0,3),(1,3),(2,3),(3,3),(4,3)],5,40,.agg [.val (.int .i64 0),.val (.int .i64 0),.val (.int .i64 0),.val (.int .i64 0),.val (.int .i64 0)],true⟩,
 ⟨.st [(0,3),(1,3),(2,3),(3,3),(4,3)],5,40,.agg [.val (.int .i64 0),.val (.int .i64 0),.val (.int .i64 0),.val (.int .i64 0),.val (.int .i64 0)],true⟩,
 ⟨.other,1,0,.und,false⟩,
 ⟨.other,1,8,.val (.nilFunc),false⟩,
 ⟨.other,1,0,.und,false⟩,
 ⟨.other,1,8,.val (.nilFunc),false⟩,
 ⟨.sl 89,1,24,.nilS,false⟩,
 ⟨.st [(0,49)],1,24,.agg [.nilS],false⟩,
 ⟨.st [(0,49)],1,24,.agg [.nilS],false⟩,
 ⟨.st [(0,87),(1,3)],2,32,.agg [.nilS,.val (.int .i64 0)],false⟩,
 ⟨.st [(0,87),(1,3)],2,32,.agg [.nilS,.val (.int .i64 0)],false⟩,
 ⟨.other,1,8,.val (.nilFunc),false⟩,
 ⟨.st [(0,3),(1,4),(2,4),(3,3),(4,3),(5,3)],6,40,.agg [.val (.int .i64 0),.val (.bool false),.val (.bool false),.val (.int .i64 0),.val (.int .i64 0),.val (.int .i64 0)],true⟩,
 ⟨.st [(0,3),(1,4),(2,4),(3,3),(4,3),(5,3)],6,40,.agg [.val (.int .i64 0),.val (.bool false),.val (.bool false),.val (.int .i64 0),.val (.int .i64 0),.val (.int .i64 0)],true⟩,
 ⟨.other,1,8,.val (.nilFunc),false⟩,
 ⟨.other,1,8,.val (.nilFunc),false⟩,
 ⟨.sl 9,1,24,.nilS,false⟩,
 ⟨.other,1,8,.val (.nilFunc),false⟩,
 ⟨.other,1,8,.val (.nilFunc),false⟩,
 ⟨.sl 32,1,24,.nilS,false⟩,
 ⟨.other,1,0,.und,false⟩,
 ⟨.other,1,8,.val (.nilFunc),false⟩,
 ⟨.other,1,8,.val (.nilFunc),false⟩,
 ⟨.other,1,8,.val (.nilFunc),false⟩,
 ⟨.other,1,8,.val (.nilFunc),false⟩,
 ⟨.other,1,0,.und,false⟩,
 ⟨.other,1,8,.val (.nilFunc),false⟩,
 ⟨.other,1,0,.und,false⟩,
 ⟨.other,1,8,.val (.nilFunc),false⟩,
 ⟨.other,1,8,.val (.nilFunc),false⟩,
 ⟨.other,1,8,.val (.nilFunc),false⟩,
 ⟨.other,1,8,.val (.pointer none),false⟩,
 ⟨.other,1,8,.val (.nilFunc),false⟩,
 ⟨.other,1,0,.und,false⟩,
 ⟨.other,1,8,.val (.nilFunc),false⟩,
 ⟨.other,1,8,.val (.nilFunc),false⟩,
 ⟨.other,1,8,.val (.pointer none),false⟩,
 ⟨.sl 5,1,24,.nilS,false⟩,
 ⟨.st [(0,115),(1,116)],2,32,.agg [.val (.pointer none),.nilS],false⟩,
 ⟨.st [(0,115),(1,116)],2,32,.agg [.val (.pointer none),.nilS],false⟩,
 ⟨.other,1,8,.val (.nilFunc),false⟩,
 ⟨.other,1,16,.val (.nilIface),false⟩,
 ⟨.other,1,16,.val (.nilIface),false⟩,
 ⟨.other,1,0,.und,false⟩,
 ⟨.other,1,8,.val (.nilFunc),false⟩,
 ⟨.other,1,8,.val (.nilFunc),false⟩,
 ⟨.other,1,8,.val (.nilFunc),false⟩,
 ⟨.other,1,8,.val (.nilFunc),false⟩,
 ⟨.other,1,0,.und,false⟩,
 ⟨.other,1,8,.val (.nilFunc),false⟩,
 ⟨.other,1,8,.val (.nilFunc),false⟩,
 ⟨.other,1,8,.val (.nilFunc),false⟩,
 ⟨.other,1,8,.val (.nilFunc),false⟩,
 ⟨.other,1,0,.und,false⟩,
 ⟨.other,1,8,.val (.nilFunc),false⟩,
 ⟨.other,1,8,.val (.nilFunc),false⟩,
 ⟨.other,1,8,.val (.nilFunc),false⟩,
 ⟨.other,1,8,.val (.nilFunc),false⟩,
 ⟨.other,1,8,.val (.nilFunc),false⟩,
 ⟨.other,1,8,.val (.nilFunc),false⟩,
 ⟨.imap 3,1,8,.val (.map none),false⟩,
 ⟨.other,1,8,.val (.nilFunc),false⟩,
 ⟨.other,1,8,.val (.pointer none),false⟩,
 ⟨.other,1,8,.val (.nilFunc),false⟩,
 ⟨.other,1,8,.val (.nilFunc),false⟩,
 ⟨.other,1,8,.val (.pointer none),false⟩,
 ⟨.other,1,8,.val (.nilFunc),false⟩,
 ⟨.arr 6 9,6,96,.agg [.str [],.str [],.str [],.str [],.str [],.str []],true⟩,
 ⟨.arr 10 9,10,160,.agg [.str [],.str [],.str [],.str [],.str [],.str [],.str [],.str [],.str [],.str []],true⟩,
 ⟨.arr 9 9,9,144,.agg [.str [],.str [],.str [],.str [],.str [],.str [],.str [],.str [],.str []],true⟩,
 ⟨.arr 4 9,4,64,.agg [.str [],.str [],.str [],.str []],true⟩,
 ⟨.other,1,8,.val (.pointer none),false⟩,
 ⟨.other,1,8,.val (.nilFunc),false⟩,
 ⟨.other,1,8,.val (.nilFunc),false⟩,
 ⟨.other,1,8,.val (.nilFunc),false⟩,
 ⟨.other,1,8,.val (.nilFunc),false⟩,
 ⟨.other,1,8,.val (.nilFunc),false⟩,
 ⟨.sl 4,1,24,.nilS,false⟩,
 ⟨.other,1,8,.val (.nilFunc),false⟩,
 ⟨.other,1,8,.val (.nilFunc),false⟩,
 ⟨.other,1,0,.und,false⟩,
 ⟨.other,1,8,.val (.nilFunc),false⟩,
 ⟨.other,1,8,.val (.nilFunc),false⟩,
 ⟨.other,1,8,.val (.pointer none),false⟩,
 ⟨.other,1,8,.val (.nilFunc),false⟩,
 ⟨.other,1,8,.val (.nilFunc),false⟩,
 ⟨.other,1,8,.val (.nilFunc),false⟩,
 ⟨.st [(0,17),(1,17),(2,17),(3,9)],4,40,.agg [.val (.pointer none),.val (.pointer none),.val (.pointer none),.str []],false⟩,
 ⟨.st [(0,17),(1,17),(2,17),(3,9)],4,40,.agg [.val (.pointer none),.val (.pointer none),.val (.pointer none),.str []],false⟩,
 ⟨.arr 0 16,0,0,.agg [],false⟩,
 ⟨.st [(0,168)],0,0,.agg [],false⟩,
 ⟨.st [(0,168)],0,0,.agg [],false⟩,
 ⟨.other,1,8,.val (.nilFunc),false⟩,
 ⟨.int .u32,1,4,.val (.int .u32 0),false⟩,
 ⟨.int .u8,1,1,.val (.int .u8 0),false⟩,
 ⟨.int .u8,1,1,.val (.int .u8 0),false⟩,
 ⟨.other,1,8,.val (.nilFunc),false⟩,
 ⟨.int .i32,1,4,.val (.int .i32 0),false⟩,
 ⟨.int .i32,1,4,.val (.int .i32 0),false⟩,
 ⟨.st [(0,12),(1,12),(2,172),(3,173),(4,5),(5,5),(6,174),(7,175),(8,150),(9,176),(10,177)],11,48,.agg [.val (.int .u64 0),.val (.int .u64 0),.val (.int .u32 0),.val (.int .u8 0),.val (.int .u8 0),.val (.int .u8 0),.val (.int .u8 0),.val (.nilFunc),.val (.pointer none),.val (.int .i32 0),.val (.int .i32 0)],false⟩,
 ⟨.st [(0,12),(1,12),(2,172),(3,173),(4,5),(5,5),(6,174),(7,175),(8,150),(9,176),(10,177)],11,48,.agg [.val (.int .u64 0),.val (.int .u64 0),.val (.int .u32 0),.val (.int .u8 0),.val (.int .u8 0),.val (.int .u8 0),.val (.int .u8 0),.val (.nilFunc),.val (.pointer none),.val (.int .i32 0),.val (.int .i32 0)],false⟩]
def Rf (P:Program):Nat->Nat->List (Option Ty)
 | 0,_=>[]
 | n+1,k=>ZA P k::Rf P n (Nat.succ k)
def WI:List Ty->List (Option Ty)
 | []=>[]
 | t::l=>some t::WI l
theorem Ah4:Rf Tryz.prog 180 0=WI tab:=by kernel_rfl
theorem Ta (P:Program):∀ (n k j:Nat),j<n->(Rf P n k)[j]? = some (ZA P (k+j))
 | 0,_,_,h=>absurd h (Nat.not_lt_zero _)
 | n+1,k,0,_=>rfl
 | n+1,k,j+1,h=>by
  have:=Ta P n (Nat.succ k) j (Nat.lt_of_succ_lt_succ h);simp only [Rf,List.getElem?_cons_succ,this];rw [show Nat.succ k+j=k+(j+1) by omega]
theorem PJ:∀ (l:List Ty) (j:Nat) (t:Ty),l[j]? = some t->(WI l)[j]? = some (some t)∧j<l.length
 | [],_,_,h=>by simp at h
 | a::l,0,t,h=>by simp at h; subst h; exact ⟨rfl,by simp⟩
 | a::l,j+1,t,h=>by
  have:=PJ l j t (by simpa using h);exact ⟨by simpa [WI] using this.1,by simp; exact this.2⟩
theorem AdI:tab.length=180:=by kernel_rfl
theorem Ah3 (j:Nat) (t:Ty) (h:tab[j]? = some t):ZA Tryz.prog j=some t:=by
 obtain ⟨h1,h2⟩:=PJ tab j t h;rw [AdI] at h2;rw [<- Ah4,Ta _ _ _ _ h2] at h1;simpa using h1
end Go.Sy
namespace Go.Proofs.YtkgdhhieomndeaaGreatDoor.Ed
open Go.Sy
def Sa:List (List UInt8):=[[82,102,101],[82,102,105],[70,114,101],[70,114,105],[67,111,101],[67,111,105]]
def XD:List (List UInt8):=[[82,82],[82,87],[87,82],[87,87]]
def WJ:List (List UInt8):=[[114,46,114],[114,46,119],[114,46,114,119],[119,46,114],[119,46,119],[119,46,114,119],[114,119,46,114],[114,119,46,119],[114,119,46,114,119]]
def XM:List (List UInt8):=[[68,112,65,100,100,114,100,82],[68,112,65,100,100,114,100,87],[68,112,65,100,100,114,115,82],[68,112,65,100,100,114,115,87],[68,112,68,97,116,97,100,87],
 [68,112,68,97,116,97,115,87],[68,112,67,116,114,108,100,82],[68,112,67,116,114,108,100,87],[68,112,67,116,114,108,115,82],[68,112,67,116,114,108,115,87]]
def Gl:Nat->V:=Am3 [(0,N4 Sa),(1,N4 XM),(2,N4 WJ),(3,N4 XD)]
theorem mixed:Tryz.prog.follows .mixedOrders=true:=by kernel_rfl
theorem A8:TabOK Tryz.prog tab:=⟨Ah3,Adp⟩
end Go.Proofs.YtkgdhhieomndeaaGreatDoor.Ed
namespace Go.Proofs.YtkgdhhieomndeaaGreatDoor.Ed
open Go.Sy
structure E6 where
 kind:Int
 ext:Bool
 same:Bool
 src:Int
 dst:Int
 fence:Int
 deriving DecidableEq
def eV (e:E6):V:=.agg [iV e.kind,bV e.ext,bV e.same,iV e.src,iV e.dst,iV e.fence]
def toE:V->Option E6
 | .agg [a,b,c,d,e,f]=>match gI a,gB b,gB c,gI d,gI e,gI f with
  | some a,some b,some c,some d,some e,some f=>some ⟨a,b,c,d,e,f⟩
  | _,_,_,_,_,_=>none
 | _=>none
theorem N3 {v:V} {e:E6} (h:toE v=some e):v=eV e:=by
 unfold toE at h;split at h
 ·split at h
  ·rename_i h1 h2 h3 h4 h5 h6
   simp only [Option.some.injEq] at h;subst h;rw [Gk h1,RL h2,RL h3,Gk h4,Gk h5,Gk h6];rfl
  ·cases h
 ·cases h
def eqE (a b:E6):Bool:=Al (ieq a.kind b.kind) (Al (JS a.ext b.ext) (Al (JS a.same b.same) (Al (ieq a.src b.src) (Al (ieq a.dst b.dst) (Al (ieq a.fence b.fence) true)))))
theorem IT (a b:E6):eqE a b=true↔a=b:=by
 cases a; cases b;simp [eqE,Al,ieq,JS]
theorem AbY (a b:E6):eqE a b=eqE b a:=by
 rw [Bool.eq_iff_iff,IT,IT];exact eq_comm
def Df (c:Nat):E6 :=
 if c<6 then ⟨c / 2+1,c % 2 == 0,false,if c / 2 == 1 then 1 else 2,if c / 2 == 0 then 1 else 2,0⟩
 else if c<102 then ⟨if (c-6) / 8 == 0 then 4 else 5,false,decide (4 <= (c-6) % 8),1+((c-6) % 4 / 2:Nat),1+((c-6) % 2:Nat),((c-6) / 8:Nat)⟩
 else if c<106 then ⟨6,false,decide (2 <= c-102),1,1+((c-102) % 2:Nat),0⟩
 else if c<108 then ⟨7,false,c-102 == 5,1,2,0⟩
 else ⟨8,false,decide (8 <= c-102),1,1+((c-102) % 2:Nat),0⟩
def E8:E6:=⟨0,false,false,0,0,0⟩
def inR (n:Int):Bool:=decide (0 <= n) && decide (n<112)
theorem TF {n:Int} (h:inR n=true):∃ k:Nat,n=(k:Int)∧k<112:=by
 simp [inR] at h;exact ⟨n.toNat,by omega,by omega⟩
theorem AbG {n:Int} (h:inR n=false):n<0 ∨ 0 <= n∧112 <= n:=by
 simp [inR] at h;omega
def cx0:Cx:=AC Gl [] []
noncomputable def Anh:List V->AR:=λvs=>Az (Ak tab cx0 Tryz.f93 vs [])
theorem Aot:Ax Tryz.prog Gl 93 Anh:=AN A8 mixed Tryz.func93 (by kernel_rfl) (by kernel_rfl) (AI Av.nil _)
noncomputable def AjG:List V->AR:=λvs=>Az (Ak tab cx0 Tryz.f61 vs [])
theorem Aou:Ax Tryz.prog Gl 61 AjG:=AN A8 mixed Tryz.func61 (by kernel_rfl) (by kernel_rfl) (AI Av.nil _)
noncomputable def AgO:List V->AR:=λvs=>Az (Ak tab cx0 Tryz.f104 vs [])
theorem p74:Ax Tryz.prog Gl 104 AgO:=AN A8 mixed Tryz.func104 (by kernel_rfl) (by kernel_rfl) (AI Av.nil _)
noncomputable def Adc:List V->AR:=λvs=>Az (Ak tab cx0 Tryz.f105 vs [])
theorem p75:Ax Tryz.prog Gl 105 Adc:=AN A8 mixed Tryz.func105 (by kernel_rfl) (by kernel_rfl) (AI Av.nil _)
noncomputable def Ani:List V->AR:=λvs=>Az (Ak tab cx0 Tryz.f106 vs [])
theorem p76:Ax Tryz.prog Gl 106 Ani:=AN A8 mixed Tryz.func106 (by kernel_rfl) (by kernel_rfl) (AI Av.nil _)
noncomputable def tb0:AP:=(104,AgO)::(105,Adc)::(106,Ani)::[]
theorem C8:Av Tryz.prog Gl tb0:=.cons p74 <| .cons p75 <| .cons p76 .nil
noncomputable def Aj1:Cx:=AC Gl tb0 []
def Id (c:Nat):List UInt8 :=
 if c<6 then Sa.getD c []
 else if 102 <= c then XM.getD (c-102) []
 else (if (c-6) / 8=0 then [80,111] else if (c-6) / 8=1 then [77,70,101,110,99,101] else if (c-6) / 8=2 then [70,101,110,99,101,46,116,115,111]
  else [70,101,110,99,101,46]++WJ.getD ((c-6) / 8-3) [])++((if 4 <= (c-6) % 8 then [115] else [100])++XD.getD ((c-6) % 4) [])
end Go.Proofs.YtkgdhhieomndeaaGreatDoor.Ed
namespace Go.Proofs.YtkgdhhieomndeaaGreatDoor.Ed
open Go.Sy
theorem AiY:(List.range 112).map (λk:Nat=>(Az (Ak tab cx0 Tryz.f93 [nV k] [])).sem)=(List.range 112).map λk=>some (eV (Df k),[]):=by kernel_rfl
theorem Aen:(List.range 112).map (λk:Nat=>(Az (Ak tab cx0 Tryz.f61 [nV k] [])).sem)=(List.range 112).map λk=>some (.str (Id k),[]):=by kernel_rfl
theorem Ao7:(List.range 112).map (λk:Nat=>(Az (Ak tab Aj1 Tryz.f75 [nV k] [])).sem)=(List.range 112).map λk=>some (.tup [eV (Df k),iV 0],[]):=by kernel_rfl
theorem Amf (n:Int):(Az (Ak tab Aj1 Tryz.f75 [iV n] [])).path [true,true,true,true]=some ([ilt n 0,ilt n 0,ilt n 0,true],(.tup [eV E8,iV 30],[])):=by kernel_rfl
theorem Ame (n:Int):(Az (Ak tab Aj1 Tryz.f75 [iV n] [])).path [false,false,false,true]=some ([ilt n 0,ilt n 0,ilt n 0,ile 112 n],(.tup [eV E8,iV 30],[])):=by kernel_rfl
end Go.Proofs.YtkgdhhieomndeaaGreatDoor.Ed
namespace Go.Proofs.YtkgdhhieomndeaaGreatDoor.Ed
open Go.Sy
def codeT (f:Nat->V):List V->AR
 | [v]=>match gI v with
  | some n=>.br (inR n) (.leaf (f n.toNat,[])) .fail
  | none=>.fail
 | _=>.fail
theorem OR {f:Nat->V} {vs:List V} {r:V×List Blk} (h:(codeT f vs).sem=some r):∃ k:Nat,k<112∧vs=[nV k]∧r=(f k,[]):=by
 unfold codeT at h;split at h
 ·split at h
  ·rename_i v n hn
   obtain ⟨h1,h2⟩:=Ad h;obtain ⟨k,rfl,hk⟩:=TF h1;exact ⟨k,hk,by rw [Gk hn]; rfl,by rw [Ac h2]; rfl⟩
  ·cases h
 ·cases h
theorem p71:Ax Tryz.prog Gl 93 (codeT λk=>eV (Df k)):=by
 refine Aot.congr λvs r h=>?_;obtain ⟨k,hk,rfl,rfl⟩:=OR h;exact F1 AiY k hk
theorem p70:Ax Tryz.prog Gl 61 (codeT λk=>.str (Id k)):=by
 refine Aou.congr λvs r h=>?_;obtain ⟨k,hk,rfl,rfl⟩:=OR h;exact F1 Aen k hk
def ofT:List V->AR
 | [v]=>match gI v with
  | some n=>.br (inR n) (.leaf (.tup [eV (Df n.toNat),iV 0],[])) (.leaf (.tup [eV E8,iV 30],[]))
  | none=>.fail
 | _=>.fail
theorem AaZ {vs:List V} {r:V×List Blk} (h:(ofT vs).sem=some r):∃ n,vs=[iV n]∧((∃ k:Nat,n=Int.ofNat k∧k<112∧r=(.tup [eV (Df k),iV 0],[])) ∨ ((n<0 ∨ 0 <= n∧112 <= n)∧r=(.tup [eV E8,iV 30],[]))):=by
 unfold ofT at h;split at h
 ·split at h
  ·rename_i v n hn
   refine ⟨n,by rw [Gk hn],?_⟩;cases hi:inR n with
   | true =>obtain ⟨k,rfl,hk⟩:=TF hi;simp only [T.sem,hi,sel,cond_true,Option.some.injEq] at h;exact .inl ⟨k,rfl,hk,h.symm⟩
   | false =>simp only [T.sem,hi,sel,cond_false,Option.some.injEq] at h;exact .inr ⟨AbG hi,h.symm⟩
  ·cases h
 ·cases h
theorem Aex {a b:Int} (h:a<b):ilt a b=true:=by simpa [ilt] using h
theorem Abe {a b:Int} (h:b <= a):ilt a b=false:=by simp [ilt]; omega
theorem Xm {a b:Int} (h:a <= b):ile a b=true:=by simpa [ile] using h
theorem p31:Ax Tryz.prog Gl 75 ofT:=by
 refine Ax.congr (AN A8 mixed Tryz.func75 (by kernel_rfl) (by kernel_rfl) (AI C8 [])) λvs r h=>?_;obtain ⟨n,rfl,⟨k,rfl,hk,rfl⟩ | ⟨hn,rfl⟩⟩:=AaZ h
 ·exact F1 Ao7 k hk
 ·rcases hn with hn | ⟨h0,hn⟩
  ·exact AM (Amf n) (by rw [Aex hn])
  ·exact AM (Ame n) (by rw [Abe h0,Xm hn])
noncomputable def tb1:AP:=(93,codeT λk=>eV (Df k))::(61,codeT λk=>.str (Id k))::(75,ofT)::[]
theorem UJ:Av Tryz.prog Gl tb1:=.cons p71 <| .cons p70 <| .cons p31 .nil
noncomputable def cx1:Cx:=AC Gl tb1 [(0,⟨[],1,[],1,113⟩)]
def Gp (e:E6):Nat->Nat->Option Nat
 | 0,_=>none
 | m+1,k=>match eqE (Df k) e with
  | true=>some k
  | false=>Gp e m (Nat.succ k)
def BJ (e:E6):Int:=match Gp e 112 0 with
 | some k=>Int.ofNat k
 | none=>0
def Bc (e:E6):Int:=match Gp e 112 0 with
 | some _=>0
 | none=>30
def OS (e:E6):Nat->Nat->Option (V×List Blk)
 | 0,_=>some (.tup [iV 0,iV 30],[])
 | m+1,k=>sel (eqE (Df k) e) (some (.tup [nV k,iV 0],[])) (OS e m (Nat.succ k))
def Sb (e:E6):Nat->Nat->Option (V×List Blk)
 | 0,_=>some (.tup [iV 0,iV 30],[])
 | m+1,k=>sel (eqE e (Df k)) (some (.tup [nV k,iV 0],[])) (Sb e m (Nat.succ k))
theorem Uo (e:E6):∀ m k,OS e m k=match Gp e m k with
  | some j=>some (.tup [nV j,iV 0],[])
  | none=>some (.tup [iV 0,iV 30],[])
 | 0,k=>rfl
 | m+1,k=>by
  simp only [OS,Gp];cases h:eqE (Df k) e with
  | true=>rfl
  | false=>exact Uo e m (Nat.succ k)
theorem Q5 (e:E6):∀ m k,Sb e m k=OS e m k
 | 0,_=>rfl
 | m+1,k=>by
  simp only [OS,Sb,Q5 e m,AbY e]
theorem Q4 (e:E6):OS e 112 0=some (.tup [iV (BJ e),iV (Bc e)],[]):=by
 rw [Uo];unfold BJ Bc;cases Gp e 112 0 <;> rfl
theorem Aj4 (e:E6):(Az (Ak tab cx1 Tryz.f60 [eV e] [])).sem=OS e 112 0:=by kernel_rfl
theorem Aj3 (e:E6):(Az (Ak tab cx1 Tryz.f98 [eV e] [])).sem=Sb e 112 0:=by kernel_rfl
def BI (f:E6->V):List V->AR
 | [v]=>match toE v with
  | some e=>.leaf (f e,[])
  | none=>.fail
 | _=>.fail
theorem Ca {f:E6->V} {vs:List V} {r:V×List Blk} (h:(BI f vs).sem=some r):∃ e,vs=[eV e]∧r=(f e,[]):=by
 unfold BI at h;split at h
 ·split at h
  ·rename_i v e hn
   exact ⟨e,by rw [N3 hn],Ac h⟩
  ·cases h
 ·cases h
def Up (e:E6):V:=.tup [iV (BJ e),iV (Bc e)]
theorem p24:Ax Tryz.prog Gl 60 (BI Up):=by
 refine Ax.congr (AN A8 mixed Tryz.func60 (by kernel_rfl) (by kernel_rfl) (Γ:=cx1) (AI UJ _)) λvs r h=>?_;obtain ⟨e,rfl,rfl⟩:=Ca h;exact (Aj4 e).trans (Q4 e)
theorem p25:Ax Tryz.prog Gl 98 (BI Up):=by
 refine Ax.congr (AN A8 mixed Tryz.func98 (by kernel_rfl) (by kernel_rfl) (Γ:=cx1) (AI UJ _)) λvs r h=>?_;obtain ⟨e,rfl,rfl⟩:=Ca h;exact (Aj3 e).trans ((Q5 e 112 0).trans (Q4 e))
end Go.Proofs.YtkgdhhieomndeaaGreatDoor.Ed
namespace Go.Proofs.YtkgdhhieomndeaaGreatDoor.Ed
open Go.Sy
noncomputable def tb2:AP:=(60,BI Up)::(98,BI Up)::tb1
theorem ZS:Av Tryz.prog Gl tb2:=.cons p24 <| .cons p25 UJ
noncomputable def cx2:Cx:=AC Gl tb2 []
theorem Afn (e:E6):(Az (Ak tab cx2 Tryz.f76 [eV e] [])).sem=some (iV (Bc e),[]):=by kernel_rfl
theorem p29:Ax Tryz.prog Gl 76 (BI λe=>iV (Bc e)):=by
 refine Ax.congr (AN A8 mixed Tryz.func76 (by kernel_rfl) (by kernel_rfl) (Γ:=cx2) (AI ZS _)) λvs r h=>?_;obtain ⟨e,rfl,rfl⟩:=Ca h;exact Afn e
theorem H4 (e:E6):∀ m k j,Gp e m k=some j->k <= j∧j<k+m∧Df j=e
 | 0,k,j,h=>by cases h
 | m+1,k,j,h=>by
  simp only [Gp] at h;split at h
  ·rename_i he
   simp only [Option.some.injEq] at h;subst h;exact ⟨Nat.le_refl _,by omega,(IT _ _).1 he⟩
  ·obtain ⟨h1,h2,h3⟩:=H4 e m _ j h
   exact ⟨by omega,by omega,h3⟩
def BO (e:E6):List UInt8:=match Gp e 112 0 with
 | some k=>Id k
 | none=>[]
def Kt (e:E6):V:=.tup [.str (BO e),iV (Bc e)]
noncomputable def tb3:AP:=(76,BI λe=>iV (Bc e))::tb2
theorem tb3_ok:Av Tryz.prog Gl tb3:=.cons p29 ZS
noncomputable def tbn:AP:=(100,λvs=>Az (Ak tab cx0 Tryz.f100 vs []))::(124,λvs=>Az (Ak tab cx0 Tryz.f124 vs []))::[]
theorem ZM:Av Tryz.prog Gl tbn :=
 .cons (AN A8 mixed Tryz.func100 (by kernel_rfl) (by kernel_rfl) (Γ:=cx0) (AI .nil _)) <|
 .cons (AN A8 mixed Tryz.func124 (by kernel_rfl) (by kernel_rfl) (Γ:=cx0) (AI .nil _)) .nil
noncomputable def cxn:Cx:=AC Gl tbn []
noncomputable def tb4:AP:=(101,λvs=>Az (Ak tab cxn Tryz.f101 vs []))::(tbn++tb3)
theorem Av.append {P:Program} {G:Nat->V} {a b:AP} (ha:Av P G a) (hb:Av P G b):Av P G (a++b):=λp hp=>(List.mem_append.1 hp).elim (ha p) (hb p)
theorem tb4_ok:Av Tryz.prog Gl tb4 :=
 .cons (AN A8 mixed Tryz.func101 (by kernel_rfl) (by kernel_rfl) (Γ:=cxn) (AI ZM _)) (Av.append ZM tb3_ok)
noncomputable def cx4:Cx:=AC Gl tb4 []
theorem AiS:(List.range 112).map (λk:Nat=>(Az (Ak tab cx4 Tryz.f72 [eV (Df k)] [])).sem)=(List.range 112).map λk=>some (.tup [.str (Id k),iV 0],[]):=by kernel_rfl
theorem Aep (e:E6):(Az (Ak tab cx4 Tryz.f72 [eV e] [])).path [true]=some ([A6 (ieq (Bc e) 0)],(.tup [.str [],iV 30],[])):=by kernel_rfl
theorem Aer (e:E6):(Az (Ak tab cx4 Tryz.f39 [eV e] [])).path [true]=some ([A6 (ieq (Bc e) 0)],(.tup [.str [],iV (Bc e)],[])):=by kernel_rfl
theorem Aeq (e:E6):(Az (Ak tab cx4 Tryz.f39 [eV e] [])).path [false,true]=some ([A6 (ieq (Bc e) 0),inR (BJ e)],(.tup [.str (Id (BJ e).toNat),iV 0],[])):=by kernel_rfl
theorem AiT (e:E6):(Az (Ak tab cx4 Tryz.f39 [eV e] [])).sem=some (Kt e,[]):=by
 unfold Kt BO;cases h:Gp e 112 0 with
 | none =>
  have hf:Bc e=30:=by unfold Bc; rw [h]
  exact AM (Aer e) (by rw [hf]; rfl)
 | some k =>
  have hf:Bc e=0:=by unfold Bc; rw [h]
  have hn:BJ e=Int.ofNat k:=by unfold BJ; rw [h]
  have hk:=(H4 e 112 0 k h).2.1;have:=AM (Aeq e) (by rw [hf,hn,show inR (Int.ofNat k)=true by simp [inR]; omega]; rfl);rw [this,hn,hf];rfl
theorem Aeo (e:E6):(Az (Ak tab cx4 Tryz.f72 [eV e] [])).sem=some (Kt e,[]):=by
 unfold Kt BO;cases h:Gp e 112 0 with
 | none =>
  have hf:Bc e=30:=by unfold Bc; rw [h]
  rw [hf];exact AM (Aep e) (by rw [hf]; rfl)
 | some k =>
  have hf:Bc e=0:=by unfold Bc; rw [h]
  obtain ⟨_,hk,rfl⟩:=H4 e 112 0 k h;rw [hf];exact F1 AiS k (by omega)
theorem p26:Ax Tryz.prog Gl 39 (BI Kt):=by
 refine Ax.congr (AN A8 mixed Tryz.func39 (by kernel_rfl) (by kernel_rfl) (Γ:=cx4) (AI tb4_ok _)) λvs r h=>?_;obtain ⟨e,rfl,rfl⟩:=Ca h;exact AiT e
theorem p27:Ax Tryz.prog Gl 72 (BI Kt):=by
 refine Ax.congr (AN A8 mixed Tryz.func72 (by kernel_rfl) (by kernel_rfl) (Γ:=cx4) (AI tb4_ok _)) λvs r h=>?_;obtain ⟨e,rfl,rfl⟩:=Ca h;exact Aeo e
end Go.Proofs.YtkgdhhieomndeaaGreatDoor.Ed
namespace Go.Proofs.YtkgdhhieomndeaaGreatDoor.Ed
open Go.Sy
noncomputable def tb5:AP:=(72,BI Kt)::tb3
theorem tb5_ok:Av Tryz.prog Gl tb5:=.cons p27<|tb3_ok
noncomputable def cx5:Cx:=AC Gl tb5 [(0,⟨[],1,[],1,113⟩)]
def Qu (s:List UInt8):Nat->Nat->Option Nat
 | 0,_=>none
 | m+1,k=>match seq (Id k) s with
  | true=>some k
  | false=>Qu s m (Nat.succ k)
def EX (s:List UInt8):E6:=match Qu s 112 0 with
 | some k=>Df k
 | none=>E8
def EW (s:List UInt8):Int:=match Qu s 112 0 with
 | some _=>0
 | none=>30
def NX (s:List UInt8):Nat->Nat->Option (V×List Blk)
 | 0,_=>some (.tup [eV E8,iV 30],[])
 | m+1,k=>sel (seq (Id k) s) (some (.tup [eV (Df k),iV 0],[])) (NX s m (Nat.succ k))
theorem PZ (s:List UInt8):∀ m k,NX s m k=match Qu s m k with
  | some j=>some (.tup [eV (Df j),iV 0],[])
  | none=>some (.tup [eV E8,iV 30],[])
 | 0,k=>rfl
 | m+1,k=>by
  simp only [NX,Qu];cases h:seq (Id k) s with
  | true=>rfl
  | false=>exact PZ s m (Nat.succ k)
theorem Vz (s:List UInt8):NX s 112 0=some (.tup [eV (EX s),iV (EW s)],[]):=by
 rw [PZ];unfold EX EW;cases Qu s 112 0 <;> rfl
theorem Aeg (s:List UInt8):(Az (Ak tab cx5 Tryz.f51 [.str s] [])).sem=NX s 112 0:=by kernel_rfl
def P5 (f:List UInt8->V):List V->AR
 | [v]=>match gS v with
  | some e=>.leaf (f e,[])
  | none=>.fail
 | _=>.fail
theorem UF {f:List UInt8->V} {vs:List V} {r:V×List Blk} (h:(P5 f vs).sem=some r):∃ e,vs=[.str e]∧r=(f e,[]):=by
 unfold P5 at h;split at h
 ·split at h
  ·rename_i v e hn
   exact ⟨e,by rw [X1 hn],Ac h⟩
  ·cases h
 ·cases h
def Rv (s:List UInt8):V:=.tup [eV (EX s),iV (EW s)]
theorem p22:Ax Tryz.prog Gl 51 (P5 Rv):=by
 refine Ax.congr (AN A8 mixed Tryz.func51 (by kernel_rfl) (by kernel_rfl) (Γ:=cx5) (AI tb5_ok _)) λvs r h=>?_;obtain ⟨e,rfl,rfl⟩:=UF h;exact (Aeg e).trans (Vz e)
noncomputable def tb6:AP:=(51,P5 Rv)::tb5
theorem tb6_ok:Av Tryz.prog Gl tb6:=.cons p22 tb5_ok
noncomputable def cx6:Cx:=AC Gl tb6 []
def Z9 (f:V):List V->AR
 | []=>.leaf (f,[])
 | _=>.fail
noncomputable def tb7:AP:=tb6
theorem tb7_ok:Av Tryz.prog Gl tb7:=tb6_ok
theorem CT (a:List UInt8):seq a a=true:=by simp [seq]
theorem Bm (a:Int):ieq a a=true:=by simp [ieq]
end Go.Proofs.YtkgdhhieomndeaaGreatDoor.Ed
namespace Go.Proofs.YtkgdhhieomndeaaGreatDoor.Ed
open Go.Sy
set_option maxRecDepth 100000
theorem own:ownKnob Tryz.prog.godebug=none:=by kernel_rfl
theorem Xo:laidOutB Tryz.prog=true:=by kernel_rfl
def Ws (e:E6):List Value:=[.int .i64 e.kind,.bool e.ext,.bool e.same,.int .i64 e.src,.int .i64 e.dst,.int .i64 e.fence]
section
variable {H:Type} {enc:TypeId×Value->H} {W:World} {sp:Nat->Bool} {held:Bool} {r:Reach} {b0:Nat} {v:Value} {d:DataW H} {ps:List MemPlace}
theorem GO {c d:Value} {cs:List Value} (h:cs=[d]) (hc:[c]=cs):c=d:=by
 subst h;simpa using hc
theorem Wo (fuel:Nat) (cs:List Value) (x:DataW H×List MemPlace) (h:DataW.trod enc Tryz.prog W 0 sp held fuel 92 cs=some x):∃ e:E6,cs=Ws e:=by
 obtain ⟨xs,n,_,_,hl,hx,hf⟩:=DataW.trod_struct Tryz.underlying92 h;have hl:cs.length=6:=hl.trans (by kernel_rfl);have hx:xs.length=6:=hx;obtain ⟨c0,c1,c2,c3,c4,c5,rfl⟩:∃ a b c d e f,cs=[a,b,c,d,e,f]:=by
  match cs,hl with
  | [a,b,c,d,e,f],_=>exact ⟨a,b,c,d,e,f,rfl⟩
 have get:∀ (i:Nat) (f:Field),#[({ name := "Kind",type:=3,offset:=0,embedded:=false,tag := "",pkgPath := "",byteOffset:=0 }:Field),
    { name := "Ext",type:=4,offset:=1,embedded:=false,tag := "",pkgPath := "",byteOffset:=8 },
    { name := "Same",type:=4,offset:=2,embedded:=false,tag := "",pkgPath := "",byteOffset:=9 },
    { name := "Src",type:=3,offset:=3,embedded:=false,tag := "",pkgPath := "",byteOffset:=16 },
    { name := "Dst",type:=3,offset:=4,embedded:=false,tag := "",pkgPath := "",byteOffset:=24 },
    { name := "Fence",type:=3,offset:=5,embedded:=false,tag := "",pkgPath := "",byteOffset:=32 }][i]? = some f->i<6 ->
   ∃ y,DataW.trod enc Tryz.prog W 0 sp held n f.type (([c0,c1,c2,c3,c4,c5].drop f.offset).take (Tryz.prog.cellsOf f.type))=some y:=by
  intro i f hi hlt;have:=hf i f hi;rw [List.getElem?_eq_getElem (by omega)] at this;exact ⟨_,this⟩
 have n3:Tryz.prog.cellsOf 3=1:=by kernel_rfl
 have n4:Tryz.prog.cellsOf 4=1:=by kernel_rfl
 obtain ⟨y0,g0⟩:=get 0 _ rfl (by omega);obtain ⟨y1,g1⟩:=get 1 _ rfl (by omega);obtain ⟨y2,g2⟩:=get 2 _ rfl (by omega);obtain ⟨y3,g3⟩:=get 3 _ rfl (by omega);obtain ⟨y4,g4⟩:=get 4 _ rfl (by omega);obtain ⟨y5,g5⟩:=get 5 _ rfl (by omega);have g0:DataW.trod enc Tryz.prog W 0 sp held n 3 (([c0,c1,c2,c3,c4,c5].drop 0).take (Tryz.prog.cellsOf 3))=some y0:=g0;rw [n3] at g0;have g1:DataW.trod enc Tryz.prog W 0 sp held n 4 (([c0,c1,c2,c3,c4,c5].drop 1).take (Tryz.prog.cellsOf 4))=some y1:=g1;rw [n4] at g1;have g2:DataW.trod enc Tryz.prog W 0 sp held n 4 (([c0,c1,c2,c3,c4,c5].drop 2).take (Tryz.prog.cellsOf 4))=some y2:=g2;rw [n4] at g2;have g3:DataW.trod enc Tryz.prog W 0 sp held n 3 (([c0,c1,c2,c3,c4,c5].drop 3).take (Tryz.prog.cellsOf 3))=some y3:=g3;rw [n3] at g3;have g4:DataW.trod enc Tryz.prog W 0 sp held n 3 (([c0,c1,c2,c3,c4,c5].drop 4).take (Tryz.prog.cellsOf 3))=some y4:=g4;rw [n3] at g4;have g5:DataW.trod enc Tryz.prog W 0 sp held n 3 (([c0,c1,c2,c3,c4,c5].drop 5).take (Tryz.prog.cellsOf 3))=some y5:=g5;rw [n3] at g5;obtain ⟨a0,e0,_⟩:=DataW.trod_int Tryz.underlying3 g0;obtain ⟨a1,e1,_⟩:=DataW.trod_bool Tryz.underlying4 g1;obtain ⟨a2,e2,_⟩:=DataW.trod_bool Tryz.underlying4 g2;obtain ⟨a3,e3,_⟩:=DataW.trod_int Tryz.underlying3 g3;obtain ⟨a4,e4,_⟩:=DataW.trod_int Tryz.underlying3 g4;obtain ⟨a5,e5,_⟩:=DataW.trod_int Tryz.underlying3 g5;have e0:c0 = .int .i64 a0:=GO e0 rfl;have e1:c1 = .bool a1:=GO e1 rfl;have e2:c2 = .bool a2:=GO e2 rfl;have e3:c3 = .int .i64 a3:=GO e3 rfl;have e4:c4 = .int .i64 a4:=GO e4 rfl;have e5:c5 = .int .i64 a5:=GO e5 rfl;exact ⟨⟨a0,a1,a2,a3,a4,a5⟩,by rw [e0,e1,e2,e3,e4,e5]; rfl⟩
theorem Afz (S:Nat->Prop) (w:World) (κ:A2) (e:E6):VR S w (eV e) κ (.agg (Ws e).toArray) :=
 ⟨_,rfl,_,_,rfl,rfl,_,_,rfl,rfl,_,_,rfl,rfl,_,_,rfl,rfl,_,_,rfl,rfl,_,_,rfl,rfl,rfl⟩
def AgM (W:World) (v:Value) (u:V):Prop:=VR (MP W) W u noK v
theorem Vt (hval:Value.okWide Tryz.prog W r b0 9 v) (h:DataW.Trod enc Tryz.prog W 0 sp held 9 v d ps):∃ s:List UInt8,AgM W v (.str s)∧s.length <= maxLen∧d = .lit (.string s):=by
 obtain ⟨s,rfl,hd,_,hs⟩:=ChangeMaps.open_string Tryz.underlying9 hval h;exact ⟨s.data.toList,rfl,hs,hd⟩
instance:Inhabited E6:=⟨E8⟩
end
noncomputable def LN (os:Os):World :=
 { World.holding Tryz.prog os ⟨#[],#[],[]⟩ with heap:=(World.holding Tryz.prog os ⟨#[],#[],[]⟩).heap.mapIdx λi o=>match o with
   | .cells cs t frozen=>.cells (match i with
    | 0=>(Sa.map λz=>Value.string ⟨z.toArray⟩).toArray
    | 1=>(XM.map λz=>Value.string ⟨z.toArray⟩).toArray
    | 2=>(WJ.map λz=>Value.string ⟨z.toArray⟩).toArray
    | 3=>(XD.map λz=>Value.string ⟨z.toArray⟩).toArray
    | _=>cs) t frozen
   | o=>o }
end Go.Proofs.YtkgdhhieomndeaaGreatDoor.Ed
namespace Go.Proofs.YtkgdhhieomndeaaGreatDoor.Ed
open Go.Sy
set_option maxRecDepth 100000
theorem AoT {W:World} (hL:laidMetH Tryz.prog Rows.emitxTestsRow.laid W):Sv Gl (MP W) W:=by
 have hL:laidMet Tryz.prog [("alembic/edge.comms",.agg (Sa.map λz=>.lit (.string z))),("alembic/edge.ends",.agg (XD.map λz=>.lit (.string z))),("alembic/edge.sets",.agg (WJ.map λz=>.lit (.string z))),("alembic/edge.deps",.agg (XM.map λz=>.lit (.string z)))] W:=hL;obtain ⟨ps,hv,_,_⟩:=hL;obtain ⟨h0,q0,hv⟩:=Kd (g:=0) (t:=146) (e:=9) (n:=6) (by kernel_rfl) (by kernel_rfl) (by kernel_rfl) (by kernel_rfl) (by kernel_rfl) (by kernel_rfl) hv;obtain ⟨h3,q3,hv⟩:=Kd (g:=3) (t:=149) (e:=9) (n:=4) (by kernel_rfl) (by kernel_rfl) (by kernel_rfl) (by kernel_rfl) (by kernel_rfl) (by kernel_rfl) hv;obtain ⟨h2,q2,hv⟩:=Kd (g:=2) (t:=148) (e:=9) (n:=9) (by kernel_rfl) (by kernel_rfl) (by kernel_rfl) (by kernel_rfl) (by kernel_rfl) (by kernel_rfl) hv;obtain ⟨h1,q1,hv⟩:=Kd (g:=1) (t:=147) (e:=9) (n:=10) (by kernel_rfl) (by kernel_rfl) (by kernel_rfl) (by kernel_rfl) (by kernel_rfl) (by kernel_rfl) hv;intro g
 match g with
 | 0=>exact h0
 | 1=>exact h1
 | 2=>exact h2
 | 3=>exact h3
 | n+4=>trivial
end Go.Proofs.YtkgdhhieomndeaaGreatDoor.Ed
