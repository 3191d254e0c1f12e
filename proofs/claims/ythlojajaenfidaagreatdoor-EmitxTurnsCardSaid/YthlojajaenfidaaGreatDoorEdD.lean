/-
  Callees that write a row of the caller's, and callees that append to it: what the caller's own memory is behind them. Conditions: as before.
-/
import Derived.Test.YthlojajaenfidaaGreatDoorSyS
import Derived.ChangeSame
import Derived.Test.YthlojajaenfidaaGreatDoorSyA
import Derived.Test.YthlojajaenfidaaGreatDoorProg
import Derived.KernelRfl
import Derived.Test.YthlojajaenfidaaGreatDoorRows
namespace Go.Sy
def AeX (P:Program) (G:Nat->V) (f:FuncId) (M:List V->List Blk->T (V × List Blk)):Prop :=
 ∀ vs cs κ S h w v h',Good κ S h w->RO G S w->VRs S w vs κ cs->(M vs h).sem = some (v,h') ->
  Lr P f cs w λe w'=>∃ c κ' S',e = .returned c ∧ Good κ' S' (after h h') w' ∧ VR S' w' v κ' c ∧ Ext κ S h w κ' S' (after h h') w' ∧ ∀ id c,κ id = some c->κ' id = some c
def OR (P:Program) (G:Nat->V) (mt:List (Nat × (List V->List Blk->T (V × List Blk)))):Prop:=∀ p,p ∈ mt->AeX P G p.1 p.2
theorem OR.nil {P:Program} {G:Nat->V}:OR P G []:=λ_ h=>by cases h
theorem OR.cons {P:Program} {G:Nat->V} {f:Nat} {M:List V->List Blk->T (V × List Blk)} {mt:List (Nat × (List V->List Blk->T (V × List Blk)))} (h:AeX P G f M) (ht:OR P G mt):OR P G ((f,M) :: mt):=λp hp=>by
 rcases List.mem_cons.1 hp with rfl | hp
 ·exact h
 ·exact ht p hp
section
variable {S:Nat->Prop} {w w':World} {κ:Nat->Option Value} {h:List Blk}
def AhZ (κ:Nat->Option Value) (id:Nat):Nat->Option Value:=λi=>if i = 0 then κ id else none
theorem QW {lk:Bool} {id e s n:Nat} {g g':Nat->V} (hh:h[id]? = some (.row e s n g)) (i b:Nat):AM (AhZ κ id) [.xrow lk e s n g'] i b ↔ i = 0 ∧ AM κ h id b:=by
 rw [AC hh]
 constructor
 ·rintro ⟨bl,h1,h2⟩
  cases i with
  | zero =>
   simp at h1
   subst h1
   exact ⟨rfl,h2⟩
  | succ i=>simp at h1
 ·rintro ⟨rfl,h1⟩
  exact ⟨_,rfl,h1⟩
theorem Good.one {lk:Bool} {id e s n:Nat} {g g0:Nat->V} (hg:Good κ S h w) (hh:h[id]? = some (.row e s n g)) (h0:∀ i,i < n->g0 i = g i):Good (AhZ κ id) S [.xrow lk e s n g0] w:=by
 refine ⟨λi b hi=>?_,λi j k hij hi hj=>?_,λb hb=>⟨(hg.out b hb).1,λi hi=>?_⟩,λi hi=>?_⟩
 ·cases i with
  | zero =>
   simp at hi
   subst hi
   obtain ⟨r0,cc,xs,r1,r2,r3⟩:=hg.blk id _ hh
   exact ⟨r0,cc,xs,r1,r2,λi hi=>by rw [h0 i hi]; exact r3 i hi⟩
  | succ i=>simp at hi
 ·have h1:=((QW hh i k).1 hi).1
  have h2:=((QW hh j k).1 hj).1
  omega
 ·exact (hg.out b hb).2 id ((QW hh i b).1 hi).2
 ·have hi:1 <= i:=hi
  unfold AhZ
  rw [if_neg (by omega)]
end
section
variable {S:Nat->Prop} {w w':World} {κ:Nat->Option Value} {h:List Blk} {id i:Nat} {j:Jag} {c m:Value} {ms:Array Value}
end
section
variable {P:Program} {τ:List Ty} (hτ:TabOK P τ) (hm:P.follows .mixedOrders = true) {G:Nat->V} {f:FuncId} {fn:Func} {e s:Nat}
include hτ hm in
include hτ hm in
end
end Go.Sy
namespace Go.Sy
end Go.Sy
namespace Go.Sy
open Go.Proofs
set_option maxRecDepth 100000
def tab:List Ty:=[
 ⟨.other,1,0,.und,false⟩,
 ⟨.other,1,8,.val (.nilFunc),false⟩,
 ⟨.int .i64,1,8,.val (.int .i64 0),false⟩,
 ⟨.int .i64,1,8,.val (.int .i64 0),false⟩,
 ⟨.bool,1,1,.val (.bool false),false⟩,
 ⟨.int .u8,1,1,.val (.int .u8 0),false⟩,
 ⟨.int .u8,1,1,.val (.int .u8 0),false⟩,
 ⟨.st [(0,2),(1,3),(2,4),(3,6)],4,24,.agg [.val (.int .i64 0),.val (.int .i64 0),.val (.bool false),.val (.int .u8 0)],true⟩,
 ⟨.st [(0,2),(1,3),(2,4),(3,6)],4,24,.agg [.val (.int .i64 0),.val (.int .i64 0),.val (.bool false),.val (.int .u8 0)],true⟩,
 ⟨.str,1,16,.str [],false⟩,
 ⟨.str,1,16,.str [],false⟩,
 ⟨.str,1,16,.str [],false⟩,
 ⟨.int .u64,1,8,.val (.int .u64 0),false⟩,
 ⟨.st [(0,9),(1,12)],2,24,.agg [.str [],.val (.int .u64 0)],false⟩,
 ⟨.st [(0,9),(1,12)],2,24,.agg [.str [],.val (.int .u64 0)],false⟩,
 ⟨.other,1,8,.val (.pointer none),false⟩,
 ⟨.other,1,8,.val (.pointer none),false⟩,
 ⟨.other,1,8,.val (.pointer none),false⟩,
 ⟨.st [(0,17)],1,8,.agg [.val (.pointer none)],false⟩,
 ⟨.st [(0,17)],1,8,.agg [.val (.pointer none)],false⟩,
 ⟨.other,1,16,.val (.nilIface),false⟩,
 ⟨.int .i32,1,4,.val (.int .i32 0),false⟩,
 ⟨.sl 57,1,24,.nilS,false⟩,
 ⟨.sl 61,1,24,.nilS,false⟩,
 ⟨.sl 3,1,24,.nilS,false⟩,
 ⟨.sl 24,1,24,.nilS,false⟩,
 ⟨.st [(0,3),(1,22),(2,23),(3,3),(4,3),(5,24),(6,25)],7,120,.agg [.val (.int .i64 0),.nilS,.nilS,.val (.int .i64 0),.val (.int .i64 0),.nilS,.nilS],false⟩,
 ⟨.st [(0,3),(1,22),(2,23),(3,3),(4,3),(5,24),(6,25)],7,120,.agg [.val (.int .i64 0),.nilS,.nilS,.val (.int .i64 0),.val (.int .i64 0),.nilS,.nilS],false⟩,
 ⟨.int .i64,1,8,.val (.int .i64 0),false⟩,
 ⟨.other,1,0,.und,false⟩,
 ⟨.other,1,8,.val (.nilFunc),false⟩,
 ⟨.other,1,8,.val (.nilFunc),false⟩,
 ⟨.sl 74,1,24,.nilS,false⟩,
 ⟨.sl 79,1,24,.nilS,false⟩,
 ⟨.st [(0,3),(1,3),(2,9)],3,32,.agg [.val (.int .i64 0),.val (.int .i64 0),.str []],true⟩,
 ⟨.st [(0,3),(1,3),(2,9)],3,32,.agg [.val (.int .i64 0),.val (.int .i64 0),.str []],true⟩,
 ⟨.sl 38,1,24,.nilS,false⟩,
 ⟨.st [(0,3),(1,35),(4,3),(5,36)],6,72,.agg [.val (.int .i64 0),.val (.int .i64 0),.val (.int .i64 0),.str [],.val (.int .i64 0),.nilS],false⟩,
 ⟨.st [(0,3),(1,35),(4,3),(5,36)],6,72,.agg [.val (.int .i64 0),.val (.int .i64 0),.val (.int .i64 0),.str [],.val (.int .i64 0),.nilS],false⟩,
 ⟨.st [(0,3),(1,38)],7,80,.agg [.val (.int .i64 0),.val (.int .i64 0),.val (.int .i64 0),.val (.int .i64 0),.str [],.val (.int .i64 0),.nilS],false⟩,
 ⟨.st [(0,3),(1,38)],7,80,.agg [.val (.int .i64 0),.val (.int .i64 0),.val (.int .i64 0),.val (.int .i64 0),.str [],.val (.int .i64 0),.nilS],false⟩,
 ⟨.st [(0,3),(1,9),(2,9),(3,32),(4,33),(5,40)],12,168,.agg [.val (.int .i64 0),.str [],.str [],.nilS,.nilS,.val (.int .i64 0),.val (.int .i64 0),.val (.int .i64 0),.val (.int .i64 0),.str [],.val (.int .i64 0),.nilS],false⟩,
 ⟨.st [(0,3),(1,9),(2,9),(3,32),(4,33),(5,40)],12,168,.agg [.val (.int .i64 0),.str [],.str [],.nilS,.nilS,.val (.int .i64 0),.val (.int .i64 0),.val (.int .i64 0),.val (.int .i64 0),.str [],.val (.int .i64 0),.nilS],false⟩,
 ⟨.other,1,0,.und,false⟩,
 ⟨.other,1,8,.val (.nilFunc),false⟩,
 ⟨.other,1,0,.und,false⟩,
 ⟨.other,1,8,.val (.nilFunc),false⟩,
 ⟨.other,1,8,.val (.nilFunc),false⟩,
 ⟨.other,1,8,.val (.nilFunc),false⟩,
 ⟨.other,1,8,.val (.nilFunc),false⟩,
 ⟨.other,1,8,.val (.nilFunc),false⟩,
 ⟨.other,1,0,.und,false⟩,
 ⟨.other,1,8,.val (.nilFunc),false⟩,
 ⟨.other,1,0,.und,false⟩,
 ⟨.other,1,8,.val (.nilFunc),false⟩,
 ⟨.other,1,8,.val (.nilFunc),false⟩,
 ⟨.st [(0,3),(1,4),(2,4),(3,3),(4,3),(5,3)],6,40,.agg [.val (.int .i64 0),.val (.bool false),.val (.bool false),.val (.int .i64 0),.val (.int .i64 0),.val (.int .i64 0)],true⟩,
 ⟨.st [(0,3),(1,4),(2,4),(3,3),(4,3),(5,3)],6,40,.agg [.val (.int .i64 0),.val (.bool false),.val (.bool false),.val (.int .i64 0),.val (.int .i64 0),.val (.int .i64 0)],true⟩,
 ⟨.other,1,8,.val (.nilFunc),false⟩,
 ⟨.imap 3,1,8,.val (.map none),false⟩,
 ⟨.st [(0,3),(1,3),(2,3),(3,3),(4,3)],5,40,.agg [.val (.int .i64 0),.val (.int .i64 0),.val (.int .i64 0),.val (.int .i64 0),.val (.int .i64 0)],true⟩,
 ⟨.st [(0,3),(1,3),(2,3),(3,3),(4,3)],5,40,.agg [.val (.int .i64 0),.val (.int .i64 0),.val (.int .i64 0),.val (.int .i64 0),.val (.int .i64 0)],true⟩,
 ⟨.other,1,8,.val (.nilFunc),false⟩,
 ⟨.other,1,8,.val (.pointer none),false⟩,
 ⟨.other,1,8,.val (.nilFunc),false⟩,
 ⟨.other,1,0,.und,false⟩,
 ⟨.other,1,8,.val (.nilFunc),false⟩,
 ⟨.other,1,0,.und,false⟩,
 ⟨.other,1,8,.val (.nilFunc),false⟩,
 ⟨.other,1,8,.val (.nilFunc),false⟩,
 ⟨.other,1,8,.val (.nilFunc),false⟩,
 ⟨.st [(0,9),(1,3)],2,24,.agg [.str [],.val (.int .i64 0)],true⟩,
 ⟨.st [(0,9),(1,3)],2,24,.agg [.str [],.val (.int .i64 0)],true⟩,
 ⟨.st [(0,3),(1,3),(2,9),(3,72)],5,56,.agg [.val (.int .i64 0),.val (.int .i64 0),.str [],.str [],.val (.int .i64 0)],true⟩,
 ⟨.st [(0,3),(1,3),(2,9),(3,72)],5,56,.agg [.val (.int .i64 0),.val (.int .i64 0),.str [],.str [],.val (.int .i64 0)],true⟩,
 ⟨.other,1,0,.und,false⟩,
 ⟨.other,1,8,.val (.nilFunc),false⟩,
 ⟨.other,1,0,.und,false⟩,
 ⟨.other,1,8,.val (.nilFunc),false⟩,
 ⟨.sl 81,1,24,.nilS,false⟩,
 ⟨.st [(0,3),(1,3),(2,3),(3,3),(4,3),(5,9),(6,9),(7,3)],8,80,.agg [.val (.int .i64 0),.val (.int .i64 0),.val (.int .i64 0),.val (.int .i64 0),.val (.int .i64 0),.str [],.str [],.val (.int .i64 0)],true⟩,
 ⟨.st [(0,3),(1,3),(2,3),(3,3),(4,3),(5,9),(6,9),(7,3)],8,80,.agg [.val (.int .i64 0),.val (.int .i64 0),.val (.int .i64 0),.val (.int .i64 0),.val (.int .i64 0),.str [],.str [],.val (.int .i64 0)],true⟩,
 ⟨.other,1,8,.val (.nilFunc),false⟩,
 ⟨.other,1,8,.val (.nilFunc),false⟩,
 ⟨.other,1,8,.val (.nilFunc),false⟩,
 ⟨.other,1,8,.val (.nilFunc),false⟩,
 ⟨.other,1,0,.und,false⟩,
 ⟨.other,1,8,.val (.nilFunc),false⟩,
 ⟨.other,1,0,.und,false⟩,
 ⟨.other,1,8,.val (.nilFunc),false⟩,
 ⟨.other,1,8,.val (.nilFunc),false⟩,
 ⟨.other,1,8,.val (.nilFunc),false⟩,
 ⟨.sl 96,1,24,.nilS,false⟩,
 ⟨.st [(0,79)],1,24,.agg [.nilS],false⟩,
 ⟨.st [(0,79)],1,24,.agg [.nilS],false⟩,
 ⟨.st [(0,94),(1,3)],2,32,.agg [.nilS,.val (.int .i64 0)],false⟩,
 ⟨.st [(0,94),(1,3)],2,32,.agg [.nilS,.val (.int .i64 0)],false⟩,
 ⟨.other,1,8,.val (.nilFunc),false⟩,
 ⟨.sl 9,1,24,.nilS,false⟩,
 ⟨.other,1,8,.val (.nilFunc),false⟩,
 ⟨.other,1,8,.val (.nilFunc),false⟩,
 ⟨.sl 35,1,24,.nilS,false⟩,
 ⟨.other,1,8,.val (.nilFunc),false⟩,
 ⟨.other,1,0,.und,false⟩,
 ⟨.other,1,8,.val (.nilFunc),false⟩,
 ⟨.other,1,8,.val (.nilFunc),false⟩,
 ⟨.other,1,8,.val (.nilFunc),false⟩,
 ⟨.other,1,8,.val (.nilFunc),false⟩,
 ⟨.other,1,0,.und,false⟩,
 ⟨.other,1,8,.val (.nilFunc),false⟩,
 ⟨.other,1,0,.und,false⟩,
 ⟨.other,1,8,.val (.nilFunc),false⟩,
 ⟨.other,1,0,.und,false⟩,
 ⟨.other,1,8,.val (.nilFunc),false⟩,
 ⟨.other,1,8,.val (.nilFunc),false⟩,
 ⟨.other,1,8,.val (.pointer none),false⟩,
 ⟨.other,1,8,.val (.nilFunc),false⟩,
 ⟨.other,1,8,.val (.nilFunc),false⟩,
 ⟨.other,1,8,.val (.pointer none),false⟩,
 ⟨.sl 5,1,24,.nilS,false⟩,
 ⟨.st [(0,118),(1,119)],2,32,.agg [.val (.pointer none),.nilS],false⟩,
 ⟨.st [(0,118),(1,119)],2,32,.agg [.val (.pointer none),.nilS],false⟩,
 ⟨.other,1,8,.val (.nilFunc),false⟩,
 ⟨.other,1,16,.val (.nilIface),false⟩,
 ⟨.other,1,16,.val (.nilIface),false⟩,
 ⟨.other,1,0,.und,false⟩,
 ⟨.other,1,8,.val (.nilFunc),false⟩,
 ⟨.other,1,8,.val (.nilFunc),false⟩,
 ⟨.other,1,8,.val (.nilFunc),false⟩,
 ⟨.other,1,8,.val (.nilFunc),false⟩,
 ⟨.other,1,8,.val (.nilFunc),false⟩,
 ⟨.other,1,8,.val (.nilFunc),false⟩,
 ⟨.other,1,8,.val (.nilFunc),false⟩,
 ⟨.other,1,8,.val (.nilFunc),false⟩,
 ⟨.other,1,8,.val (.nilFunc),false⟩,
 ⟨.other,1,8,.val (.nilFunc),false⟩,
 ⟨.other,1,8,.val (.nilFunc),false⟩,
 ⟨.other,1,8,.val (.nilFunc),false⟩,
 ⟨.other,1,8,.val (.nilFunc),false⟩,
 ⟨.other,1,8,.val (.nilFunc),false⟩,
 ⟨.other,1,8,.val (.nilFunc),false⟩,
 ⟨.other,1,8,.val (.pointer none),false⟩,
 ⟨.arr 6 9,6,96,.agg [.str [],.str [],.str [],.str [],.str [],.str []],true⟩,
 ⟨.arr 10 9,10,160,.agg [.str [],.str [],.str [],.str [],.str [],.str [],.str [],.str [],.str [],.str []],true⟩,
 ⟨.arr 9 9,9,144,.agg [.str [],.str [],.str [],.str [],.str [],.str [],.str [],.str [],.str []],true⟩,
 ⟨.arr 4 9,4,64,.agg [.str [],.str [],.str [],.str []],true⟩,
 ⟨.other,1,8,.val (.pointer none),false⟩,
 ⟨.other,1,8,.val (.nilFunc),false⟩,
 ⟨.other,1,8,.val (.nilFunc),false⟩,
 ⟨.sl 4,1,24,.nilS,false⟩,
 ⟨.other,1,8,.val (.nilFunc),false⟩,
 ⟨.other,1,0,.und,false⟩,
 ⟨.other,1,8,.val (.nilFunc),false⟩,
 ⟨.other,1,8,.val (.nilFunc),false⟩,
 ⟨.other,1,8,.val (.nilFunc),false⟩,
 ⟨.other,1,8,.val (.pointer none),false⟩,
 ⟨.other,1,8,.val (.nilFunc),false⟩,
 ⟨.other,1,8,.val (.nilFunc),false⟩,
 ⟨.other,1,8,.val (.nilFunc),false⟩,
 ⟨.st [(0,17),(1,17),(2,17),(3,9)],4,40,.agg [.val (.pointer none),.val (.pointer none),.val (.pointer none),.str []],false⟩,
 ⟨.st [(0,17),(1,17),(2,17),(3,9)],4,40,.agg [.val (.pointer none),.val (.pointer none),.val (.pointer none),.str []],false⟩,
 ⟨.arr 0 16,0,0,.agg [],false⟩,
 ⟨.st [(0,161)],0,0,.agg [],false⟩,
 ⟨.st [(0,161)],0,0,.agg [],false⟩,
 ⟨.other,1,8,.val (.nilFunc),false⟩,
 ⟨.int .u32,1,4,.val (.int .u32 0),false⟩,
 ⟨.int .u8,1,1,.val (.int .u8 0),false⟩,
 ⟨.int .u8,1,1,.val (.int .u8 0),false⟩,
 ⟨.other,1,8,.val (.nilFunc),false⟩,
 ⟨.int .i32,1,4,.val (.int .i32 0),false⟩,
 ⟨.int .i32,1,4,.val (.int .i32 0),false⟩,
 ⟨.st [(0,12),(1,12),(2,165),(3,166),(4,5),(5,5),(6,167),(7,168),(8,146),(9,169),(10,170)],11,48,.agg [.val (.int .u64 0),.val (.int .u64 0),.val (.int .u32 0),.val (.int .u8 0),.val (.int .u8 0),.val (.int .u8 0),.val (.int .u8 0),.val (.nilFunc),.val (.pointer none),.val (.int .i32 0),.val (.int .i32 0)],false⟩,
 ⟨.st [(0,12),(1,12),(2,165),(3,166),(4,5),(5,5),(6,167),(7,168),(8,146),(9,169),(10,170)],11,48,.agg [.val (.int .u64 0),.val (.int .u64 0),.val (.int .u32 0),.val (.int .u8 0),.val (.int .u8 0),.val (.int .u8 0),.val (.int .u8 0),.val (.nilFunc),.val (.pointer none),.val (.int .i32 0),.val (.int .i32 0)],false⟩]
def QL (P:Program):Nat->Nat->List (Option Ty)
 | 0,_=>[]
 | n+1,k=>YQ P k :: QL P n (Nat.succ k)
def Wj:List Ty->List (Option Ty)
 | []=>[]
 | t :: l=>some t :: Wj l
theorem Agj:QL Tryz.prog 173 0 = Wj tab:=by kernel_rfl
theorem Sz (P:Program):∀ (n k j:Nat),j < n->(QL P n k)[j]? = some (YQ P (k+j))
 | 0,_,_,h=>absurd h (Nat.not_lt_zero _)
 | n+1,k,0,_=>rfl
 | n+1,k,j+1,h=>by
  have:=Sz P n (Nat.succ k) j (Nat.lt_of_succ_lt_succ h)
  simp only [QL,List.getElem?_cons_succ,this]
  rw [show Nat.succ k+j = k+(j+1) by omega]
theorem Pt:∀ (l:List Ty) (j:Nat) (t:Ty),l[j]? = some t->(Wj l)[j]? = some (some t) ∧ j < l.length
 | [],_,_,h=>by simp at h
 | a :: l,0,t,h=>by simp at h; subst h; exact ⟨rfl,by simp⟩
 | a :: l,j+1,t,h=>by
  have:=Pt l j t (by simpa using h)
  exact ⟨by simpa [Wj] using this.1,by simp; exact this.2⟩
theorem Ac9:tab.length = 173:=by kernel_rfl
theorem Agi (j:Nat) (t:Ty) (h:tab[j]? = some t):YQ Tryz.prog j = some t:=by
 obtain ⟨h1,h2⟩:=Pt tab j t h
 rw [Ac9] at h2
 rw [<- Agj,Sz _ _ _ _ h2] at h1
 simpa using h1
end Go.Sy
namespace Go.Proofs.YthlojajaenfidaaGreatDoor.Ed
open Go.Sy
def R9:List (List UInt8):=[[82,102,101],[82,102,105],[70,114,101],[70,114,105],[67,111,101],[67,111,105]]
def Xd:List (List UInt8):=[[82,82],[82,87],[87,82],[87,87]]
def Wk:List (List UInt8):=[[114,46,114],[114,46,119],[114,46,114,119],[119,46,114],[119,46,119],[119,46,114,119],[114,119,46,114],[114,119,46,119],[114,119,46,114,119]]
def Xn:List (List UInt8):=[[68,112,65,100,100,114,100,82],[68,112,65,100,100,114,100,87],[68,112,65,100,100,114,115,82],[68,112,65,100,100,114,115,87],[68,112,68,97,116,97,100,87],
 [68,112,68,97,116,97,115,87],[68,112,67,116,114,108,100,82],[68,112,67,116,114,108,100,87],[68,112,67,116,114,108,115,82],[68,112,67,116,114,108,115,87]]
def Gl:Nat->V:=Alv [(0,Ng R9),(1,Ng Xn),(2,Ng Wk),(3,Ng Xd)]
theorem mixed:Tryz.prog.follows .mixedOrders = true:=by kernel_rfl
theorem AI:TabOK Tryz.prog tab:=⟨Agi,Acr⟩
end Go.Proofs.YthlojajaenfidaaGreatDoor.Ed
namespace Go.Proofs.YthlojajaenfidaaGreatDoor.Ed
open Go.Sy
structure E6 where
 kind:Int
 ext:Bool
 same:Bool
 src:Int
 dst:Int
 fence:Int
 deriving DecidableEq
def eV (e:E6):V:=.agg [iV e.kind,bV e.ext,bV e.same,iV e.src,iV e.dst,iV e.fence]
def toE:V->Option E6
 | .agg [a,b,c,d,e,f]=>match gI a,gB b,gB c,gI d,gI e,gI f with
  | some a,some b,some c,some d,some e,some f=>some ⟨a,b,c,d,e,f⟩
  | _,_,_,_,_,_=>none
 | _=>none
theorem Nf {v:V} {e:E6} (h:toE v = some e):v = eV e:=by
 unfold toE at h
 split at h
 ·split at h
  ·rename_i h1 h2 h3 h4 h5 h6
   simp only [Option.some.injEq] at h
   subst h
   rw [FS h1,Rz h2,Rz h3,FS h4,FS h5,FS h6]
   rfl
  ·cases h
 ·cases h
def eqE (a b:E6):Bool:=Al (ieq a.kind b.kind) (Al (JM a.ext b.ext) (Al (JM a.same b.same) (Al (ieq a.src b.src) (Al (ieq a.dst b.dst) (Al (ieq a.fence b.fence) true)))))
theorem IO (a b:E6):eqE a b = true ↔ a = b:=by
 cases a; cases b
 simp [eqE,Al,ieq,JM]
theorem Abg (a b:E6):eqE a b = eqE b a:=by
 rw [Bool.eq_iff_iff,IO,IO]
 exact eq_comm
def Dl (c:Nat):E6 :=
 if c < 6 then ⟨c / 2+1,c % 2 == 0,false,if c / 2 == 1 then 1 else 2,if c / 2 == 0 then 1 else 2,0⟩
 else if c < 102 then ⟨if (c - 6) / 8 == 0 then 4 else 5,false,decide (4 <= (c - 6) % 8),1+((c - 6) % 4 / 2:Nat),1+((c - 6) % 2:Nat),((c - 6) / 8:Nat)⟩
 else if c < 106 then ⟨6,false,decide (2 <= c - 102),1,1+((c - 102) % 2:Nat),0⟩
 else if c < 108 then ⟨7,false,c - 102 == 5,1,2,0⟩
 else ⟨8,false,decide (8 <= c - 102),1,1+((c - 102) % 2:Nat),0⟩
def Ft:E6:=⟨0,false,false,0,0,0⟩
def inR (n:Int):Bool:=decide (0 <= n) && decide (n < 112)
theorem Td {n:Int} (h:inR n = true):∃ k:Nat,n = (k:Int) ∧ k < 112:=by
 simp [inR] at h
 exact ⟨n.toNat,by omega,by omega⟩
theorem AaN {n:Int} (h:inR n = false):n < 0 ∨ 0 <= n ∧ 112 <= n:=by
 simp [inR] at h
 omega
def cx0:Cx:=AN Gl [] []
noncomputable def AlD:List V->T (V × List Blk):=λvs=>Au (Ah tab cx0 Tryz.f79 vs [])
theorem AmO:A6 Tryz.prog Gl 79 AlD:=AL AI mixed Tryz.func79 (by kernel_rfl) (by kernel_rfl) (AK A8.nil _)
noncomputable def AiH:List V->T (V × List Blk):=λvs=>Au (Ah tab cx0 Tryz.f59 vs [])
theorem AmP:A6 Tryz.prog Gl 59 AiH:=AL AI mixed Tryz.func59 (by kernel_rfl) (by kernel_rfl) (AK A8.nil _)
noncomputable def AeY:List V->T (V × List Blk):=λvs=>Au (Ah tab cx0 Tryz.f94 vs [])
theorem p74:A6 Tryz.prog Gl 94 AeY:=AL AI mixed Tryz.func94 (by kernel_rfl) (by kernel_rfl) (AK A8.nil _)
noncomputable def AbZ:List V->T (V × List Blk):=λvs=>Au (Ah tab cx0 Tryz.f95 vs [])
theorem p75:A6 Tryz.prog Gl 95 AbZ:=AL AI mixed Tryz.func95 (by kernel_rfl) (by kernel_rfl) (AK A8.nil _)
noncomputable def AlE:List V->T (V × List Blk):=λvs=>Au (Ah tab cx0 Tryz.f96 vs [])
theorem p76:A6 Tryz.prog Gl 96 AlE:=AL AI mixed Tryz.func96 (by kernel_rfl) (by kernel_rfl) (AK A8.nil _)
noncomputable def tb0:List (Nat × (List V->T (V × List Blk))):=(94,AeY) :: (95,AbZ) :: (96,AlE) :: []
theorem Dn:A8 Tryz.prog Gl tb0:=.cons p74 <| .cons p75 <| .cons p76 .nil
noncomputable def Ai5:Cx:=AN Gl tb0 []
def HT (c:Nat):List UInt8 :=
 if c < 6 then R9.getD c []
 else if 102 <= c then Xn.getD (c - 102) []
 else (if (c - 6) / 8 = 0 then [80,111] else if (c - 6) / 8 = 1 then [77,70,101,110,99,101] else if (c - 6) / 8 = 2 then [70,101,110,99,101,46,116,115,111]
  else [70,101,110,99,101,46] ++ Wk.getD ((c - 6) / 8 - 3) []) ++ ((if 4 <= (c - 6) % 8 then [115] else [100]) ++ Xd.getD ((c - 6) % 4) [])
end Go.Proofs.YthlojajaenfidaaGreatDoor.Ed
namespace Go.Proofs.YthlojajaenfidaaGreatDoor.Ed
open Go.Sy
theorem Aii:(List.range 112).map (λk:Nat=>(Au (Ah tab cx0 Tryz.f79 [nV k] [])).sem) = (List.range 112).map λk=>some (eV (Dl k),[]):=by kernel_rfl
theorem Adh:(List.range 112).map (λk:Nat=>(Au (Ah tab cx0 Tryz.f59 [nV k] [])).sem) = (List.range 112).map λk=>some (.str (HT k),[]):=by kernel_rfl
theorem Anc:(List.range 112).map (λk:Nat=>(Au (Ah tab Ai5 Tryz.f75 [nV k] [])).sem) = (List.range 112).map λk=>some (.tup [eV (Dl k),iV 0],[]):=by kernel_rfl
theorem Alc (n:Int):(Au (Ah tab Ai5 Tryz.f75 [iV n] [])).path [true,true,true,true] = some ([ilt n 0,ilt n 0,ilt n 0,true],(.tup [eV Ft,iV 30],[])):=by kernel_rfl
theorem Alb (n:Int):(Au (Ah tab Ai5 Tryz.f75 [iV n] [])).path [false,false,false,true] = some ([ilt n 0,ilt n 0,ilt n 0,ile 112 n],(.tup [eV Ft,iV 30],[])):=by kernel_rfl
end Go.Proofs.YthlojajaenfidaaGreatDoor.Ed
namespace Go.Proofs.YthlojajaenfidaaGreatDoor.Ed
open Go.Sy
def Qc (f:Nat->V):List V->T (V × List Blk)
 | [v]=>match gI v with
  | some n=>.br (inR n) (.leaf (f n.toNat,[])) .fail
  | none=>.fail
 | _=>.fail
theorem O9 {f:Nat->V} {vs:List V} {r:V × List Blk} (h:(Qc f vs).sem = some r):∃ k:Nat,k < 112 ∧ vs = [nV k] ∧ r = (f k,[]):=by
 unfold Qc at h
 split at h
 ·split at h
  ·rename_i v n hn
   obtain ⟨h1,h2⟩:=Ad h
   obtain ⟨k,rfl,hk⟩:=Td h1
   exact ⟨k,hk,by rw [FS hn]; rfl,by rw [Ac h2]; rfl⟩
  ·cases h
 ·cases h
theorem p71:A6 Tryz.prog Gl 79 (Qc λk=>eV (Dl k)):=by
 refine AmO.congr λvs r h=>?_
 obtain ⟨k,hk,rfl,rfl⟩:=O9 h
 exact Fs Aii k hk
theorem p70:A6 Tryz.prog Gl 59 (Qc λk=>.str (HT k)):=by
 refine AmP.congr λvs r h=>?_
 obtain ⟨k,hk,rfl,rfl⟩:=O9 h
 exact Fs Adh k hk
def ofT:List V->T (V × List Blk)
 | [v]=>match gI v with
  | some n=>.br (inR n) (.leaf (.tup [eV (Dl n.toNat),iV 0],[])) (.leaf (.tup [eV Ft,iV 30],[]))
  | none=>.fail
 | _=>.fail
theorem Aao {vs:List V} {r:V × List Blk} (h:(ofT vs).sem = some r):∃ n,vs = [iV n] ∧ ((∃ k:Nat,n = Int.ofNat k ∧ k < 112 ∧ r = (.tup [eV (Dl k),iV 0],[])) ∨ ((n < 0 ∨ 0 <= n ∧ 112 <= n) ∧ r = (.tup [eV Ft,iV 30],[]))):=by
 unfold ofT at h
 split at h
 ·split at h
  ·rename_i v n hn
   refine ⟨n,by rw [FS hn],?_⟩
   cases hi:inR n with
   | true =>
    obtain ⟨k,rfl,hk⟩:=Td hi
    simp only [T.sem,hi,sel,cond_true,Option.some.injEq] at h
    exact .inl ⟨k,rfl,hk,h.symm⟩
   | false =>
    simp only [T.sem,hi,sel,cond_false,Option.some.injEq] at h
    exact .inr ⟨AaN hi,h.symm⟩
  ·cases h
 ·cases h
theorem Adp {a b:Int} (h:a < b):ilt a b = true:=by simpa [ilt] using h
theorem Aat {a b:Int} (h:b <= a):ilt a b = false:=by simp [ilt]; omega
theorem WI {a b:Int} (h:a <= b):ile a b = true:=by simpa [ile] using h
theorem p31:A6 Tryz.prog Gl 75 ofT:=by
 refine A6.congr (AL AI mixed Tryz.func75 (by kernel_rfl) (by kernel_rfl) (AK Dn [])) λvs r h=>?_
 obtain ⟨n,rfl,⟨k,rfl,hk,rfl⟩ | ⟨hn,rfl⟩⟩:=Aao h
 ·exact Fs Anc k hk
 ·rcases hn with hn | ⟨h0,hn⟩
  ·exact AO (Alc n) (by rw [Adp hn])
  ·exact AO (Alb n) (by rw [Aat h0,WI hn])
noncomputable def tb1:List (Nat × (List V->T (V × List Blk))):=(79,Qc λk=>eV (Dl k)) :: (59,Qc λk=>.str (HT k)) :: (75,ofT) :: []
theorem Uk:A8 Tryz.prog Gl tb1:=.cons p71 <| .cons p70 <| .cons p31 .nil
noncomputable def cx1:Cx:=AN Gl tb1 [(0,⟨[],1,[],1,113⟩)]
def FV (e:E6):Nat->Nat->Option Nat
 | 0,_=>none
 | m+1,k=>match eqE (Dl k) e with
  | true=>some k
  | false=>FV e m (Nat.succ k)
def B2 (e:E6):Int:=match FV e 112 0 with
 | some k=>Int.ofNat k
 | none=>0
def AQ (e:E6):Int:=match FV e 112 0 with
 | some _=>0
 | none=>30
def OA (e:E6):Nat->Nat->Option (V × List Blk)
 | 0,_=>some (.tup [iV 0,iV 30],[])
 | m+1,k=>sel (eqE (Dl k) e) (some (.tup [nV k,iV 0],[])) (OA e m (Nat.succ k))
def RA (e:E6):Nat->Nat->Option (V × List Blk)
 | 0,_=>some (.tup [iV 0,iV 30],[])
 | m+1,k=>sel (eqE e (Dl k)) (some (.tup [nV k,iV 0],[])) (RA e m (Nat.succ k))
theorem TB (e:E6):∀ m k,OA e m k = match FV e m k with
  | some j=>some (.tup [nV j,iV 0],[])
  | none=>some (.tup [iV 0,iV 30],[])
 | 0,k=>rfl
 | m+1,k=>by
  simp only [OA,FV]
  cases h:eqE (Dl k) e with
  | true=>rfl
  | false=>exact TB e m (Nat.succ k)
theorem Qe (e:E6):∀ m k,RA e m k = OA e m k
 | 0,_=>rfl
 | m+1,k=>by
  simp only [OA,RA,Qe e m,Abg e]
theorem Qd (e:E6):OA e 112 0 = some (.tup [iV (B2 e),iV (AQ e)],[]):=by
 rw [TB]
 unfold B2 AQ
 cases FV e 112 0 <;> rfl
theorem Ai8 (e:E6):(Au (Ah tab cx1 Tryz.f56 [eV e] [])).sem = OA e 112 0:=by kernel_rfl
theorem Ai7 (e:E6):(Au (Ah tab cx1 Tryz.f88 [eV e] [])).sem = RA e 112 0:=by kernel_rfl
def BE (f:E6->V):List V->T (V × List Blk)
 | [v]=>match toE v with
  | some e=>.leaf (f e,[])
  | none=>.fail
 | _=>.fail
theorem BJ {f:E6->V} {vs:List V} {r:V × List Blk} (h:(BE f vs).sem = some r):∃ e,vs = [eV e] ∧ r = (f e,[]):=by
 unfold BE at h
 split at h
 ·split at h
  ·rename_i v e hn
   exact ⟨e,by rw [Nf hn],Ac h⟩
  ·cases h
 ·cases h
def TC (e:E6):V:=.tup [iV (B2 e),iV (AQ e)]
theorem p24:A6 Tryz.prog Gl 56 (BE TC):=by
 refine A6.congr (AL AI mixed Tryz.func56 (by kernel_rfl) (by kernel_rfl) (Γ:=cx1) (AK Uk _)) λvs r h=>?_
 obtain ⟨e,rfl,rfl⟩:=BJ h
 exact (Ai8 e).trans (Qd e)
theorem p25:A6 Tryz.prog Gl 88 (BE TC):=by
 refine A6.congr (AL AI mixed Tryz.func88 (by kernel_rfl) (by kernel_rfl) (Γ:=cx1) (AK Uk _)) λvs r h=>?_
 obtain ⟨e,rfl,rfl⟩:=BJ h
 exact (Ai7 e).trans ((Qe e 112 0).trans (Qd e))
end Go.Proofs.YthlojajaenfidaaGreatDoor.Ed
namespace Go.Proofs.YthlojajaenfidaaGreatDoor.Ed
open Go.Sy
noncomputable def tb2:List (Nat × (List V->T (V × List Blk))):=(56,BE TC) :: (88,BE TC) :: tb1
theorem Zj:A8 Tryz.prog Gl tb2:=.cons p24 <| .cons p25 Uk
noncomputable def cx2:Cx:=AN Gl tb2 []
theorem AdV (e:E6):(Au (Ah tab cx2 Tryz.f65 [eV e] [])).sem = some (iV (AQ e),[]):=by kernel_rfl
theorem p29:A6 Tryz.prog Gl 65 (BE λe=>iV (AQ e)):=by
 refine A6.congr (AL AI mixed Tryz.func65 (by kernel_rfl) (by kernel_rfl) (Γ:=cx2) (AK Zj _)) λvs r h=>?_
 obtain ⟨e,rfl,rfl⟩:=BJ h
 exact AdV e
theorem Hu (e:E6):∀ m k j,FV e m k = some j->k <= j ∧ j < k+m ∧ Dl j = e
 | 0,k,j,h=>by cases h
 | m+1,k,j,h=>by
  simp only [FV] at h
  split at h
  ·rename_i he
   simp only [Option.some.injEq] at h
   subst h
   exact ⟨Nat.le_refl _,by omega,(IO _ _).1 he⟩
  ·obtain ⟨h1,h2,h3⟩:=Hu e m _ j h
   exact ⟨by omega,by omega,h3⟩
def Dk (e:E6):List UInt8:=match FV e 112 0 with
 | some k=>HT k
 | none=>[]
def Kk (e:E6):V:=.tup [.str (Dk e),iV (AQ e)]
noncomputable def tb3:List (Nat × (List V->T (V × List Blk))):=(65,BE λe=>iV (AQ e)) :: tb2
theorem tb3_ok:A8 Tryz.prog Gl tb3:=.cons p29 Zj
noncomputable def tbn:List (Nat × (List V->T (V × List Blk))):=(97,λvs=>Au (Ah tab cx0 Tryz.f97 vs [])) :: (104,λvs=>Au (Ah tab cx0 Tryz.f104 vs [])) :: []
theorem Za:A8 Tryz.prog Gl tbn :=
 .cons (AL AI mixed Tryz.func97 (by kernel_rfl) (by kernel_rfl) (Γ:=cx0) (AK .nil _)) <|
 .cons (AL AI mixed Tryz.func104 (by kernel_rfl) (by kernel_rfl) (Γ:=cx0) (AK .nil _)) .nil
noncomputable def cxn:Cx:=AN Gl tbn []
noncomputable def tb4:List (Nat × (List V->T (V × List Blk))):=(98,λvs=>Au (Ah tab cxn Tryz.f98 vs [])) :: (tbn ++ tb3)
theorem A8.append {P:Program} {G:Nat->V} {a b:List (Nat × (List V->T (V × List Blk)))} (ha:A8 P G a) (hb:A8 P G b):A8 P G (a ++ b):=λp hp=>(List.mem_append.1 hp).elim (ha p) (hb p)
theorem Zi:A8 Tryz.prog Gl tb4 :=
 .cons (AL AI mixed Tryz.func98 (by kernel_rfl) (by kernel_rfl) (Γ:=cxn) (AK Za _)) (A8.append Za tb3_ok)
noncomputable def cx4:Cx:=AN Gl tb4 []
theorem Aie:(List.range 112).map (λk:Nat=>(Au (Ah tab cx4 Tryz.f76 [eV (Dl k)] [])).sem) = (List.range 112).map λk=>some (.tup [.str (HT k),iV 0],[]):=by kernel_rfl
theorem Adj (e:E6):(Au (Ah tab cx4 Tryz.f76 [eV e] [])).path [true] = some ([AG (ieq (AQ e) 0)],(.tup [.str [],iV 30],[])):=by kernel_rfl
theorem Adl (e:E6):(Au (Ah tab cx4 Tryz.f42 [eV e] [])).path [true] = some ([AG (ieq (AQ e) 0)],(.tup [.str [],iV (AQ e)],[])):=by kernel_rfl
theorem Adk (e:E6):(Au (Ah tab cx4 Tryz.f42 [eV e] [])).path [false,true] = some ([AG (ieq (AQ e) 0),inR (B2 e)],(.tup [.str (HT (B2 e).toNat),iV 0],[])):=by kernel_rfl
theorem Aif (e:E6):(Au (Ah tab cx4 Tryz.f42 [eV e] [])).sem = some (Kk e,[]):=by
 unfold Kk Dk
 cases h:FV e 112 0 with
 | none =>
  have hf:AQ e = 30:=by unfold AQ; rw [h]
  exact AO (Adl e) (by rw [hf]; rfl)
 | some k =>
  have hf:AQ e = 0:=by unfold AQ; rw [h]
  have hn:B2 e = Int.ofNat k:=by unfold B2; rw [h]
  have hk:=(Hu e 112 0 k h).2.1
  have:=AO (Adk e) (by rw [hf,hn,show inR (Int.ofNat k) = true by simp [inR]; omega]; rfl)
  rw [this,hn,hf]
  rfl
theorem Adi (e:E6):(Au (Ah tab cx4 Tryz.f76 [eV e] [])).sem = some (Kk e,[]):=by
 unfold Kk Dk
 cases h:FV e 112 0 with
 | none =>
  have hf:AQ e = 30:=by unfold AQ; rw [h]
  rw [hf]
  exact AO (Adj e) (by rw [hf]; rfl)
 | some k =>
  have hf:AQ e = 0:=by unfold AQ; rw [h]
  obtain ⟨_,hk,rfl⟩:=Hu e 112 0 k h
  rw [hf]
  exact Fs Aie k (by omega)
theorem p26:A6 Tryz.prog Gl 42 (BE Kk):=by
 refine A6.congr (AL AI mixed Tryz.func42 (by kernel_rfl) (by kernel_rfl) (Γ:=cx4) (AK Zi _)) λvs r h=>?_
 obtain ⟨e,rfl,rfl⟩:=BJ h
 exact Aif e
theorem p27:A6 Tryz.prog Gl 76 (BE Kk):=by
 refine A6.congr (AL AI mixed Tryz.func76 (by kernel_rfl) (by kernel_rfl) (Γ:=cx4) (AK Zi _)) λvs r h=>?_
 obtain ⟨e,rfl,rfl⟩:=BJ h
 exact Adi e
end Go.Proofs.YthlojajaenfidaaGreatDoor.Ed
namespace Go.Proofs.YthlojajaenfidaaGreatDoor.Ed
open Go.Sy
noncomputable def tb5:List (Nat × (List V->T (V × List Blk))):=(42,BE Kk) :: (76,BE Kk) :: tb3
theorem Zg:A8 Tryz.prog Gl tb5:=.cons p26 <| .cons p27 <| tb3_ok
noncomputable def cx5:Cx:=AN Gl tb5 [(0,⟨[],1,[],1,113⟩)]
def PR (s:List UInt8):Nat->Nat->Option Nat
 | 0,_=>none
 | m+1,k=>match seq (HT k) s with
  | true=>some k
  | false=>PR s m (Nat.succ k)
def EL (s:List UInt8):E6:=match PR s 112 0 with
 | some k=>Dl k
 | none=>Ft
def EK (s:List UInt8):Int:=match PR s 112 0 with
 | some _=>0
 | none=>30
def NI (s:List UInt8):Nat->Nat->Option (V × List Blk)
 | 0,_=>some (.tup [eV Ft,iV 30],[])
 | m+1,k=>sel (seq (HT k) s) (some (.tup [eV (Dl k),iV 0],[])) (NI s m (Nat.succ k))
theorem P7 (s:List UInt8):∀ m k,NI s m k = match PR s m k with
  | some j=>some (.tup [eV (Dl j),iV 0],[])
  | none=>some (.tup [eV Ft,iV 30],[])
 | 0,k=>rfl
 | m+1,k=>by
  simp only [NI,PR]
  cases h:seq (HT k) s with
  | true=>rfl
  | false=>exact P7 s m (Nat.succ k)
theorem UO (s:List UInt8):NI s 112 0 = some (.tup [eV (EL s),iV (EK s)],[]):=by
 rw [P7]
 unfold EL EK
 cases PR s 112 0 <;> rfl
theorem AcZ (s:List UInt8):(Au (Ah tab cx5 Tryz.f53 [.str s] [])).sem = NI s 112 0:=by kernel_rfl
def RW (f:List UInt8->V):List V->T (V × List Blk)
 | [v]=>match gS v with
  | some e=>.leaf (f e,[])
  | none=>.fail
 | _=>.fail
theorem Uf {f:List UInt8->V} {vs:List V} {r:V × List Blk} (h:(RW f vs).sem = some r):∃ e,vs = [.str e] ∧ r = (f e,[]):=by
 unfold RW at h
 split at h
 ·split at h
  ·rename_i v e hn
   exact ⟨e,by rw [WX hn],Ac h⟩
  ·cases h
 ·cases h
def UP (s:List UInt8):V:=.tup [eV (EL s),iV (EK s)]
theorem p22:A6 Tryz.prog Gl 53 (RW UP):=by
 refine A6.congr (AL AI mixed Tryz.func53 (by kernel_rfl) (by kernel_rfl) (Γ:=cx5) (AK Zg _)) λvs r h=>?_
 obtain ⟨e,rfl,rfl⟩:=Uf h
 exact (AcZ e).trans (UO e)
noncomputable def tb6:List (Nat × (List V->T (V × List Blk))):=(53,RW UP) :: tb5
theorem Nj:A8 Tryz.prog Gl tb6:=.cons p22 Zg
noncomputable def cx6:Cx:=AN Gl tb6 []
def YP (f:V):List V->T (V × List Blk)
 | []=>.leaf (f,[])
 | _=>.fail
noncomputable def tb7:List (Nat × (List V->T (V × List Blk))):=tb6
theorem Agg:A8 Tryz.prog Gl tb7:=Nj
theorem DI (a:List UInt8):seq a a = true:=by simp [seq]
theorem BP (a:Int):ieq a a = true:=by simp [ieq]
end Go.Proofs.YthlojajaenfidaaGreatDoor.Ed
