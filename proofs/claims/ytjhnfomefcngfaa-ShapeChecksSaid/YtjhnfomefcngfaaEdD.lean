/-
  The table of the program's types, as the evaluator asks of them, and that it is the program's own. No conditions.
-/
import Derived.Test.YtjhnfomefcngfaaSyA
import Derived.Test.YtjhnfomefcngfaaProg
import Derived.KernelRfl
import Derived.Test.YtjhnfomefcngfaaSyU
import Derived.Test.YtjhnfomefcngfaaRows
namespace Go.Sy
open Go.Proofs
set_option maxRecDepth 100000
def tab:List Ty:=[
  ⟨.other,1,0,.und,false⟩,
  ⟨.other,1,8,.val (.nilFunc),false⟩,
  ⟨.int .i64,1,8,.val (.int .i64 0),false⟩,
  ⟨.int .i64,1,8,.val (.int .i64 0),false⟩,
  ⟨.bool,1,1,.val (.bool false),false⟩,
  ⟨.int .u8,1,1,.val (.int .u8 0),false⟩,
  ⟨.int .u8,1,1,.val (.int .u8 0),false⟩,
  ⟨.st [(0,2),(1,3),(2,4),(3,6)],4,24,.agg [.val (.int .i64 0),.val (.int .i64 0),.val (.bool false),.val (.int .u8 0)],true⟩,
  ⟨.st [(0,2),(1,3),(2,4),(3,6)],4,24,.agg [.val (.int .i64 0),.val (.int .i64 0),.val (.bool false),.val (.int .u8 0)],true⟩,
  ⟨.str,1,16,.str [],false⟩,
  ⟨.str,1,16,.str [],false⟩,
  ⟨.str,1,16,.str [],false⟩,
  ⟨.int .u64,1,8,.val (.int .u64 0),false⟩,
  ⟨.st [(0,9),(1,12)],2,24,.agg [.str [],.val (.int .u64 0)],false⟩,
  ⟨.st [(0,9),(1,12)],2,24,.agg [.str [],.val (.int .u64 0)],false⟩,
  ⟨.other,1,8,.val (.pointer none),false⟩,
  ⟨.other,1,8,.val (.pointer none),false⟩,
  ⟨.other,1,8,.val (.pointer none),false⟩,
  ⟨.st [(0,17)],1,8,.agg [.val (.pointer none)],false⟩,
  ⟨.st [(0,17)],1,8,.agg [.val (.pointer none)],false⟩,
  ⟨.other,1,16,.val (.nilIface),false⟩,
  ⟨.int .i32,1,4,.val (.int .i32 0),false⟩,
  ⟨.sl 44,1,24,.nilS,false⟩,
  ⟨.other,1,8,.val (.nilFunc),false⟩,
  ⟨.sl 40,1,24,.nilS,false⟩,
  ⟨.sl 3,1,24,.nilS,false⟩,
  ⟨.sl 25,1,24,.nilS,false⟩,
  ⟨.st [(0,3),(1,22),(2,24),(3,3),(4,3),(5,25),(6,26)],7,120,.agg [.val (.int .i64 0),.nilS,.nilS,.val (.int .i64 0),.val (.int .i64 0),.nilS,.nilS],false⟩,
  ⟨.st [(0,3),(1,22),(2,24),(3,3),(4,3),(5,25),(6,26)],7,120,.agg [.val (.int .i64 0),.nilS,.nilS,.val (.int .i64 0),.val (.int .i64 0),.nilS,.nilS],false⟩,
  ⟨.int .i64,1,8,.val (.int .i64 0),false⟩,
  ⟨.other,1,0,.und,false⟩,
  ⟨.other,1,8,.val (.nilFunc),false⟩,
  ⟨.other,1,8,.val (.nilFunc),false⟩,
  ⟨.other,1,8,.val (.nilFunc),false⟩,
  ⟨.other,1,8,.val (.nilFunc),false⟩,
  ⟨.other,1,8,.val (.nilFunc),false⟩,
  ⟨.other,1,0,.und,false⟩,
  ⟨.other,1,8,.val (.nilFunc),false⟩,
  ⟨.other,1,8,.val (.nilFunc),false⟩,
  ⟨.st [(0,3),(1,3),(2,3),(3,3),(4,3)],5,40,.agg [.val (.int .i64 0),.val (.int .i64 0),.val (.int .i64 0),.val (.int .i64 0),.val (.int .i64 0)],true⟩,
  ⟨.st [(0,3),(1,3),(2,3),(3,3),(4,3)],5,40,.agg [.val (.int .i64 0),.val (.int .i64 0),.val (.int .i64 0),.val (.int .i64 0),.val (.int .i64 0)],true⟩,
  ⟨.other,1,8,.val (.nilFunc),false⟩,
  ⟨.other,1,8,.val (.nilFunc),false⟩,
  ⟨.st [(0,3),(1,4),(2,4),(3,3),(4,3),(5,3)],6,40,.agg [.val (.int .i64 0),.val (.bool false),.val (.bool false),.val (.int .i64 0),.val (.int .i64 0),.val (.int .i64 0)],true⟩,
  ⟨.st [(0,3),(1,4),(2,4),(3,3),(4,3),(5,3)],6,40,.agg [.val (.int .i64 0),.val (.bool false),.val (.bool false),.val (.int .i64 0),.val (.int .i64 0),.val (.int .i64 0)],true⟩,
  ⟨.other,1,0,.und,false⟩,
  ⟨.other,1,8,.val (.nilFunc),false⟩,
  ⟨.other,1,8,.val (.nilFunc),false⟩,
  ⟨.other,1,8,.val (.nilFunc),false⟩,
  ⟨.other,1,0,.und,false⟩,
  ⟨.other,1,8,.val (.nilFunc),false⟩,
  ⟨.other,1,8,.val (.nilFunc),false⟩,
  ⟨.other,1,8,.val (.nilFunc),false⟩,
  ⟨.other,1,8,.val (.nilFunc),false⟩,
  ⟨.other,1,8,.val (.nilFunc),false⟩,
  ⟨.other,1,8,.val (.nilFunc),false⟩,
  ⟨.other,1,0,.und,false⟩,
  ⟨.other,1,8,.val (.nilFunc),false⟩,
  ⟨.other,1,8,.val (.nilFunc),false⟩,
  ⟨.other,1,0,.und,false⟩,
  ⟨.other,1,8,.val (.nilFunc),false⟩,
  ⟨.sl 64,1,24,.nilS,false⟩,
  ⟨.other,1,0,.und,false⟩,
  ⟨.other,1,8,.val (.nilFunc),false⟩,
  ⟨.sl 66,1,24,.nilS,false⟩,
  ⟨.st [(0,3),(1,3),(2,3),(3,3),(4,3),(5,9),(6,9),(7,3)],8,80,.agg [.val (.int .i64 0),.val (.int .i64 0),.val (.int .i64 0),.val (.int .i64 0),.val (.int .i64 0),.str [],.str [],.val (.int .i64 0)],true⟩,
  ⟨.st [(0,3),(1,3),(2,3),(3,3),(4,3),(5,9),(6,9),(7,3)],8,80,.agg [.val (.int .i64 0),.val (.int .i64 0),.val (.int .i64 0),.val (.int .i64 0),.val (.int .i64 0),.str [],.str [],.val (.int .i64 0)],true⟩,
  ⟨.other,1,8,.val (.nilFunc),false⟩,
  ⟨.other,1,8,.val (.nilFunc),false⟩,
  ⟨.other,1,8,.val (.nilFunc),false⟩,
  ⟨.arr 15 4,15,15,.agg [.val (.bool false),.val (.bool false),.val (.bool false),.val (.bool false),.val (.bool false),.val (.bool false),.val (.bool false),.val (.bool false),.val (.bool false),.val (.bool false),.val (.bool false),.val (.bool false),.val (.bool false),.val (.bool false),.val (.bool false)],true⟩,
  ⟨.other,1,8,.val (.nilFunc),false⟩,
  ⟨.other,1,8,.val (.nilFunc),false⟩,
  ⟨.other,1,0,.und,false⟩,
  ⟨.other,1,8,.val (.nilFunc),false⟩,
  ⟨.other,1,8,.val (.nilFunc),false⟩,
  ⟨.imap 3,1,8,.val (.map none),false⟩,
  ⟨.other,1,8,.val (.nilFunc),false⟩,
  ⟨.other,1,8,.val (.pointer none),false⟩,
  ⟨.other,1,8,.val (.nilFunc),false⟩,
  ⟨.other,1,8,.val (.nilFunc),false⟩,
  ⟨.other,1,8,.val (.nilFunc),false⟩,
  ⟨.other,1,0,.und,false⟩,
  ⟨.other,1,8,.val (.nilFunc),false⟩,
  ⟨.other,1,8,.val (.nilFunc),false⟩,
  ⟨.other,1,8,.val (.nilFunc),false⟩,
  ⟨.other,1,8,.val (.nilFunc),false⟩,
  ⟨.other,1,8,.val (.nilFunc),false⟩,
  ⟨.other,1,8,.val (.nilFunc),false⟩,
  ⟨.other,1,0,.und,false⟩,
  ⟨.other,1,8,.val (.nilFunc),false⟩,
  ⟨.other,1,8,.val (.nilFunc),false⟩,
  ⟨.other,1,0,.und,false⟩,
  ⟨.other,1,8,.val (.nilFunc),false⟩,
  ⟨.other,1,8,.val (.nilFunc),false⟩,
  ⟨.other,1,8,.val (.nilFunc),false⟩,
  ⟨.other,1,8,.val (.nilFunc),false⟩,
  ⟨.other,1,8,.val (.nilFunc),false⟩,
  ⟨.other,1,0,.und,false⟩,
  ⟨.other,1,8,.val (.nilFunc),false⟩,
  ⟨.other,1,8,.val (.nilFunc),false⟩,
  ⟨.other,1,8,.val (.nilFunc),false⟩,
  ⟨.other,1,8,.val (.nilFunc),false⟩,
  ⟨.other,1,8,.val (.nilFunc),false⟩,
  ⟨.other,1,0,.und,false⟩,
  ⟨.other,1,8,.val (.nilFunc),false⟩,
  ⟨.other,1,0,.und,false⟩,
  ⟨.other,1,8,.val (.nilFunc),false⟩,
  ⟨.other,1,8,.val (.nilFunc),false⟩,
  ⟨.sl 4,1,24,.nilS,false⟩,
  ⟨.other,1,8,.val (.nilFunc),false⟩,
  ⟨.other,1,8,.val (.nilFunc),false⟩,
  ⟨.other,1,8,.val (.nilFunc),false⟩,
  ⟨.other,1,8,.val (.nilFunc),false⟩,
  ⟨.sl 118,1,24,.nilS,false⟩,
  ⟨.st [(0,64)],1,24,.agg [.nilS],false⟩,
  ⟨.st [(0,64)],1,24,.agg [.nilS],false⟩,
  ⟨.st [(0,116),(1,3)],2,32,.agg [.nilS,.val (.int .i64 0)],false⟩,
  ⟨.st [(0,116),(1,3)],2,32,.agg [.nilS,.val (.int .i64 0)],false⟩,
  ⟨.other,1,8,.val (.nilFunc),false⟩,
  ⟨.other,1,8,.val (.nilFunc),false⟩,
  ⟨.other,1,8,.val (.nilFunc),false⟩,
  ⟨.other,1,8,.val (.pointer none),false⟩,
  ⟨.other,1,8,.val (.nilFunc),false⟩,
  ⟨.other,1,8,.val (.nilFunc),false⟩,
  ⟨.other,1,8,.val (.nilFunc),false⟩,
  ⟨.other,1,8,.val (.nilFunc),false⟩,
  ⟨.other,1,8,.val (.nilFunc),false⟩,
  ⟨.other,1,8,.val (.pointer none),false⟩,
  ⟨.sl 9,1,24,.nilS,false⟩,
  ⟨.other,1,8,.val (.nilFunc),false⟩,
  ⟨.st [(0,17),(1,17),(2,17),(3,9)],4,40,.agg [.val (.pointer none),.val (.pointer none),.val (.pointer none),.str []],false⟩,
  ⟨.st [(0,17),(1,17),(2,17),(3,9)],4,40,.agg [.val (.pointer none),.val (.pointer none),.val (.pointer none),.str []],false⟩,
  ⟨.arr 0 16,0,0,.agg [],false⟩,
  ⟨.st [(0,133)],0,0,.agg [],false⟩,
  ⟨.st [(0,133)],0,0,.agg [],false⟩,
  ⟨.other,1,8,.val (.nilFunc),false⟩,
  ⟨.int .u32,1,4,.val (.int .u32 0),false⟩,
  ⟨.int .u8,1,1,.val (.int .u8 0),false⟩,
  ⟨.int .u8,1,1,.val (.int .u8 0),false⟩,
  ⟨.other,1,8,.val (.nilFunc),false⟩,
  ⟨.other,1,8,.val (.pointer none),false⟩,
  ⟨.int .i32,1,4,.val (.int .i32 0),false⟩,
  ⟨.int .i32,1,4,.val (.int .i32 0),false⟩,
  ⟨.st [(0,12),(1,12),(2,137),(3,138),(4,5),(5,5),(6,139),(7,140),(8,141),(9,142),(10,143)],11,48,.agg [.val (.int .u64 0),.val (.int .u64 0),.val (.int .u32 0),.val (.int .u8 0),.val (.int .u8 0),.val (.int .u8 0),.val (.int .u8 0),.val (.nilFunc),.val (.pointer none),.val (.int .i32 0),.val (.int .i32 0)],false⟩,
  ⟨.st [(0,12),(1,12),(2,137),(3,138),(4,5),(5,5),(6,139),(7,140),(8,141),(9,142),(10,143)],11,48,.agg [.val (.int .u64 0),.val (.int .u64 0),.val (.int .u32 0),.val (.int .u8 0),.val (.int .u8 0),.val (.int .u8 0),.val (.int .u8 0),.val (.nilFunc),.val (.pointer none),.val (.int .i32 0),.val (.int .i32 0)],false⟩,
  ⟨.other,1,8,.val (.pointer none),false⟩]
def PV (P:Program):Nat->Nat->List (Option Ty)
  | 0,_=>[]
  | n+1,k=>Xa P k :: PV P n (Nat.succ k)
def U1:List Ty->List (Option Ty)
  | []=>[]
  | t :: l=>some t :: U1 l
theorem AdF:PV Try.prog 147 0 = U1 tab:=by kernel_rfl
theorem R1 (P:Program):∀ (n k j:Nat),j < n->(PV P n k)[j]? = some (Xa P (k+j))
  | 0,_,_,h=>absurd h (Nat.not_lt_zero _)
  | n+1,k,0,_=>rfl
  | n+1,k,j+1,h=>by
    have:=R1 P n (Nat.succ k) j (Nat.lt_of_succ_lt_succ h)
    simp only [PV,List.getElem?_cons_succ,this]
    rw [show Nat.succ k+j = k+(j+1) by omega]
theorem ON:∀ (l:List Ty) (j:Nat) (t:Ty),l[j]? = some t->(U1 l)[j]? = some (some t) ∧ j < l.length
  | [],_,_,h=>by simp at h
  | a :: l,0,t,h=>by simp at h; subst h; exact ⟨rfl,by simp⟩
  | a :: l,j+1,t,h=>by
    have:=ON l j t (by simpa using h)
    exact ⟨by simpa [U1] using this.1,by simp; exact this.2⟩
theorem Aan:tab.length = 147:=by kernel_rfl
theorem AdE (j:Nat) (t:Ty) (h:tab[j]? = some t):Xa Try.prog j = some t:=by
  obtain ⟨h1,h2⟩:=ON tab j t h
  rw [Aan] at h2
  rw [<- AdF,R1 _ _ _ _ h2] at h1
  simpa using h1
end Go.Sy
namespace Go.Proofs.Ytjhnfomefcngfaa.Ed
open Go.Sy
def AfN:List (List UInt8):=[[82,102,101],[82,102,105],[70,114,101],[70,114,105],[67,111,101],[67,111,105]]
def AiH:List (List UInt8):=[[82,82],[82,87],[87,82],[87,87]]
def Ahd:List (List UInt8):=[[114,46,114],[114,46,119],[114,46,114,119],[119,46,114],[119,46,119],[119,46,114,119],[114,119,46,114],[114,119,46,119],[114,119,46,114,119]]
def AiK:List (List UInt8):=[[68,112,65,100,100,114,100,82],[68,112,65,100,100,114,100,87],[68,112,65,100,100,114,115,82],[68,112,65,100,100,114,115,87],[68,112,68,97,116,97,100,87],
  [68,112,68,97,116,97,115,87],[68,112,67,116,114,108,100,82],[68,112,67,116,114,108,100,87],[68,112,67,116,114,108,115,82],[68,112,67,116,114,108,115,87]]
def Gl:Nat->V:=fun _=>.und
theorem AR:Try.prog.follows .mixedOrders = true:=by kernel_rfl
theorem AQ:TabOK Try.prog tab:=⟨AdE,ZR⟩
theorem Ak5 {S:Nat->Prop} {W:World}:Rg Gl S W:=fun _=>trivial
end Go.Proofs.Ytjhnfomefcngfaa.Ed
namespace Go.Proofs.Ytjhnfomefcngfaa.Ed
open Go.Sy
structure E6 where
  kind:Int
  ext:Bool
  same:Bool
  src:Int
  dst:Int
  fence:Int
  deriving DecidableEq
def eV (e:E6):V:=.agg [iV e.kind,bV e.ext,bV e.same,iV e.src,iV e.dst,iV e.fence]
def toE:V->Option E6
  | .agg [a,b,c,d,e,f]=>match gI a,gB b,gB c,gI d,gI e,gI f with
    | some a,some b,some c,some d,some e,some f=>some ⟨a,b,c,d,e,f⟩
    | _,_,_,_,_,_=>none
  | _=>none
theorem MG {v:V} {e:E6} (h:toE v = some e):v = eV e:=by
  unfold toE at h
  split at h
  · split at h
    · rename_i h1 h2 h3 h4 h5 h6
      simp only [Option.some.injEq] at h
      subst h
      rw [Ga h1,Qx h2,Qx h3,Ga h4,Ga h5,Ga h6]
      rfl
    · cases h
  · cases h
def eqE (a b:E6):Bool:=Ag (ieq a.kind b.kind) (Ag (L5 a.ext b.ext) (Ag (L5 a.same b.same) (Ag (ieq a.src b.src) (Ag (ieq a.dst b.dst) (Ag (ieq a.fence b.fence) true)))))
theorem Jg (a b:E6):eqE a b = true ↔ a = b:=by
  cases a; cases b
  simp [eqE,Ag,ieq,L5]
theorem YZ (a b:E6):eqE a b = eqE b a:=by
  rw [Bool.eq_iff_iff,Jg,Jg]
  exact eq_comm
def D4 (c:Nat):E6 :=
  if c < 6 then ⟨c / 2+1,c % 2 == 0,false,if c / 2 == 1 then 1 else 2,if c / 2 == 0 then 1 else 2,0⟩
  else if c < 102 then ⟨if (c - 6) / 8 == 0 then 4 else 5,false,decide (4 <= (c - 6) % 8),1+((c - 6) % 4 / 2:Nat),1+((c - 6) % 2:Nat),((c - 6) / 8:Nat)⟩
  else if c < 106 then ⟨6,false,decide (2 <= c - 102),1,1+((c - 102) % 2:Nat),0⟩
  else if c < 108 then ⟨7,false,c - 102 == 5,1,2,0⟩
  else ⟨8,false,decide (8 <= c - 102),1,1+((c - 102) % 2:Nat),0⟩
def FK:E6:=⟨0,false,false,0,0,0⟩
def inR (n:Int):Bool:=decide (0 <= n) && decide (n < 112)
theorem Sj {n:Int} (h:inR n = true):∃ k:Nat,n = (k:Int) ∧ k < 112:=by
  simp [inR] at h
  exact ⟨n.toNat,by omega,by omega⟩
theorem YK {n:Int} (h:inR n = false):n < 0 ∨ 0 <= n ∧ 112 <= n:=by
  simp [inR] at h
  omega
def cx0:Cx:=AI Gl [] []
noncomputable def AiS:List V->T (V × List Blk):=fun vs=>As (Aj tab cx0 Try.f119 vs [])
theorem Akv:AB Try.prog Gl 119 AiS:=AS AQ AR Try.func119 (by kernel_rfl) (by kernel_rfl) (AP AC.nil _)
noncomputable def Ac5:List V->T (V × List Blk):=fun vs=>As (Aj tab cx0 Try.f121 vs [])
theorem p74:AB Try.prog Gl 121 Ac5:=AS AQ AR Try.func121 (by kernel_rfl) (by kernel_rfl) (AP AC.nil _)
noncomputable def ZA:List V->T (V × List Blk):=fun vs=>As (Aj tab cx0 Try.f122 vs [])
theorem p75:AB Try.prog Gl 122 ZA:=AS AQ AR Try.func122 (by kernel_rfl) (by kernel_rfl) (AP AC.nil _)
noncomputable def AiT:List V->T (V × List Blk):=fun vs=>As (Aj tab cx0 Try.f123 vs [])
theorem p76:AB Try.prog Gl 123 AiT:=AS AQ AR Try.func123 (by kernel_rfl) (by kernel_rfl) (AP AC.nil _)
noncomputable def tb0:List (Nat × (List V->T (V × List Blk))):=(121,Ac5) :: (122,ZA) :: (123,AiT) :: []
theorem CW:AC Try.prog Gl tb0:=.cons p74 <| .cons p75 <| .cons p76 .nil
noncomputable def AfM:Cx:=AI Gl tb0 []
def Pf (c:Nat):List UInt8 :=
  if c < 6 then AfN.getD c []
  else if 102 <= c then AiK.getD (c - 102) []
  else (if (c - 6) / 8 = 0 then [80,111] else if (c - 6) / 8 = 1 then [77,70,101,110,99,101] else if (c - 6) / 8 = 2 then [70,101,110,99,101,46,116,115,111]
    else [70,101,110,99,101,46] ++ Ahd.getD ((c - 6) / 8 - 3) []) ++ ((if 4 <= (c - 6) % 8 then [115] else [100]) ++ AiH.getD ((c - 6) % 4) [])
end Go.Proofs.Ytjhnfomefcngfaa.Ed
namespace Go.Proofs.Ytjhnfomefcngfaa.Ed
open Go.Sy
theorem Af6:(List.range 112).map (fun k:Nat=>(As (Aj tab cx0 Try.f119 [nV k] [])).sem) = (List.range 112).map fun k=>some (eV (D4 k),[]):=by kernel_rfl
theorem Ak2:(List.range 112).map (fun k:Nat=>(As (Aj tab AfM Try.f114 [nV k] [])).sem) = (List.range 112).map fun k=>some (.tup [eV (D4 k),iV 0],[]):=by kernel_rfl
theorem Ait (n:Int):(As (Aj tab AfM Try.f114 [iV n] [])).path [true,true,true,true] = some ([ilt n 0,ilt n 0,ilt n 0,true],(.tup [eV FK,iV 30],[])):=by kernel_rfl
theorem Ais (n:Int):(As (Aj tab AfM Try.f114 [iV n] [])).path [false,false,false,true] = some ([ilt n 0,ilt n 0,ilt n 0,ile 112 n],(.tup [eV FK,iV 30],[])):=by kernel_rfl
end Go.Proofs.Ytjhnfomefcngfaa.Ed
namespace Go.Proofs.Ytjhnfomefcngfaa.Ed
open Go.Sy
def VF (f:Nat->V):List V->T (V × List Blk)
  | [v]=>match gI v with
    | some n=>.br (inR n) (.leaf (f n.toNat,[])) .fail
    | none=>.fail
  | _=>.fail
theorem Uh {f:Nat->V} {vs:List V} {r:V × List Blk} (h:(VF f vs).sem = some r):∃ k:Nat,k < 112 ∧ vs = [nV k] ∧ r = (f k,[]):=by
  unfold VF at h
  split at h
  · split at h
    · rename_i v n hn
      obtain ⟨h1,h2⟩:=Ah h
      obtain ⟨k,rfl,hk⟩:=Sj h1
      exact ⟨k,hk,by rw [Ga hn]; rfl,by rw [Ad h2]; rfl⟩
    · cases h
  · cases h
theorem p71:AB Try.prog Gl 119 (VF fun k=>eV (D4 k)):=by
  refine Akv.congr fun vs r h=>?_
  obtain ⟨k,hk,rfl,rfl⟩:=Uh h
  exact Hb Af6 k hk
def ofT:List V->T (V × List Blk)
  | [v]=>match gI v with
    | some n=>.br (inR n) (.leaf (.tup [eV (D4 n.toNat),iV 0],[])) (.leaf (.tup [eV FK,iV 30],[]))
    | none=>.fail
  | _=>.fail
theorem Yj {vs:List V} {r:V × List Blk} (h:(ofT vs).sem = some r):∃ n,vs = [iV n] ∧ ((∃ k:Nat,n = Int.ofNat k ∧ k < 112 ∧ r = (.tup [eV (D4 k),iV 0],[])) ∨ ((n < 0 ∨ 0 <= n ∧ 112 <= n) ∧ r = (.tup [eV FK,iV 30],[]))):=by
  unfold ofT at h
  split at h
  · split at h
    · rename_i v n hn
      refine ⟨n,by rw [Ga hn],?_⟩
      cases hi:inR n with
      | true =>
        obtain ⟨k,rfl,hk⟩:=Sj hi
        simp only [T.sem,hi,sel,cond_true,Option.some.injEq] at h
        exact .inl ⟨k,rfl,hk,h.symm⟩
      | false =>
        simp only [T.sem,hi,sel,cond_false,Option.some.injEq] at h
        exact .inr ⟨YK hi,h.symm⟩
    · cases h
  · cases h
theorem AaP {a b:Int} (h:a < b):ilt a b = true:=by simpa [ilt] using h
theorem Yo {a b:Int} (h:b <= a):ilt a b = false:=by simp [ilt]; omega
theorem UW {a b:Int} (h:a <= b):ile a b = true:=by simpa [ile] using h
theorem p31:AB Try.prog Gl 114 ofT:=by
  refine AB.congr (AS AQ AR Try.func114 (by kernel_rfl) (by kernel_rfl) (AP CW [])) fun vs r h=>?_
  obtain ⟨n,rfl,⟨k,rfl,hk,rfl⟩ | ⟨hn,rfl⟩⟩:=Yj h
  · exact Hb Ak2 k hk
  · rcases hn with hn | ⟨h0,hn⟩
    · exact AJ (Ait n) (by rw [AaP hn])
    · exact AJ (Ais n) (by rw [Yo h0,UW hn])
noncomputable def tb1:List (Nat × (List V->T (V × List Blk))):=(119,VF fun k=>eV (D4 k)) :: (114,ofT) :: []
theorem Tk:AC Try.prog Gl tb1:=.cons p71 <| .cons p31 .nil
noncomputable def cx1:Cx:=AI Gl tb1 [(0,⟨[],1,[],1,113⟩)]
def GK (e:E6):Nat->Nat->Option Nat
  | 0,_=>none
  | m+1,k=>match eqE (D4 k) e with
    | true=>some k
    | false=>GK e m (Nat.succ k)
def B8 (e:E6):Int:=match GK e 112 0 with
  | some k=>Int.ofNat k
  | none=>0
def AT (e:E6):Int:=match GK e 112 0 with
  | some _=>0
  | none=>30
def Og (e:E6):Nat->Nat->Option (V × List Blk)
  | 0,_=>some (.tup [iV 0,iV 30],[])
  | m+1,k=>sel (eqE (D4 k) e) (some (.tup [nV k,iV 0],[])) (Og e m (Nat.succ k))
def QR (e:E6):Nat->Nat->Option (V × List Blk)
  | 0,_=>some (.tup [iV 0,iV 30],[])
  | m+1,k=>sel (eqE e (D4 k)) (some (.tup [nV k,iV 0],[])) (QR e m (Nat.succ k))
theorem SI (e:E6):∀ m k,Og e m k = match GK e m k with
    | some j=>some (.tup [nV j,iV 0],[])
    | none=>some (.tup [iV 0,iV 30],[])
  | 0,k=>rfl
  | m+1,k=>by
    simp only [Og,GK]
    cases h:eqE (D4 k) e with
    | true=>rfl
    | false=>exact SI e m (Nat.succ k)
theorem P2 (e:E6):∀ m k,QR e m k = Og e m k
  | 0,_=>rfl
  | m+1,k=>by
    simp only [Og,QR,P2 e m,YZ e]
theorem P1 (e:E6):Og e 112 0 = some (.tup [iV (B8 e),iV (AT e)],[]):=by
  rw [SI]
  unfold B8 AT
  cases GK e 112 0 <;> rfl
theorem AfP (e:E6):(As (Aj tab cx1 Try.f112 [eV e] [])).sem = Og e 112 0:=by kernel_rfl
theorem AfO (e:E6):(As (Aj tab cx1 Try.f98 [eV e] [])).sem = QR e 112 0:=by kernel_rfl
def BN (f:E6->V):List V->T (V × List Blk)
  | [v]=>match toE v with
    | some e=>.leaf (f e,[])
    | none=>.fail
  | _=>.fail
theorem BU {f:E6->V} {vs:List V} {r:V × List Blk} (h:(BN f vs).sem = some r):∃ e,vs = [eV e] ∧ r = (f e,[]):=by
  unfold BN at h
  split at h
  · split at h
    · rename_i v e hn
      exact ⟨e,by rw [MG hn],Ad h⟩
    · cases h
  · cases h
def SJ (e:E6):V:=.tup [iV (B8 e),iV (AT e)]
theorem p24:AB Try.prog Gl 112 (BN SJ):=by
  refine AB.congr (AS AQ AR Try.func112 (by kernel_rfl) (by kernel_rfl) (Γ:=cx1) (AP Tk _)) fun vs r h=>?_
  obtain ⟨e,rfl,rfl⟩:=BU h
  exact (AfP e).trans (P1 e)
theorem p25:AB Try.prog Gl 98 (BN SJ):=by
  refine AB.congr (AS AQ AR Try.func98 (by kernel_rfl) (by kernel_rfl) (Γ:=cx1) (AP Tk _)) fun vs r h=>?_
  obtain ⟨e,rfl,rfl⟩:=BU h
  exact (AfO e).trans ((P2 e 112 0).trans (P1 e))
end Go.Proofs.Ytjhnfomefcngfaa.Ed
namespace Go.Proofs.Ytjhnfomefcngfaa.Ed
open Go.Sy
noncomputable def tb2:List (Nat × (List V->T (V × List Blk))):=(112,BN SJ) :: (98,BN SJ) :: tb1
theorem Xo:AC Try.prog Gl tb2:=.cons p24 <| .cons p25 Tk
noncomputable def cx2:Cx:=AI Gl tb2 []
theorem Ab8 (e:E6):(As (Aj tab cx2 Try.f64 [eV e] [])).sem = some (iV (AT e),[]):=by kernel_rfl
theorem p29:AB Try.prog Gl 64 (BN fun e=>iV (AT e)):=by
  refine AB.congr (AS AQ AR Try.func64 (by kernel_rfl) (by kernel_rfl) (Γ:=cx2) (AP Xo _)) fun vs r h=>?_
  obtain ⟨e,rfl,rfl⟩:=BU h
  exact Ab8 e
theorem JI (e:E6):∀ m k j,GK e m k = some j->k <= j ∧ j < k+m ∧ D4 j = e
  | 0,k,j,h=>by cases h
  | m+1,k,j,h=>by
    simp only [GK] at h
    split at h
    · rename_i he
      simp only [Option.some.injEq] at h
      subst h
      exact ⟨Nat.le_refl _,by omega,(Jg _ _).1 he⟩
    · obtain ⟨h1,h2,h3⟩:=JI e m _ j h
      exact ⟨by omega,by omega,h3⟩
def RL (e:E6):List UInt8:=match GK e 112 0 with
  | some k=>Pf k
  | none=>[]
def UR (e:E6):V:=.tup [.str (RL e),iV (AT e)]
noncomputable def tb3:List (Nat × (List V->T (V × List Blk))):=(64,BN fun e=>iV (AT e)) :: tb2
theorem Xn:AC Try.prog Gl tb3:=.cons p29 Xo
noncomputable def tbn:List (Nat × (List V->T (V × List Blk))):=(124,fun vs=>As (Aj tab cx0 Try.f124 vs [])) :: (126,fun vs=>As (Aj tab cx0 Try.f126 vs [])) :: []
theorem Xg:AC Try.prog Gl tbn :=
  .cons (AS AQ AR Try.func124 (by kernel_rfl) (by kernel_rfl) (Γ:=cx0) (AP .nil _)) <|
  .cons (AS AQ AR Try.func126 (by kernel_rfl) (by kernel_rfl) (Γ:=cx0) (AP .nil _)) .nil
noncomputable def cxn:Cx:=AI Gl tbn []
noncomputable def tb4:List (Nat × (List V->T (V × List Blk))):=(125,fun vs=>As (Aj tab cxn Try.f125 vs [])) :: (tbn ++ tb3)
theorem AC.append {P:Program} {G:Nat->V} {a b:List (Nat × (List V->T (V × List Blk)))} (ha:AC P G a) (hb:AC P G b):AC P G (a ++ b):=fun p hp=>(List.mem_append.1 hp).elim (ha p) (hb p)
theorem AdC:AC Try.prog Gl tb4 :=
  .cons (AS AQ AR Try.func125 (by kernel_rfl) (by kernel_rfl) (Γ:=cxn) (AP Xg _)) (AC.append Xg Xn)
noncomputable def cx4:Cx:=AI Gl tb4 []
theorem Af3:(List.range 112).map (fun k:Nat=>(As (Aj tab cx4 Try.f115 [eV (D4 k)] [])).sem) = (List.range 112).map fun k=>some (.tup [.str (Pf k),iV 0],[]):=by kernel_rfl
theorem AaL (e:E6):(As (Aj tab cx4 Try.f115 [eV e] [])).path [true] = some ([Am (ieq (AT e) 0)],(.tup [.str [],iV 30],[])):=by kernel_rfl
theorem AaK (e:E6):(As (Aj tab cx4 Try.f115 [eV e] [])).sem = some (UR e,[]):=by
  unfold UR RL
  cases h:GK e 112 0 with
  | none =>
    have hf:AT e = 30:=by unfold AT; rw [h]
    rw [hf]
    exact AJ (AaL e) (by rw [hf]; rfl)
  | some k =>
    have hf:AT e = 0:=by unfold AT; rw [h]
    obtain ⟨_,hk,rfl⟩:=JI e 112 0 k h
    rw [hf]
    exact Hb Af3 k (by omega)
theorem p27:AB Try.prog Gl 115 (BN UR):=by
  refine AB.congr (AS AQ AR Try.func115 (by kernel_rfl) (by kernel_rfl) (Γ:=cx4) (AP AdC _)) fun vs r h=>?_
  obtain ⟨e,rfl,rfl⟩:=BU h
  exact AaK e
end Go.Proofs.Ytjhnfomefcngfaa.Ed
namespace Go.Proofs.Ytjhnfomefcngfaa.Ed
open Go.Sy
noncomputable def tb5:List (Nat × (List V->T (V × List Blk))):=(115,BN UR) :: tb3
theorem Xl:AC Try.prog Gl tb5:=.cons p27 <| Xn
noncomputable def cx5:Cx:=AI Gl tb5 [(0,⟨[],1,[],1,113⟩)]
def Ps (s:List UInt8):Nat->Nat->Option Nat
  | 0,_=>none
  | m+1,k=>match seq (Pf k) s with
    | true=>some k
    | false=>Ps s m (Nat.succ k)
def EV (s:List UInt8):E6:=match Ps s 112 0 with
  | some k=>D4 k
  | none=>FK
def Ee (s:List UInt8):Int:=match Ps s 112 0 with
  | some _=>0
  | none=>30
def Nn (s:List UInt8):Nat->Nat->Option (V × List Blk)
  | 0,_=>some (.tup [eV FK,iV 30],[])
  | m+1,k=>sel (seq (Pf k) s) (some (.tup [eV (D4 k),iV 0],[])) (Nn s m (Nat.succ k))
theorem Pb (s:List UInt8):∀ m k,Nn s m k = match Ps s m k with
    | some j=>some (.tup [eV (D4 j),iV 0],[])
    | none=>some (.tup [eV FK,iV 30],[])
  | 0,k=>rfl
  | m+1,k=>by
    simp only [Nn,Ps]
    cases h:seq (Pf k) s with
    | true=>rfl
    | false=>exact Pb s m (Nat.succ k)
theorem TC (s:List UInt8):Nn s 112 0 = some (.tup [eV (EV s),iV (Ee s)],[]):=by
  rw [Pb]
  unfold EV Ee
  cases Ps s 112 0 <;> rfl
theorem AaE (s:List UInt8):(As (Aj tab cx5 Try.f97 [.str s] [])).sem = Nn s 112 0:=by kernel_rfl
def Rn (f:List UInt8->V):List V->T (V × List Blk)
  | [v]=>match gS v with
    | some e=>.leaf (f e,[])
    | none=>.fail
  | _=>.fail
theorem Tg {f:List UInt8->V} {vs:List V} {r:V × List Blk} (h:(Rn f vs).sem = some r):∃ e,vs = [.str e] ∧ r = (f e,[]):=by
  unfold Rn at h
  split at h
  · split at h
    · rename_i v e hn
      exact ⟨e,by rw [Ab2 hn],Ad h⟩
    · cases h
  · cases h
def TD (s:List UInt8):V:=.tup [eV (EV s),iV (Ee s)]
theorem p22:AB Try.prog Gl 97 (Rn TD):=by
  refine AB.congr (AS AQ AR Try.func97 (by kernel_rfl) (by kernel_rfl) (Γ:=cx5) (AP Xl _)) fun vs r h=>?_
  obtain ⟨e,rfl,rfl⟩:=Tg h
  exact (AaE e).trans (TC e)
noncomputable def tb6:List (Nat × (List V->T (V × List Blk))):=(97,Rn TD) :: tb5
theorem MJ:AC Try.prog Gl tb6:=.cons p22 Xl
noncomputable def cx6:Cx:=AI Gl tb6 []
def WZ (f:V):List V->T (V × List Blk)
  | []=>.leaf (f,[])
  | _=>.fail
noncomputable def tb7:List (Nat × (List V->T (V × List Blk))):=tb6
theorem AdB:AC Try.prog Gl tb7:=MJ
theorem MV (a:List UInt8):seq a a = true:=by simp [seq]
theorem BQ (a:Int):ieq a a = true:=by simp [ieq]
end Go.Proofs.Ytjhnfomefcngfaa.Ed
