/-
  The table of the program's types, as the evaluator asks of them, and that it is the program's own. No conditions.
-/
import Derived.Test.YtjhnfomefcngfaaSyA
import Derived.Test.YtjhnfomefcngfaaProg
import Derived.KernelRfl
import Derived.Test.YtjhnfomefcngfaaSyU
import Derived.Test.YtjhnfomefcngfaaRows
namespace Go.Sy
open Go.Proofs
set_option maxRecDepth 100000
def tab:List Ty:=[
 ⟨.other,1,0,.und,false⟩,
 ⟨.other,1,8,.val (.nilFunc),false⟩,
 ⟨.int .i64,1,8,.val (.int .i64 0),false⟩,
 ⟨.int .i64,1,8,.val (.int .i64 0),false⟩,
 ⟨.bool,1,1,.val (.bool false),false⟩,
 ⟨.int .u8,1,1,.val (.int .u8 0),false⟩,
 ⟨.int .u8,1,1,.val (.int .u8 0),false⟩,
 ⟨.st [(0,2),(1,3),(2,4),(3,6)],4,24,.agg [.val (.int .i64 0),.val (.int .i64 0),.val (.bool false),.val (.int .u8 0)],true⟩,
 ⟨.st [(0,2),(1,3),(2,4),(3,6)],4,24,.agg [.val (.int .i64 0),.val (.int .i64 0),.val (.bool false),.val (.int .u8 0)],true⟩,
 ⟨.str,1,16,.str [],false⟩,
 ⟨.str,1,16,.str [],false⟩,
 ⟨.str,1,16,.str [],false⟩,
 ⟨.int .u64,1,8,.val (.int .u64 0),false⟩,
 ⟨.st [(0,9),(1,12)],2,24,.agg [.str [],.val (.int .u64 0)],false⟩,
 ⟨.st [(0,9),(1,12)],2,24,.agg [.str [],.val (.int .u64 0)],false⟩,
 ⟨.other,1,8,.val (.pointer none),false⟩,
 ⟨.other,1,8,.val (.pointer none),false⟩,
 ⟨.other,1,8,.val (.pointer none),false⟩,
 ⟨.st [(0,17)],1,8,.agg [.val (.pointer none)],false⟩,
 ⟨.st [(0,17)],1,8,.agg [.val (.pointer none)],false⟩,
 ⟨.other,1,16,.val (.nilIface),false⟩,
 ⟨.int .i32,1,4,.val (.int .i32 0),false⟩,
 ⟨.sl 44,1,24,.nilS,false⟩,
 ⟨.other,1,8,.val (.nilFunc),false⟩,
 ⟨.sl 40,1,24,.nilS,false⟩,
 ⟨.sl 3,1,24,.nilS,false⟩,
 ⟨.sl 25,1,24,.nilS,false⟩,
 ⟨.st [(0,3),(1,22),(2,24),(3,3),(4,3),(5,25),(6,26)],7,120,.agg [.val (.int .i64 0),.nilS,.nilS,.val (.int .i64 0),.val (.int .i64 0),.nilS,.nilS],false⟩,
 ⟨.st [(0,3),(1,22),(2,24),(3,3),(4,3),(5,25),(6,26)],7,120,.agg [.val (.int .i64 0),.nilS,.nilS,.val (.int .i64 0),.val (.int .i64 0),.nilS,.nilS],false⟩,
 ⟨.int .i64,1,8,.val (.int .i64 0),false⟩,
 ⟨.other,1,0,.und,false⟩,
 ⟨.other,1,8,.val (.nilFunc),false⟩,
 ⟨.other,1,8,.val (.nilFunc),false⟩,
 ⟨.other,1,8,.val (.nilFunc),false⟩,
 ⟨.other,1,8,.val (.nilFunc),false⟩,
 ⟨.other,1,8,.val (.nilFunc),false⟩,
 ⟨.other,1,0,.und,false⟩,
 ⟨.other,1,8,.val (.nilFunc),false⟩,
 ⟨.other,1,8,.val (.nilFunc),false⟩,
 ⟨.st [(0,3),(1,3),(2,3),(3,3),(4,3)],5,40,.agg [.val (.int .i64 0),.val (.int .i64 0),.val (.int .i64 0),.val (.int .i64 0),.val (.int .i64 0)],true⟩,
 ⟨.st [(0,3),(1,3),(2,3),(3,3),(4,3)],5,40,.agg [.val (.int .i64 0),.val (.int .i64 0),.val (.int .i64 0),.val (.int .i64 0),.val (.int .i64 0)],true⟩,
 ⟨.other,1,8,.val (.nilFunc),false⟩,
 ⟨.other,1,8,.val (.nilFunc),false⟩,
 ⟨.st [(0,3),(1,4),(2,4),(3,3),(4,3),(5,3)],6,40,.agg [.val (.int .i64 0),.val (.bool false),.val (.bool false),.val (.int .i64 0),.val (.int .i64 0),.val (.int .i64 0)],true⟩,
 ⟨.st [(0,3),(1,4),(2,4),(3,3),(4,3),(5,3)],6,40,.agg [.val (.int .i64 0),.val (.bool false),.val (.bool false),.val (.int .i64 0),.val (.int .i64 0),.val (.int .i64 0)],true⟩,
 ⟨.other,1,0,.und,false⟩,
 ⟨.other,1,8,.val (.nilFunc),false⟩,
 ⟨.other,1,8,.val (.nilFunc),false⟩,
 ⟨.other,1,8,.val (.nilFunc),false⟩,
 ⟨.other,1,0,.und,false⟩,
 ⟨.other,1,8,.val (.nilFunc),false⟩,
 ⟨.other,1,8,.val (.nilFunc),false⟩,
 ⟨.other,1,8,.val (.nilFunc),false⟩,
 ⟨.other,1,8,.val (.nilFunc),false⟩,
 ⟨.other,1,8,.val (.nilFunc),false⟩,
 ⟨.other,1,8,.val (.nilFunc),false⟩,
 ⟨.other,1,0,.und,false⟩,
 ⟨.other,1,8,.val (.nilFunc),false⟩,
 ⟨.other,1,8,.val (.nilFunc),false⟩,
 ⟨.other,1,0,.und,false⟩,
 ⟨.other,1,8,.val (.nilFunc),false⟩,
 ⟨.sl 64,1,24,.nilS,false⟩,
 ⟨.other,1,0,.und,false⟩,
 ⟨.other,1,8,.val (.nilFunc),false⟩,
 ⟨.sl 66,1,24,.nilS,false⟩,
 ⟨.st [(0,3),(1,3),(2,3),(3,3),(4,3),(5,9),(6,9),(7,3)],8,80,.agg [.val (.int .i64 0),.val (.int .i64 0),.val (.int .i64 0),.val (.int .i64 0),.val (.int .i64 0),.str [],.str [],.val (.int .i64 0)],true⟩,
 ⟨.st [(0,3),(1,3),(2,3),(3,3),(4,3),(5,9),(6,9),(7,3)],8,80,.agg [.val (.int .i64 0),.val (.int .i64 0),.val (.int .i64 0),.val (.int .i64 0),.val (.int .i64 0),.str [],.str [],.val (.int .i64 0)],true⟩,
 ⟨.other,1,8,.val (.nilFunc),false⟩,
 ⟨.other,1,8,.val (.nilFunc),false⟩,
 ⟨.other,1,8,.val (.nilFunc),false⟩,
 ⟨.arr 15 4,15,15,.agg [.val (.bool false),.val (.bool false),.val (.bool false),.val (.bool false),.val (.bool false),.val (.bool false),.val (.bool false),.val (.bool false),.val (.bool false),.val (.bool false),.val (.bool false),.val (.bool false),.val (.bool false),.val (.bool false),.val (.bool false)],true⟩,
 ⟨.other,1,8,.val (.nilFunc),false⟩,
 ⟨.other,1,8,.val (.nilFunc),false⟩,
 ⟨.other,1,0,.und,false⟩,
 ⟨.other,1,8,.val (.nilFunc),false⟩,
 ⟨.other,1,8,.val (.nilFunc),false⟩,
 ⟨.imap 3,1,8,.val (.map none),false⟩,
 ⟨.other,1,8,.val (.nilFunc),false⟩,
 ⟨.other,1,8,.val (.pointer none),false⟩,
 ⟨.other,1,8,.val (.nilFunc),false⟩,
 ⟨.other,1,8,.val (.nilFunc),false⟩,
 ⟨.other,1,8,.val (.nilFunc),false⟩,
 ⟨.other,1,0,.und,false⟩,
 ⟨.other,1,8,.val (.nilFunc),false⟩,
 ⟨.other,1,8,.val (.nilFunc),false⟩,
 ⟨.other,1,8,.val (.nilFunc),false⟩,
 ⟨.other,1,8,.val (.nilFunc),false⟩,
 ⟨.other,1,8,.val (.nilFunc),false⟩,
 ⟨.other,1,8,.val (.nilFunc),false⟩,
 ⟨.other,1,0,.und,false⟩,
 ⟨.other,1,8,.val (.nilFunc),false⟩,
 ⟨.other,1,8,.val (.nilFunc),false⟩,
 ⟨.other,1,0,.und,false⟩,
 ⟨.other,1,8,.val (.nilFunc),false⟩,
 ⟨.other,1,8,.val (.nilFunc),false⟩,
 ⟨.other,1,8,.val (.nilFunc),false⟩,
 ⟨.other,1,8,.val (.nilFunc),false⟩,
 ⟨.other,1,8,.val (.nilFunc),false⟩,
 ⟨.other,1,0,.und,false⟩,
 ⟨.other,1,8,.val (.nilFunc),false⟩,
 ⟨.other,1,8,.val (.nilFunc),false⟩,
 ⟨.other,1,8,.val (.nilFunc),false⟩,
 ⟨.other,1,8,.val (.nilFunc),false⟩,
 ⟨.other,1,8,.val (.nilFunc),false⟩,
 ⟨.other,1,0,.und,false⟩,
 ⟨.other,1,8,.val (.nilFunc),false⟩,
 ⟨.other,1,0,.und,false⟩,
 ⟨.other,1,8,.val (.nilFunc),false⟩,
 ⟨.other,1,8,.val (.nilFunc),false⟩,
 ⟨.sl 4,1,24,.nilS,false⟩,
 ⟨.other,1,8,.val (.nilFunc),false⟩,
 ⟨.other,1,8,.val (.nilFunc),false⟩,
 ⟨.other,1,8,.val (.nilFunc),false⟩,
 ⟨.other,1,8,.val (.nilFunc),false⟩,
 ⟨.sl 118,1,24,.nilS,false⟩,
 ⟨.st [(0,64)],1,24,.agg [.nilS],false⟩,
 ⟨.st [(0,64)],1,24,.agg [.nilS],false⟩,
 ⟨.st [(0,116),(1,3)],2,32,.agg [.nilS,.val (.int .i64 0)],false⟩,
 ⟨.st [(0,116),(1,3)],2,32,.agg [.nilS,.val (.int .i64 0)],false⟩,
 ⟨.other,1,8,.val (.nilFunc),false⟩,
 ⟨.other,1,8,.val (.nilFunc),false⟩,
 ⟨.other,1,8,.val (.nilFunc),false⟩,
 ⟨.other,1,8,.val (.pointer none),false⟩,
 ⟨.other,1,8,.val (.nilFunc),false⟩,
 ⟨.other,1,8,.val (.nilFunc),false⟩,
 ⟨.other,1,8,.val (.nilFunc),false⟩,
 ⟨.other,1,8,.val (.nilFunc),false⟩,
 ⟨.other,1,8,.val (.nilFunc),false⟩,
 ⟨.other,1,8,.val (.pointer none),false⟩,
 ⟨.sl 9,1,24,.nilS,false⟩,
 ⟨.other,1,8,.val (.nilFunc),false⟩,
 ⟨.st [(0,17),(1,17),(2,17),(3,9)],4,40,.agg [.val (.pointer none),.val (.pointer none),.val (.pointer none),.str []],false⟩,
 ⟨.st [(0,17),(1,17),(2,17),(3,9)],4,40,.agg [.val (.pointer none),.val (.pointer none),.val (.pointer none),.str []],false⟩,
 ⟨.arr 0 16,0,0,.agg [],false⟩,
 ⟨.st [(0,133)],0,0,.agg [],false⟩,
 ⟨.st [(0,133)],0,0,.agg [],false⟩,
 ⟨.other,1,8,.val (.nilFunc),false⟩,
 ⟨.int .u32,1,4,.val (.int .u32 0),false⟩,
 ⟨.int .u8,1,1,.val (.int .u8 0),false⟩,
 ⟨.int .u8,1,1,.val (.int .u8 0),false⟩,
 ⟨.other,1,8,.val (.nilFunc),false⟩,
 ⟨.other,1,8,.val (.pointer none),false⟩,
 ⟨.int .i32,1,4,.val (.int .i32 0),false⟩,
 ⟨.int .i32,1,4,.val (.int .i32 0),false⟩,
 ⟨.st [(0,12),(1,12),(2,137),(3,138),(4,5),(5,5),(6,139),(7,140),(8,141),(9,142),(10,143)],11,48,.agg [.val (.int .u64 0),.val (.int .u64 0),.val (.int .u32 0),.val (.int .u8 0),.val (.int .u8 0),.val (.int .u8 0),.val (.int .u8 0),.val (.nilFunc),.val (.pointer none),.val (.int .i32 0),.val (.int .i32 0)],false⟩,
 ⟨.st [(0,12),(1,12),(2,137),(3,138),(4,5),(5,5),(6,139),(7,140),(8,141),(9,142),(10,143)],11,48,.agg [.val (.int .u64 0),.val (.int .u64 0),.val (.int .u32 0),.val (.int .u8 0),.val (.int .u8 0),.val (.int .u8 0),.val (.int .u8 0),.val (.nilFunc),.val (.pointer none),.val (.int .i32 0),.val (.int .i32 0)],false⟩,
 ⟨.other,1,8,.val (.pointer none),false⟩]
def QD (P:Program):Nat->Nat->List (Option Ty)
 | 0,_=>[]
 | n+1,k=>Y0 P k :: QD P n (Nat.succ k)
def VQ:List Ty->List (Option Ty)
 | []=>[]
 | t :: l=>some t :: VQ l
theorem AfS:QD Try.prog 147 0 = VQ tab:=by kernel_rfl
theorem Sv (P:Program):∀ (n k j:Nat),j < n->(QD P n k)[j]? = some (Y0 P (k+j))
 | 0,_,_,h=>absurd h (Nat.not_lt_zero _)
 | n+1,k,0,_=>rfl
 | n+1,k,j+1,h=>by
  have:=Sv P n (Nat.succ k) j (Nat.lt_of_succ_lt_succ h)
  simp only [QD,List.getElem?_cons_succ,this]
  rw [show Nat.succ k+j = k+(j+1) by omega]
theorem Pu:∀ (l:List Ty) (j:Nat) (t:Ty),l[j]? = some t->(VQ l)[j]? = some (some t) ∧ j < l.length
 | [],_,_,h=>by simp at h
 | a :: l,0,t,h=>by simp at h; subst h; exact ⟨rfl,by simp⟩
 | a :: l,j+1,t,h=>by
  have:=Pu l j t (by simpa using h)
  exact ⟨by simpa [VQ] using this.1,by simp; exact this.2⟩
theorem Ace:tab.length = 147:=by kernel_rfl
theorem AfR (j:Nat) (t:Ty) (h:tab[j]? = some t):Y0 Try.prog j = some t:=by
 obtain ⟨h1,h2⟩:=Pu tab j t h
 rw [Ace] at h2
 rw [<- AfS,Sv _ _ _ _ h2] at h1
 simpa using h1
end Go.Sy
namespace Go.Proofs.Ytjhnfomefcngfaa.Ed
open Go.Sy
def Ain:List (List UInt8):=[[82,102,101],[82,102,105],[70,114,101],[70,114,105],[67,111,101],[67,111,105]]
def AlD:List (List UInt8):=[[82,82],[82,87],[87,82],[87,87]]
def Aj9:List (List UInt8):=[[114,46,114],[114,46,119],[114,46,114,119],[119,46,114],[119,46,119],[119,46,114,119],[114,119,46,114],[114,119,46,119],[114,119,46,114,119]]
def AlH:List (List UInt8):=[[68,112,65,100,100,114,100,82],[68,112,65,100,100,114,100,87],[68,112,65,100,100,114,115,82],[68,112,65,100,100,114,115,87],[68,112,68,97,116,97,100,87],
 [68,112,68,97,116,97,115,87],[68,112,67,116,114,108,100,82],[68,112,67,116,114,108,100,87],[68,112,67,116,114,108,115,82],[68,112,67,116,114,108,115,87]]
def Gl:Nat->V:=λ_=>.und
theorem AN:Try.prog.follows .mixedOrders = true:=by kernel_rfl
theorem AL:TabOK Try.prog tab:=⟨AfR,AbK⟩
theorem An2 {S:Nat->Prop} {W:World}:RK Gl S W:=λ_=>trivial
end Go.Proofs.Ytjhnfomefcngfaa.Ed
namespace Go.Proofs.Ytjhnfomefcngfaa.Ed
open Go.Sy
structure E6 where
 kind:Int
 ext:Bool
 same:Bool
 src:Int
 dst:Int
 fence:Int
 deriving DecidableEq
def eV (e:E6):V:=.agg [iV e.kind,bV e.ext,bV e.same,iV e.src,iV e.dst,iV e.fence]
def toE:V->Option E6
 | .agg [a,b,c,d,e,f]=>match gI a,gB b,gB c,gI d,gI e,gI f with
  | some a,some b,some c,some d,some e,some f=>some ⟨a,b,c,d,e,f⟩
  | _,_,_,_,_,_=>none
 | _=>none
theorem Nm {v:V} {e:E6} (h:toE v = some e):v = eV e:=by
 unfold toE at h
 split at h
 ·split at h
  ·rename_i h1 h2 h3 h4 h5 h6
   simp only [Option.some.injEq] at h
   subst h
   rw [FZ h1,Ro h2,Ro h3,FZ h4,FZ h5,FZ h6]
   rfl
  ·cases h
 ·cases h
def eqE (a b:E6):Bool:=Ak (ieq a.kind b.kind) (Ak (JM a.ext b.ext) (Ak (JM a.same b.same) (Ak (ieq a.src b.src) (Ak (ieq a.dst b.dst) (Ak (ieq a.fence b.fence) true)))))
theorem IR (a b:E6):eqE a b = true ↔ a = b:=by
 cases a; cases b
 simp [eqE,Ak,ieq,JM]
theorem Aa5 (a b:E6):eqE a b = eqE b a:=by
 rw [Bool.eq_iff_iff,IR,IR]
 exact eq_comm
def Dy (c:Nat):E6 :=
 if c < 6 then ⟨c / 2+1,c % 2 == 0,false,if c / 2 == 1 then 1 else 2,if c / 2 == 0 then 1 else 2,0⟩
 else if c < 102 then ⟨if (c - 6) / 8 == 0 then 4 else 5,false,decide (4 <= (c - 6) % 8),1+((c - 6) % 4 / 2:Nat),1+((c - 6) % 2:Nat),((c - 6) / 8:Nat)⟩
 else if c < 106 then ⟨6,false,decide (2 <= c - 102),1,1+((c - 102) % 2:Nat),0⟩
 else if c < 108 then ⟨7,false,c - 102 == 5,1,2,0⟩
 else ⟨8,false,decide (8 <= c - 102),1,1+((c - 102) % 2:Nat),0⟩
def FK:E6:=⟨0,false,false,0,0,0⟩
def inR (n:Int):Bool:=decide (0 <= n) && decide (n < 112)
theorem Tf {n:Int} (h:inR n = true):∃ k:Nat,n = (k:Int) ∧ k < 112:=by
 simp [inR] at h
 exact ⟨n.toNat,by omega,by omega⟩
theorem Aao {n:Int} (h:inR n = false):n < 0 ∨ 0 <= n ∧ 112 <= n:=by
 simp [inR] at h
 omega
def cx0:Cx:=AI Gl [] []
noncomputable def AlU:List V->T (V × List Blk):=λvs=>Ar (Ai tab cx0 Try.f119 vs [])
theorem Anl:A7 Try.prog Gl 119 AlU:=AP AL AN Try.func119 (by kernel_rfl) (by kernel_rfl) (AO AA.nil _)
noncomputable def AeH:List V->T (V × List Blk):=λvs=>Ar (Ai tab cx0 Try.f121 vs [])
theorem p74:A7 Try.prog Gl 121 AeH:=AP AL AN Try.func121 (by kernel_rfl) (by kernel_rfl) (AO AA.nil _)
noncomputable def Ab2:List V->T (V × List Blk):=λvs=>Ar (Ai tab cx0 Try.f122 vs [])
theorem p75:A7 Try.prog Gl 122 Ab2:=AP AL AN Try.func122 (by kernel_rfl) (by kernel_rfl) (AO AA.nil _)
noncomputable def AlV:List V->T (V × List Blk):=λvs=>Ar (Ai tab cx0 Try.f123 vs [])
theorem p76:A7 Try.prog Gl 123 AlV:=AP AL AN Try.func123 (by kernel_rfl) (by kernel_rfl) (AO AA.nil _)
noncomputable def tb0:List (Nat × (List V->T (V × List Blk))):=(121,AeH) :: (122,Ab2) :: (123,AlV) :: []
theorem C9:AA Try.prog Gl tb0:=.cons p74 <| .cons p75 <| .cons p76 .nil
noncomputable def Aim:Cx:=AI Gl tb0 []
def PF (c:Nat):List UInt8 :=
 if c < 6 then Ain.getD c []
 else if 102 <= c then AlH.getD (c - 102) []
 else (if (c - 6) / 8 = 0 then [80,111] else if (c - 6) / 8 = 1 then [77,70,101,110,99,101] else if (c - 6) / 8 = 2 then [70,101,110,99,101,46,116,115,111]
  else [70,101,110,99,101,46] ++ Aj9.getD ((c - 6) / 8 - 3) []) ++ ((if 4 <= (c - 6) % 8 then [115] else [100]) ++ AlD.getD ((c - 6) % 4) [])
end Go.Proofs.Ytjhnfomefcngfaa.Ed
namespace Go.Proofs.Ytjhnfomefcngfaa.Ed
open Go.Sy
theorem AhM:(List.range 112).map (λk:Nat=>(Ar (Ai tab cx0 Try.f119 [nV k] [])).sem) = (List.range 112).map λk=>some (eV (Dy k),[]):=by kernel_rfl
theorem Anv:(List.range 112).map (λk:Nat=>(Ar (Ai tab Aim Try.f114 [nV k] [])).sem) = (List.range 112).map λk=>some (.tup [eV (Dy k),iV 0],[]):=by kernel_rfl
theorem Alm (n:Int):(Ar (Ai tab Aim Try.f114 [iV n] [])).path [true,true,true,true] = some ([ilt n 0,ilt n 0,ilt n 0,true],(.tup [eV FK,iV 30],[])):=by kernel_rfl
theorem All (n:Int):(Ar (Ai tab Aim Try.f114 [iV n] [])).path [false,false,false,true] = some ([ilt n 0,ilt n 0,ilt n 0,ile 112 n],(.tup [eV FK,iV 30],[])):=by kernel_rfl
end Go.Proofs.Ytjhnfomefcngfaa.Ed
namespace Go.Proofs.Ytjhnfomefcngfaa.Ed
open Go.Sy
def codeT (f:Nat->V):List V->T (V × List Blk)
 | [v]=>match gI v with
  | some n=>.br (inR n) (.leaf (f n.toNat,[])) .fail
  | none=>.fail
 | _=>.fail
theorem V2 {f:Nat->V} {vs:List V} {r:V × List Blk} (h:(codeT f vs).sem = some r):∃ k:Nat,k < 112 ∧ vs = [nV k] ∧ r = (f k,[]):=by
 unfold codeT at h
 split at h
 ·split at h
  ·rename_i v n hn
   obtain ⟨h1,h2⟩:=Ad h
   obtain ⟨k,rfl,hk⟩:=Tf h1
   exact ⟨k,hk,by rw [FZ hn]; rfl,by rw [Ac h2]; rfl⟩
  ·cases h
 ·cases h
theorem p71:A7 Try.prog Gl 119 (codeT λk=>eV (Dy k)):=by
 refine Anl.congr λvs r h=>?_
 obtain ⟨k,hk,rfl,rfl⟩:=V2 h
 exact GT AhM k hk
def ofT:List V->T (V × List Blk)
 | [v]=>match gI v with
  | some n=>.br (inR n) (.leaf (.tup [eV (Dy n.toNat),iV 0],[])) (.leaf (.tup [eV FK,iV 30],[]))
  | none=>.fail
 | _=>.fail
theorem ZF {vs:List V} {r:V × List Blk} (h:(ofT vs).sem = some r):∃ n,vs = [iV n] ∧ ((∃ k:Nat,n = Int.ofNat k ∧ k < 112 ∧ r = (.tup [eV (Dy k),iV 0],[])) ∨ ((n < 0 ∨ 0 <= n ∧ 112 <= n) ∧ r = (.tup [eV FK,iV 30],[]))):=by
 unfold ofT at h
 split at h
 ·split at h
  ·rename_i v n hn
   refine ⟨n,by rw [FZ hn],?_⟩
   cases hi:inR n with
   | true =>
    obtain ⟨k,rfl,hk⟩:=Tf hi
    simp only [T.sem,hi,sel,cond_true,Option.some.injEq] at h
    exact .inl ⟨k,rfl,hk,h.symm⟩
   | false =>
    simp only [T.sem,hi,sel,cond_false,Option.some.injEq] at h
    exact .inr ⟨Aao hi,h.symm⟩
  ·cases h
 ·cases h
theorem AcN {a b:Int} (h:a < b):ilt a b = true:=by simpa [ilt] using h
theorem ZK {a b:Int} (h:b <= a):ilt a b = false:=by simp [ilt]; omega
theorem Ww {a b:Int} (h:a <= b):ile a b = true:=by simpa [ile] using h
theorem p31:A7 Try.prog Gl 114 ofT:=by
 refine A7.congr (AP AL AN Try.func114 (by kernel_rfl) (by kernel_rfl) (AO C9 [])) λvs r h=>?_
 obtain ⟨n,rfl,⟨k,rfl,hk,rfl⟩ | ⟨hn,rfl⟩⟩:=ZF h
 ·exact GT Anv k hk
 ·rcases hn with hn | ⟨h0,hn⟩
  ·exact AM (Alm n) (by rw [AcN hn])
  ·exact AM (All n) (by rw [ZK h0,Ww hn])
noncomputable def tb1:List (Nat × (List V->T (V × List Blk))):=(119,codeT λk=>eV (Dy k)) :: (114,ofT) :: []
theorem Ud:AA Try.prog Gl tb1:=.cons p71 <| .cons p31 .nil
noncomputable def cx1:Cx:=AI Gl tb1 [(0,⟨[],1,[],1,113⟩)]
def GA (e:E6):Nat->Nat->Option Nat
 | 0,_=>none
 | m+1,k=>match eqE (Dy k) e with
  | true=>some k
  | false=>GA e m (Nat.succ k)
def BP (e:E6):Int:=match GA e 112 0 with
 | some k=>Int.ofNat k
 | none=>0
def Bb (e:E6):Int:=match GA e 112 0 with
 | some _=>0
 | none=>30
def OD (e:E6):Nat->Nat->Option (V × List Blk)
 | 0,_=>some (.tup [iV 0,iV 30],[])
 | m+1,k=>sel (eqE (Dy k) e) (some (.tup [nV k,iV 0],[])) (OD e m (Nat.succ k))
def Rz (e:E6):Nat->Nat->Option (V × List Blk)
 | 0,_=>some (.tup [iV 0,iV 30],[])
 | m+1,k=>sel (eqE e (Dy k)) (some (.tup [nV k,iV 0],[])) (Rz e m (Nat.succ k))
theorem TB (e:E6):∀ m k,OD e m k = match GA e m k with
  | some j=>some (.tup [nV j,iV 0],[])
  | none=>some (.tup [iV 0,iV 30],[])
 | 0,k=>rfl
 | m+1,k=>by
  simp only [OD,GA]
  cases h:eqE (Dy k) e with
  | true=>rfl
  | false=>exact TB e m (Nat.succ k)
theorem Qb (e:E6):∀ m k,Rz e m k = OD e m k
 | 0,_=>rfl
 | m+1,k=>by
  simp only [OD,Rz,Qb e m,Aa5 e]
theorem Qa (e:E6):OD e 112 0 = some (.tup [iV (BP e),iV (Bb e)],[]):=by
 rw [TB]
 unfold BP Bb
 cases GA e 112 0 <;> rfl
theorem Aip (e:E6):(Ar (Ai tab cx1 Try.f112 [eV e] [])).sem = OD e 112 0:=by kernel_rfl
theorem Aio (e:E6):(Ar (Ai tab cx1 Try.f98 [eV e] [])).sem = Rz e 112 0:=by kernel_rfl
def BO (f:E6->V):List V->T (V × List Blk)
 | [v]=>match toE v with
  | some e=>.leaf (f e,[])
  | none=>.fail
 | _=>.fail
theorem BU {f:E6->V} {vs:List V} {r:V × List Blk} (h:(BO f vs).sem = some r):∃ e,vs = [eV e] ∧ r = (f e,[]):=by
 unfold BO at h
 split at h
 ·split at h
  ·rename_i v e hn
   exact ⟨e,by rw [Nm hn],Ac h⟩
  ·cases h
 ·cases h
def TC (e:E6):V:=.tup [iV (BP e),iV (Bb e)]
theorem p24:A7 Try.prog Gl 112 (BO TC):=by
 refine A7.congr (AP AL AN Try.func112 (by kernel_rfl) (by kernel_rfl) (Γ:=cx1) (AO Ud _)) λvs r h=>?_
 obtain ⟨e,rfl,rfl⟩:=BU h
 exact (Aip e).trans (Qa e)
theorem p25:A7 Try.prog Gl 98 (BO TC):=by
 refine A7.congr (AP AL AN Try.func98 (by kernel_rfl) (by kernel_rfl) (Γ:=cx1) (AO Ud _)) λvs r h=>?_
 obtain ⟨e,rfl,rfl⟩:=BU h
 exact (Aio e).trans ((Qb e 112 0).trans (Qa e))
end Go.Proofs.Ytjhnfomefcngfaa.Ed
namespace Go.Proofs.Ytjhnfomefcngfaa.Ed
open Go.Sy
noncomputable def tb2:List (Nat × (List V->T (V × List Blk))):=(112,BO TC) :: (98,BO TC) :: tb1
theorem YH:AA Try.prog Gl tb2:=.cons p24 <| .cons p25 Ud
noncomputable def cx2:Cx:=AI Gl tb2 []
theorem AdC (e:E6):(Ar (Ai tab cx2 Try.f64 [eV e] [])).sem = some (iV (Bb e),[]):=by kernel_rfl
theorem p29:A7 Try.prog Gl 64 (BO λe=>iV (Bb e)):=by
 refine A7.congr (AP AL AN Try.func64 (by kernel_rfl) (by kernel_rfl) (Γ:=cx2) (AO YH _)) λvs r h=>?_
 obtain ⟨e,rfl,rfl⟩:=BU h
 exact AdC e
theorem J6 (e:E6):∀ m k j,GA e m k = some j->k <= j ∧ j < k+m ∧ Dy j = e
 | 0,k,j,h=>by cases h
 | m+1,k,j,h=>by
  simp only [GA] at h
  split at h
  ·rename_i he
   simp only [Option.some.injEq] at h
   subst h
   exact ⟨Nat.le_refl _,by omega,(IR _ _).1 he⟩
  ·obtain ⟨h1,h2,h3⟩:=J6 e m _ j h
   exact ⟨by omega,by omega,h3⟩
def SK (e:E6):List UInt8:=match GA e 112 0 with
 | some k=>PF k
 | none=>[]
def Wr (e:E6):V:=.tup [.str (SK e),iV (Bb e)]
noncomputable def tb3:List (Nat × (List V->T (V × List Blk))):=(64,BO λe=>iV (Bb e)) :: tb2
theorem YG:AA Try.prog Gl tb3:=.cons p29 YH
noncomputable def tbn:List (Nat × (List V->T (V × List Blk))):=(124,λvs=>Ar (Ai tab cx0 Try.f124 vs [])) :: (126,λvs=>Ar (Ai tab cx0 Try.f126 vs [])) :: []
theorem Y7:AA Try.prog Gl tbn :=
 .cons (AP AL AN Try.func124 (by kernel_rfl) (by kernel_rfl) (Γ:=cx0) (AO .nil _)) <|
 .cons (AP AL AN Try.func126 (by kernel_rfl) (by kernel_rfl) (Γ:=cx0) (AO .nil _)) .nil
noncomputable def cxn:Cx:=AI Gl tbn []
noncomputable def tb4:List (Nat × (List V->T (V × List Blk))):=(125,λvs=>Ar (Ai tab cxn Try.f125 vs [])) :: (tbn ++ tb3)
theorem AA.append {P:Program} {G:Nat->V} {a b:List (Nat × (List V->T (V × List Blk)))} (ha:AA P G a) (hb:AA P G b):AA P G (a ++ b):=λp hp=>(List.mem_append.1 hp).elim (ha p) (hb p)
theorem AfQ:AA Try.prog Gl tb4 :=
 .cons (AP AL AN Try.func125 (by kernel_rfl) (by kernel_rfl) (Γ:=cxn) (AO Y7 _)) (AA.append Y7 YG)
noncomputable def cx4:Cx:=AI Gl tb4 []
theorem AhJ:(List.range 112).map (λk:Nat=>(Ar (Ai tab cx4 Try.f115 [eV (Dy k)] [])).sem) = (List.range 112).map λk=>some (.tup [.str (PF k),iV 0],[]):=by kernel_rfl
theorem AcJ (e:E6):(Ar (Ai tab cx4 Try.f115 [eV e] [])).path [true] = some ([AG (ieq (Bb e) 0)],(.tup [.str [],iV 30],[])):=by kernel_rfl
theorem AcI (e:E6):(Ar (Ai tab cx4 Try.f115 [eV e] [])).sem = some (Wr e,[]):=by
 unfold Wr SK
 cases h:GA e 112 0 with
 | none =>
  have hf:Bb e = 30:=by unfold Bb; rw [h]
  rw [hf]
  exact AM (AcJ e) (by rw [hf]; rfl)
 | some k =>
  have hf:Bb e = 0:=by unfold Bb; rw [h]
  obtain ⟨_,hk,rfl⟩:=J6 e 112 0 k h
  rw [hf]
  exact GT AhJ k (by omega)
theorem p27:A7 Try.prog Gl 115 (BO Wr):=by
 refine A7.congr (AP AL AN Try.func115 (by kernel_rfl) (by kernel_rfl) (Γ:=cx4) (AO AfQ _)) λvs r h=>?_
 obtain ⟨e,rfl,rfl⟩:=BU h
 exact AcI e
end Go.Proofs.Ytjhnfomefcngfaa.Ed
namespace Go.Proofs.Ytjhnfomefcngfaa.Ed
open Go.Sy
noncomputable def tb5:List (Nat × (List V->T (V × List Blk))):=(115,BO Wr) :: tb3
theorem YE:AA Try.prog Gl tb5:=.cons p27 <| YG
noncomputable def cx5:Cx:=AI Gl tb5 [(0,⟨[],1,[],1,113⟩)]
def PQ (s:List UInt8):Nat->Nat->Option Nat
 | 0,_=>none
 | m+1,k=>match seq (PF k) s with
  | true=>some k
  | false=>PQ s m (Nat.succ k)
def EO (s:List UInt8):E6:=match PQ s 112 0 with
 | some k=>Dy k
 | none=>FK
def EN (s:List UInt8):Int:=match PQ s 112 0 with
 | some _=>0
 | none=>30
def NK (s:List UInt8):Nat->Nat->Option (V × List Blk)
 | 0,_=>some (.tup [eV FK,iV 30],[])
 | m+1,k=>sel (seq (PF k) s) (some (.tup [eV (Dy k),iV 0],[])) (NK s m (Nat.succ k))
theorem P9 (s:List UInt8):∀ m k,NK s m k = match PQ s m k with
  | some j=>some (.tup [eV (Dy j),iV 0],[])
  | none=>some (.tup [eV FK,iV 30],[])
 | 0,k=>rfl
 | m+1,k=>by
  simp only [NK,PQ]
  cases h:seq (PF k) s with
  | true=>rfl
  | false=>exact P9 s m (Nat.succ k)
theorem UD (s:List UInt8):NK s 112 0 = some (.tup [eV (EO s),iV (EN s)],[]):=by
 rw [P9]
 unfold EO EN
 cases PQ s 112 0 <;> rfl
theorem AcA (s:List UInt8):(Ar (Ai tab cx5 Try.f97 [.str s] [])).sem = NK s 112 0:=by kernel_rfl
def RR (f:List UInt8->V):List V->T (V × List Blk)
 | [v]=>match gS v with
  | some e=>.leaf (f e,[])
  | none=>.fail
 | _=>.fail
theorem TZ {f:List UInt8->V} {vs:List V} {r:V × List Blk} (h:(RR f vs).sem = some r):∃ e,vs = [.str e] ∧ r = (f e,[]):=by
 unfold RR at h
 split at h
 ·split at h
  ·rename_i v e hn
   exact ⟨e,by rw [Ad1 hn],Ac h⟩
  ·cases h
 ·cases h
def UE (s:List UInt8):V:=.tup [eV (EO s),iV (EN s)]
theorem p22:A7 Try.prog Gl 97 (RR UE):=by
 refine A7.congr (AP AL AN Try.func97 (by kernel_rfl) (by kernel_rfl) (Γ:=cx5) (AO YE _)) λvs r h=>?_
 obtain ⟨e,rfl,rfl⟩:=TZ h
 exact (AcA e).trans (UD e)
noncomputable def tb6:List (Nat × (List V->T (V × List Blk))):=(97,RR UE) :: tb5
theorem Nq:AA Try.prog Gl tb6:=.cons p22 YE
noncomputable def cx6:Cx:=AI Gl tb6 []
def Yz (f:V):List V->T (V × List Blk)
 | []=>.leaf (f,[])
 | _=>.fail
noncomputable def tb7:List (Nat × (List V->T (V × List Blk))):=tb6
theorem AfO:AA Try.prog Gl tb7:=Nq
theorem EB (a:Int):ieq a a = true:=by simp [ieq]
end Go.Proofs.Ytjhnfomefcngfaa.Ed
