/-
  The table of the program's types, as the evaluator asks of them, and that it is the program's own. No conditions.
-/
import Derived.Test.YtjhnfomefcngfaaSyA
import Derived.Test.YtjhnfomefcngfaaProg
import Derived.KernelRfl
import Derived.Test.YtjhnfomefcngfaaSyU
import Derived.Test.YtjhnfomefcngfaaRows
namespace Go.Sy
open Go.Proofs
set_option maxRecDepth 100000
def tab:List Ty:=[
  ⟨.other,1,0,.und,false⟩,
  ⟨.other,1,8,.val (.nilFunc),false⟩,
  ⟨.int .i64,1,8,.val (.int .i64 0),false⟩,
  ⟨.int .i64,1,8,.val (.int .i64 0),false⟩,
  ⟨.bool,1,1,.val (.bool false),false⟩,
  ⟨.int .u8,1,1,.val (.int .u8 0),false⟩,
  ⟨.int .u8,1,1,.val (.int .u8 0),false⟩,
  ⟨.st [(0,2),(1,3),(2,4),(3,6)],4,24,.agg [.val (.int .i64 0),.val (.int .i64 0),.val (.bool false),.val (.int .u8 0)],true⟩,
  ⟨.st [(0,2),(1,3),(2,4),(3,6)],4,24,.agg [.val (.int .i64 0),.val (.int .i64 0),.val (.bool false),.val (.int .u8 0)],true⟩,
  ⟨.str,1,16,.str [],false⟩,
  ⟨.str,1,16,.str [],false⟩,
  ⟨.str,1,16,.str [],false⟩,
  ⟨.int .u64,1,8,.val (.int .u64 0),false⟩,
  ⟨.st [(0,9),(1,12)],2,24,.agg [.str [],.val (.int .u64 0)],false⟩,
  ⟨.st [(0,9),(1,12)],2,24,.agg [.str [],.val (.int .u64 0)],false⟩,
  ⟨.other,1,8,.val (.pointer none),false⟩,
  ⟨.other,1,8,.val (.pointer none),false⟩,
  ⟨.other,1,8,.val (.pointer none),false⟩,
  ⟨.st [(0,17)],1,8,.agg [.val (.pointer none)],false⟩,
  ⟨.st [(0,17)],1,8,.agg [.val (.pointer none)],false⟩,
  ⟨.other,1,16,.val (.nilIface),false⟩,
  ⟨.int .i32,1,4,.val (.int .i32 0),false⟩,
  ⟨.sl 44,1,24,.nilS,false⟩,
  ⟨.other,1,8,.val (.nilFunc),false⟩,
  ⟨.sl 40,1,24,.nilS,false⟩,
  ⟨.sl 3,1,24,.nilS,false⟩,
  ⟨.sl 25,1,24,.nilS,false⟩,
  ⟨.st [(0,3),(1,22),(2,24),(3,3),(4,3),(5,25),(6,26)],7,120,.agg [.val (.int .i64 0),.nilS,.nilS,.val (.int .i64 0),.val (.int .i64 0),.nilS,.nilS],false⟩,
  ⟨.st [(0,3),(1,22),(2,24),(3,3),(4,3),(5,25),(6,26)],7,120,.agg [.val (.int .i64 0),.nilS,.nilS,.val (.int .i64 0),.val (.int .i64 0),.nilS,.nilS],false⟩,
  ⟨.int .i64,1,8,.val (.int .i64 0),false⟩,
  ⟨.other,1,0,.und,false⟩,
  ⟨.other,1,8,.val (.nilFunc),false⟩,
  ⟨.other,1,8,.val (.nilFunc),false⟩,
  ⟨.other,1,8,.val (.nilFunc),false⟩,
  ⟨.other,1,8,.val (.nilFunc),false⟩,
  ⟨.other,1,8,.val (.nilFunc),false⟩,
  ⟨.other,1,0,.und,false⟩,
  ⟨.other,1,8,.val (.nilFunc),false⟩,
  ⟨.other,1,8,.val (.nilFunc),false⟩,
  ⟨.st [(0,3),(1,3),(2,3),(3,3),(4,3)],5,40,.agg [.val (.int .i64 0),.val (.int .i64 0),.val (.int .i64 0),.val (.int .i64 0),.val (.int .i64 0)],true⟩,
  ⟨.st [(0,3),(1,3),(2,3),(3,3),(4,3)],5,40,.agg [.val (.int .i64 0),.val (.int .i64 0),.val (.int .i64 0),.val (.int .i64 0),.val (.int .i64 0)],true⟩,
  ⟨.other,1,8,.val (.nilFunc),false⟩,
  ⟨.other,1,8,.val (.nilFunc),false⟩,
  ⟨.st [(0,3),(1,4),(2,4),(3,3),(4,3),(5,3)],6,40,.agg [.val (.int .i64 0),.val (.bool false),.val (.bool false),.val (.int .i64 0),.val (.int .i64 0),.val (.int .i64 0)],true⟩,
  ⟨.st [(0,3),(1,4),(2,4),(3,3),(4,3),(5,3)],6,40,.agg [.val (.int .i64 0),.val (.bool false),.val (.bool false),.val (.int .i64 0),.val (.int .i64 0),.val (.int .i64 0)],true⟩,
  ⟨.other,1,0,.und,false⟩,
  ⟨.other,1,8,.val (.nilFunc),false⟩,
  ⟨.other,1,8,.val (.nilFunc),false⟩,
  ⟨.other,1,8,.val (.nilFunc),false⟩,
  ⟨.other,1,0,.und,false⟩,
  ⟨.other,1,8,.val (.nilFunc),false⟩,
  ⟨.other,1,8,.val (.nilFunc),false⟩,
  ⟨.other,1,8,.val (.nilFunc),false⟩,
  ⟨.other,1,8,.val (.nilFunc),false⟩,
  ⟨.other,1,8,.val (.nilFunc),false⟩,
  ⟨.other,1,8,.val (.nilFunc),false⟩,
  ⟨.other,1,0,.und,false⟩,
  ⟨.other,1,8,.val (.nilFunc),false⟩,
  ⟨.other,1,8,.val (.nilFunc),false⟩,
  ⟨.other,1,0,.und,false⟩,
  ⟨.other,1,8,.val (.nilFunc),false⟩,
  ⟨.sl 64,1,24,.nilS,false⟩,
  ⟨.other,1,0,.und,false⟩,
  ⟨.other,1,8,.val (.nilFunc),false⟩,
  ⟨.sl 66,1,24,.nilS,false⟩,
  ⟨.st [(0,3),(1,3),(2,3),(3,3),(4,3),(5,9),(6,9),(7,3)],8,80,.agg [.val (.int .i64 0),.val (.int .i64 0),.val (.int .i64 0),.val (.int .i64 0),.val (.int .i64 0),.str [],.str [],.val (.int .i64 0)],true⟩,
  ⟨.st [(0,3),(1,3),(2,3),(3,3),(4,3),(5,9),(6,9),(7,3)],8,80,.agg [.val (.int .i64 0),.val (.int .i64 0),.val (.int .i64 0),.val (.int .i64 0),.val (.int .i64 0),.str [],.str [],.val (.int .i64 0)],true⟩,
  ⟨.other,1,8,.val (.nilFunc),false⟩,
  ⟨.other,1,8,.val (.nilFunc),false⟩,
  ⟨.other,1,8,.val (.nilFunc),false⟩,
  ⟨.arr 15 4,15,15,.agg [.val (.bool false),.val (.bool false),.val (.bool false),.val (.bool false),.val (.bool false),.val (.bool false),.val (.bool false),.val (.bool false),.val (.bool false),.val (.bool false),.val (.bool false),.val (.bool false),.val (.bool false),.val (.bool false),.val (.bool false)],true⟩,
  ⟨.other,1,8,.val (.nilFunc),false⟩,
  ⟨.other,1,8,.val (.nilFunc),false⟩,
  ⟨.other,1,0,.und,false⟩,
  ⟨.other,1,8,.val (.nilFunc),false⟩,
  ⟨.other,1,8,.val (.nilFunc),false⟩,
  ⟨.imap 3,1,8,.val (.map none),false⟩,
  ⟨.other,1,8,.val (.nilFunc),false⟩,
  ⟨.other,1,8,.val (.pointer none),false⟩,
  ⟨.other,1,8,.val (.nilFunc),false⟩,
  ⟨.other,1,8,.val (.nilFunc),false⟩,
  ⟨.other,1,8,.val (.nilFunc),false⟩,
  ⟨.other,1,0,.und,false⟩,
  ⟨.other,1,8,.val (.nilFunc),false⟩,
  ⟨.other,1,8,.val (.nilFunc),false⟩,
  ⟨.other,1,8,.val (.nilFunc),false⟩,
  ⟨.other,1,8,.val (.nilFunc),false⟩,
  ⟨.other,1,8,.val (.nilFunc),false⟩,
  ⟨.other,1,8,.val (.nilFunc),false⟩,
  ⟨.other,1,0,.und,false⟩,
  ⟨.other,1,8,.val (.nilFunc),false⟩,
  ⟨.other,1,8,.val (.nilFunc),false⟩,
  ⟨.other,1,0,.und,false⟩,
  ⟨.other,1,8,.val (.nilFunc),false⟩,
  ⟨.other,1,8,.val (.nilFunc),false⟩,
  ⟨.other,1,8,.val (.nilFunc),false⟩,
  ⟨.other,1,8,.val (.nilFunc),false⟩,
  ⟨.other,1,8,.val (.nilFunc),false⟩,
  ⟨.other,1,0,.und,false⟩,
  ⟨.other,1,8,.val (.nilFunc),false⟩,
  ⟨.other,1,8,.val (.nilFunc),false⟩,
  ⟨.other,1,8,.val (.nilFunc),false⟩,
  ⟨.other,1,8,.val (.nilFunc),false⟩,
  ⟨.other,1,8,.val (.nilFunc),false⟩,
  ⟨.other,1,0,.und,false⟩,
  ⟨.other,1,8,.val (.nilFunc),false⟩,
  ⟨.other,1,0,.und,false⟩,
  ⟨.other,1,8,.val (.nilFunc),false⟩,
  ⟨.other,1,8,.val (.nilFunc),false⟩,
  ⟨.sl 4,1,24,.nilS,false⟩,
  ⟨.other,1,8,.val (.nilFunc),false⟩,
  ⟨.other,1,8,.val (.nilFunc),false⟩,
  ⟨.other,1,8,.val (.nilFunc),false⟩,
  ⟨.other,1,8,.val (.nilFunc),false⟩,
  ⟨.sl 118,1,24,.nilS,false⟩,
  ⟨.st [(0,64)],1,24,.agg [.nilS],false⟩,
  ⟨.st [(0,64)],1,24,.agg [.nilS],false⟩,
  ⟨.st [(0,116),(1,3)],2,32,.agg [.nilS,.val (.int .i64 0)],false⟩,
  ⟨.st [(0,116),(1,3)],2,32,.agg [.nilS,.val (.int .i64 0)],false⟩,
  ⟨.other,1,8,.val (.nilFunc),false⟩,
  ⟨.other,1,8,.val (.nilFunc),false⟩,
  ⟨.other,1,8,.val (.nilFunc),false⟩,
  ⟨.other,1,8,.val (.pointer none),false⟩,
  ⟨.other,1,8,.val (.nilFunc),false⟩,
  ⟨.other,1,8,.val (.nilFunc),false⟩,
  ⟨.other,1,8,.val (.nilFunc),false⟩,
  ⟨.other,1,8,.val (.nilFunc),false⟩,
  ⟨.other,1,8,.val (.nilFunc),false⟩,
  ⟨.other,1,8,.val (.pointer none),false⟩,
  ⟨.sl 9,1,24,.nilS,false⟩,
  ⟨.other,1,8,.val (.nilFunc),false⟩,
  ⟨.st [(0,17),(1,17),(2,17),(3,9)],4,40,.agg [.val (.pointer none),.val (.pointer none),.val (.pointer none),.str []],false⟩,
  ⟨.st [(0,17),(1,17),(2,17),(3,9)],4,40,.agg [.val (.pointer none),.val (.pointer none),.val (.pointer none),.str []],false⟩,
  ⟨.arr 0 16,0,0,.agg [],false⟩,
  ⟨.st [(0,133)],0,0,.agg [],false⟩,
  ⟨.st [(0,133)],0,0,.agg [],false⟩,
  ⟨.other,1,8,.val (.nilFunc),false⟩,
  ⟨.int .u32,1,4,.val (.int .u32 0),false⟩,
  ⟨.int .u8,1,1,.val (.int .u8 0),false⟩,
  ⟨.int .u8,1,1,.val (.int .u8 0),false⟩,
  ⟨.other,1,8,.val (.nilFunc),false⟩,
  ⟨.other,1,8,.val (.pointer none),false⟩,
  ⟨.int .i32,1,4,.val (.int .i32 0),false⟩,
  ⟨.int .i32,1,4,.val (.int .i32 0),false⟩,
  ⟨.st [(0,12),(1,12),(2,137),(3,138),(4,5),(5,5),(6,139),(7,140),(8,141),(9,142),(10,143)],11,48,.agg [.val (.int .u64 0),.val (.int .u64 0),.val (.int .u32 0),.val (.int .u8 0),.val (.int .u8 0),.val (.int .u8 0),.val (.int .u8 0),.val (.nilFunc),.val (.pointer none),.val (.int .i32 0),.val (.int .i32 0)],false⟩,
  ⟨.st [(0,12),(1,12),(2,137),(3,138),(4,5),(5,5),(6,139),(7,140),(8,141),(9,142),(10,143)],11,48,.agg [.val (.int .u64 0),.val (.int .u64 0),.val (.int .u32 0),.val (.int .u8 0),.val (.int .u8 0),.val (.int .u8 0),.val (.int .u8 0),.val (.nilFunc),.val (.pointer none),.val (.int .i32 0),.val (.int .i32 0)],false⟩,
  ⟨.other,1,8,.val (.pointer none),false⟩]
def PW (P:Program):Nat->Nat->List (Option Ty)
  | 0,_=>[]
  | n+1,k=>Xn P k :: PW P n (Nat.succ k)
def UD:List Ty->List (Option Ty)
  | []=>[]
  | t :: l=>some t :: UD l
theorem AdH:PW Try.prog 147 0 = UD tab:=by kernel_rfl
theorem Rw (P:Program):∀ (n k j:Nat),j < n->(PW P n k)[j]? = some (Xn P (k+j))
  | 0,_,_,h=>absurd h (Nat.not_lt_zero _)
  | n+1,k,0,_=>rfl
  | n+1,k,j+1,h=>by
    have:=Rw P n (Nat.succ k) j (Nat.lt_of_succ_lt_succ h)
    simp only [PW,List.getElem?_cons_succ,this]
    rw [show Nat.succ k+j = k+(j+1) by omega]
theorem OP:∀ (l:List Ty) (j:Nat) (t:Ty),l[j]? = some t->(UD l)[j]? = some (some t) ∧ j < l.length
  | [],_,_,h=>by simp at h
  | a :: l,0,t,h=>by simp at h; subst h; exact ⟨rfl,by simp⟩
  | a :: l,j+1,t,h=>by
    have:=OP l j t (by simpa using h)
    exact ⟨by simpa [UD] using this.1,by simp; exact this.2⟩
theorem Aa5:tab.length = 147:=by kernel_rfl
theorem AdG (j:Nat) (t:Ty) (h:tab[j]? = some t):Xn Try.prog j = some t:=by
  obtain ⟨h1,h2⟩:=OP tab j t h
  rw [Aa5] at h2
  rw [<- AdH,Rw _ _ _ _ h2] at h1
  simpa using h1
end Go.Sy
namespace Go.Proofs.Ytjhnfomefcngfaa.Ed
open Go.Sy
def AfX:List (List UInt8):=[[82,102,101],[82,102,105],[70,114,101],[70,114,105],[67,111,101],[67,111,105]]
def AiR:List (List UInt8):=[[82,82],[82,87],[87,82],[87,87]]
def Ahk:List (List UInt8):=[[114,46,114],[114,46,119],[114,46,114,119],[119,46,114],[119,46,119],[119,46,114,119],[114,119,46,114],[114,119,46,119],[114,119,46,114,119]]
def AiU:List (List UInt8):=[[68,112,65,100,100,114,100,82],[68,112,65,100,100,114,100,87],[68,112,65,100,100,114,115,82],[68,112,65,100,100,114,115,87],[68,112,68,97,116,97,100,87],
  [68,112,68,97,116,97,115,87],[68,112,67,116,114,108,100,82],[68,112,67,116,114,108,100,87],[68,112,67,116,114,108,115,82],[68,112,67,116,114,108,115,87]]
def Gl:Nat->V:=fun _=>.und
theorem AP:Try.prog.follows .mixedOrders = true:=by kernel_rfl
theorem AO:TabOK Try.prog tab:=⟨AdG,Aao⟩
theorem Aks {S:Nat->Prop} {W:World}:Re Gl S W:=fun _=>trivial
end Go.Proofs.Ytjhnfomefcngfaa.Ed
namespace Go.Proofs.Ytjhnfomefcngfaa.Ed
open Go.Sy
structure E6 where
  kind:Int
  ext:Bool
  same:Bool
  src:Int
  dst:Int
  fence:Int
  deriving DecidableEq
def eV (e:E6):V:=.agg [iV e.kind,bV e.ext,bV e.same,iV e.src,iV e.dst,iV e.fence]
def toE:V->Option E6
  | .agg [a,b,c,d,e,f]=>match gI a,gB b,gB c,gI d,gI e,gI f with
    | some a,some b,some c,some d,some e,some f=>some ⟨a,b,c,d,e,f⟩
    | _,_,_,_,_,_=>none
  | _=>none
theorem MB {v:V} {e:E6} (h:toE v = some e):v = eV e:=by
  unfold toE at h
  split at h
  · split at h
    · rename_i h1 h2 h3 h4 h5 h6
      simp only [Option.some.injEq] at h
      subst h
      rw [FU h1,Qy h2,Qy h3,FU h4,FU h5,FU h6]
      rfl
    · cases h
  · cases h
def eqE (a b:E6):Bool:=Af (ieq a.kind b.kind) (Af (L4 a.ext b.ext) (Af (L4 a.same b.same) (Af (ieq a.src b.src) (Af (ieq a.dst b.dst) (Af (ieq a.fence b.fence) true)))))
theorem IX (a b:E6):eqE a b = true ↔ a = b:=by
  cases a; cases b
  simp [eqE,Af,ieq,L4]
theorem Zp (a b:E6):eqE a b = eqE b a:=by
  rw [Bool.eq_iff_iff,IX,IX]
  exact eq_comm
def Du (c:Nat):E6 :=
  if c < 6 then ⟨c / 2+1,c % 2 == 0,false,if c / 2 == 1 then 1 else 2,if c / 2 == 0 then 1 else 2,0⟩
  else if c < 102 then ⟨if (c - 6) / 8 == 0 then 4 else 5,false,decide (4 <= (c - 6) % 8),1+((c - 6) % 4 / 2:Nat),1+((c - 6) % 2:Nat),((c - 6) / 8:Nat)⟩
  else if c < 106 then ⟨6,false,decide (2 <= c - 102),1,1+((c - 102) % 2:Nat),0⟩
  else if c < 108 then ⟨7,false,c - 102 == 5,1,2,0⟩
  else ⟨8,false,decide (8 <= c - 102),1,1+((c - 102) % 2:Nat),0⟩
def FF:E6:=⟨0,false,false,0,0,0⟩
def inR (n:Int):Bool:=decide (0 <= n) && decide (n < 112)
theorem Sf {n:Int} (h:inR n = true):∃ k:Nat,n = (k:Int) ∧ k < 112:=by
  simp [inR] at h
  exact ⟨n.toNat,by omega,by omega⟩
theorem YX {n:Int} (h:inR n = false):n < 0 ∨ 0 <= n ∧ 112 <= n:=by
  simp [inR] at h
  omega
def cx0:Cx:=AR Gl [] []
noncomputable def AiZ:List V->T (V × List Blk):=fun vs=>A1 (Al tab cx0 Try.f119 vs [])
theorem Aki:AD Try.prog Gl 119 AiZ:=AS AO AP Try.func119 (by kernel_rfl) (by kernel_rfl) (AQ AF.nil _)
noncomputable def Ac8:List V->T (V × List Blk):=fun vs=>A1 (Al tab cx0 Try.f121 vs [])
theorem p74:AD Try.prog Gl 121 Ac8:=AS AO AP Try.func121 (by kernel_rfl) (by kernel_rfl) (AQ AF.nil _)
noncomputable def ZX:List V->T (V × List Blk):=fun vs=>A1 (Al tab cx0 Try.f122 vs [])
theorem p75:AD Try.prog Gl 122 ZX:=AS AO AP Try.func122 (by kernel_rfl) (by kernel_rfl) (AQ AF.nil _)
noncomputable def Aja:List V->T (V × List Blk):=fun vs=>A1 (Al tab cx0 Try.f123 vs [])
theorem p76:AD Try.prog Gl 123 Aja:=AS AO AP Try.func123 (by kernel_rfl) (by kernel_rfl) (AQ AF.nil _)
noncomputable def tb0:List (Nat × (List V->T (V × List Blk))):=(121,Ac8) :: (122,ZX) :: (123,Aja) :: []
theorem CU:AF Try.prog Gl tb0:=.cons p74 <| .cons p75 <| .cons p76 .nil
noncomputable def AfV:Cx:=AR Gl tb0 []
def Ph (c:Nat):List UInt8 :=
  if c < 6 then AfX.getD c []
  else if 102 <= c then AiU.getD (c - 102) []
  else (if (c - 6) / 8 = 0 then [80,111] else if (c - 6) / 8 = 1 then [77,70,101,110,99,101] else if (c - 6) / 8 = 2 then [70,101,110,99,101,46,116,115,111]
    else [70,101,110,99,101,46] ++ Ahk.getD ((c - 6) / 8 - 3) []) ++ ((if 4 <= (c - 6) % 8 then [115] else [100]) ++ AiR.getD ((c - 6) % 4) [])
end Go.Proofs.Ytjhnfomefcngfaa.Ed
namespace Go.Proofs.Ytjhnfomefcngfaa.Ed
open Go.Sy
theorem AfE:(List.range 112).map (fun k:Nat=>(A1 (Al tab cx0 Try.f119 [nV k] [])).sem) = (List.range 112).map fun k=>some (eV (Du k),[]):=by kernel_rfl
theorem Akp:(List.range 112).map (fun k:Nat=>(A1 (Al tab AfV Try.f114 [nV k] [])).sem) = (List.range 112).map fun k=>some (.tup [eV (Du k),iV 0],[]):=by kernel_rfl
theorem Ai4 (n:Int):(A1 (Al tab AfV Try.f114 [iV n] [])).path [true,true,true,true] = some ([ilt n 0,ilt n 0,ilt n 0,true],(.tup [eV FF,iV 30],[])):=by kernel_rfl
theorem Ai3 (n:Int):(A1 (Al tab AfV Try.f114 [iV n] [])).path [false,false,false,true] = some ([ilt n 0,ilt n 0,ilt n 0,ile 112 n],(.tup [eV FF,iV 30],[])):=by kernel_rfl
end Go.Proofs.Ytjhnfomefcngfaa.Ed
namespace Go.Proofs.Ytjhnfomefcngfaa.Ed
open Go.Sy
def VO (f:Nat->V):List V->T (V × List Blk)
  | [v]=>match gI v with
    | some n=>.br (inR n) (.leaf (f n.toNat,[])) .fail
    | none=>.fail
  | _=>.fail
theorem Up {f:Nat->V} {vs:List V} {r:V × List Blk} (h:(VO f vs).sem = some r):∃ k:Nat,k < 112 ∧ vs = [nV k] ∧ r = (f k,[]):=by
  unfold VO at h
  split at h
  · split at h
    · rename_i v n hn
      obtain ⟨h1,h2⟩:=Ag h
      obtain ⟨k,rfl,hk⟩:=Sf h1
      exact ⟨k,hk,by rw [FU hn]; rfl,by rw [Ac h2]; rfl⟩
    · cases h
  · cases h
theorem p71:AD Try.prog Gl 119 (VO fun k=>eV (Du k)):=by
  refine Aki.congr fun vs r h=>?_
  obtain ⟨k,hk,rfl,rfl⟩:=Up h
  exact GT AfE k hk
def ofT:List V->T (V × List Blk)
  | [v]=>match gI v with
    | some n=>.br (inR n) (.leaf (.tup [eV (Du n.toNat),iV 0],[])) (.leaf (.tup [eV FF,iV 30],[]))
    | none=>.fail
  | _=>.fail
theorem Y0 {vs:List V} {r:V × List Blk} (h:(ofT vs).sem = some r):∃ n,vs = [iV n] ∧ ((∃ k:Nat,n = Int.ofNat k ∧ k < 112 ∧ r = (.tup [eV (Du k),iV 0],[])) ∨ ((n < 0 ∨ 0 <= n ∧ 112 <= n) ∧ r = (.tup [eV FF,iV 30],[]))):=by
  unfold ofT at h
  split at h
  · split at h
    · rename_i v n hn
      refine ⟨n,by rw [FU hn],?_⟩
      cases hi:inR n with
      | true =>
        obtain ⟨k,rfl,hk⟩:=Sf hi
        simp only [T.sem,hi,sel,cond_true,Option.some.injEq] at h
        exact .inl ⟨k,rfl,hk,h.symm⟩
      | false =>
        simp only [T.sem,hi,sel,cond_false,Option.some.injEq] at h
        exact .inr ⟨YX hi,h.symm⟩
    · cases h
  · cases h
theorem Abm {a b:Int} (h:a < b):ilt a b = true:=by simpa [ilt] using h
theorem Y8 {a b:Int} (h:b <= a):ilt a b = false:=by simp [ilt]; omega
theorem Vi {a b:Int} (h:a <= b):ile a b = true:=by simpa [ile] using h
theorem p31:AD Try.prog Gl 114 ofT:=by
  refine AD.congr (AS AO AP Try.func114 (by kernel_rfl) (by kernel_rfl) (AQ CU [])) fun vs r h=>?_
  obtain ⟨n,rfl,⟨k,rfl,hk,rfl⟩ | ⟨hn,rfl⟩⟩:=Y0 h
  · exact GT Akp k hk
  · rcases hn with hn | ⟨h0,hn⟩
    · exact AH (Ai4 n) (by rw [Abm hn])
    · exact AH (Ai3 n) (by rw [Y8 h0,Vi hn])
noncomputable def tb1:List (Nat × (List V->T (V × List Blk))):=(119,VO fun k=>eV (Du k)) :: (114,ofT) :: []
theorem To:AF Try.prog Gl tb1:=.cons p71 <| .cons p31 .nil
noncomputable def cx1:Cx:=AR Gl tb1 [(0,⟨[],1,[],1,113⟩)]
def GB (e:E6):Nat->Nat->Option Nat
  | 0,_=>none
  | m+1,k=>match eqE (Du k) e with
    | true=>some k
    | false=>GB e m (Nat.succ k)
def Bv (e:E6):Int:=match GB e 112 0 with
  | some k=>Int.ofNat k
  | none=>0
def AM (e:E6):Int:=match GB e 112 0 with
  | some _=>0
  | none=>30
def Oi (e:E6):Nat->Nat->Option (V × List Blk)
  | 0,_=>some (.tup [iV 0,iV 30],[])
  | m+1,k=>sel (eqE (Du k) e) (some (.tup [nV k,iV 0],[])) (Oi e m (Nat.succ k))
def QR (e:E6):Nat->Nat->Option (V × List Blk)
  | 0,_=>some (.tup [iV 0,iV 30],[])
  | m+1,k=>sel (eqE e (Du k)) (some (.tup [nV k,iV 0],[])) (QR e m (Nat.succ k))
theorem SM (e:E6):∀ m k,Oi e m k = match GB e m k with
    | some j=>some (.tup [nV j,iV 0],[])
    | none=>some (.tup [iV 0,iV 30],[])
  | 0,k=>rfl
  | m+1,k=>by
    simp only [Oi,GB]
    cases h:eqE (Du k) e with
    | true=>rfl
    | false=>exact SM e m (Nat.succ k)
theorem P2 (e:E6):∀ m k,QR e m k = Oi e m k
  | 0,_=>rfl
  | m+1,k=>by
    simp only [Oi,QR,P2 e m,Zp e]
theorem P1 (e:E6):Oi e 112 0 = some (.tup [iV (Bv e),iV (AM e)],[]):=by
  rw [SM]
  unfold Bv AM
  cases GB e 112 0 <;> rfl
theorem AfZ (e:E6):(A1 (Al tab cx1 Try.f112 [eV e] [])).sem = Oi e 112 0:=by kernel_rfl
theorem AfY (e:E6):(A1 (Al tab cx1 Try.f98 [eV e] [])).sem = QR e 112 0:=by kernel_rfl
def BK (f:E6->V):List V->T (V × List Blk)
  | [v]=>match toE v with
    | some e=>.leaf (f e,[])
    | none=>.fail
  | _=>.fail
theorem BS {f:E6->V} {vs:List V} {r:V × List Blk} (h:(BK f vs).sem = some r):∃ e,vs = [eV e] ∧ r = (f e,[]):=by
  unfold BK at h
  split at h
  · split at h
    · rename_i v e hn
      exact ⟨e,by rw [MB hn],Ac h⟩
    · cases h
  · cases h
def SN (e:E6):V:=.tup [iV (Bv e),iV (AM e)]
theorem p24:AD Try.prog Gl 112 (BK SN):=by
  refine AD.congr (AS AO AP Try.func112 (by kernel_rfl) (by kernel_rfl) (Γ:=cx1) (AQ To _)) fun vs r h=>?_
  obtain ⟨e,rfl,rfl⟩:=BS h
  exact (AfZ e).trans (P1 e)
theorem p25:AD Try.prog Gl 98 (BK SN):=by
  refine AD.congr (AS AO AP Try.func98 (by kernel_rfl) (by kernel_rfl) (Γ:=cx1) (AQ To _)) fun vs r h=>?_
  obtain ⟨e,rfl,rfl⟩:=BS h
  exact (AfY e).trans ((P2 e 112 0).trans (P1 e))
end Go.Proofs.Ytjhnfomefcngfaa.Ed
namespace Go.Proofs.Ytjhnfomefcngfaa.Ed
open Go.Sy
noncomputable def tb2:List (Nat × (List V->T (V × List Blk))):=(112,BK SN) :: (98,BK SN) :: tb1
theorem X1:AF Try.prog Gl tb2:=.cons p24 <| .cons p25 To
noncomputable def cx2:Cx:=AR Gl tb2 []
theorem AbN (e:E6):(A1 (Al tab cx2 Try.f64 [eV e] [])).sem = some (iV (AM e),[]):=by kernel_rfl
theorem p29:AD Try.prog Gl 64 (BK fun e=>iV (AM e)):=by
  refine AD.congr (AS AO AP Try.func64 (by kernel_rfl) (by kernel_rfl) (Γ:=cx2) (AQ X1 _)) fun vs r h=>?_
  obtain ⟨e,rfl,rfl⟩:=BS h
  exact AbN e
theorem JE (e:E6):∀ m k j,GB e m k = some j->k <= j ∧ j < k+m ∧ Du j = e
  | 0,k,j,h=>by cases h
  | m+1,k,j,h=>by
    simp only [GB] at h
    split at h
    · rename_i he
      simp only [Option.some.injEq] at h
      subst h
      exact ⟨Nat.le_refl _,by omega,(IX _ _).1 he⟩
    · obtain ⟨h1,h2,h3⟩:=JE e m _ j h
      exact ⟨by omega,by omega,h3⟩
def RH (e:E6):List UInt8:=match GB e 112 0 with
  | some k=>Ph k
  | none=>[]
def Vd (e:E6):V:=.tup [.str (RH e),iV (AM e)]
noncomputable def tb3:List (Nat × (List V->T (V × List Blk))):=(64,BK fun e=>iV (AM e)) :: tb2
theorem X0:AF Try.prog Gl tb3:=.cons p29 X1
noncomputable def tbn:List (Nat × (List V->T (V × List Blk))):=(124,fun vs=>A1 (Al tab cx0 Try.f124 vs [])) :: (126,fun vs=>A1 (Al tab cx0 Try.f126 vs [])) :: []
theorem Xt:AF Try.prog Gl tbn :=
  .cons (AS AO AP Try.func124 (by kernel_rfl) (by kernel_rfl) (Γ:=cx0) (AQ .nil _)) <|
  .cons (AS AO AP Try.func126 (by kernel_rfl) (by kernel_rfl) (Γ:=cx0) (AQ .nil _)) .nil
noncomputable def cxn:Cx:=AR Gl tbn []
noncomputable def tb4:List (Nat × (List V->T (V × List Blk))):=(125,fun vs=>A1 (Al tab cxn Try.f125 vs [])) :: (tbn ++ tb3)
theorem AF.append {P:Program} {G:Nat->V} {a b:List (Nat × (List V->T (V × List Blk)))} (ha:AF P G a) (hb:AF P G b):AF P G (a ++ b):=fun p hp=>(List.mem_append.1 hp).elim (ha p) (hb p)
theorem AdE:AF Try.prog Gl tb4 :=
  .cons (AS AO AP Try.func125 (by kernel_rfl) (by kernel_rfl) (Γ:=cxn) (AQ Xt _)) (AF.append Xt X0)
noncomputable def cx4:Cx:=AR Gl tb4 []
theorem AfB:(List.range 112).map (fun k:Nat=>(A1 (Al tab cx4 Try.f115 [eV (Du k)] [])).sem) = (List.range 112).map fun k=>some (.tup [.str (Ph k),iV 0],[]):=by kernel_rfl
theorem Abi (e:E6):(A1 (Al tab cx4 Try.f115 [eV e] [])).path [true] = some ([Am (ieq (AM e) 0)],(.tup [.str [],iV 30],[])):=by kernel_rfl
theorem Abh (e:E6):(A1 (Al tab cx4 Try.f115 [eV e] [])).sem = some (Vd e,[]):=by
  unfold Vd RH
  cases h:GB e 112 0 with
  | none =>
    have hf:AM e = 30:=by unfold AM; rw [h]
    rw [hf]
    exact AH (Abi e) (by rw [hf]; rfl)
  | some k =>
    have hf:AM e = 0:=by unfold AM; rw [h]
    obtain ⟨_,hk,rfl⟩:=JE e 112 0 k h
    rw [hf]
    exact GT AfB k (by omega)
theorem p27:AD Try.prog Gl 115 (BK Vd):=by
  refine AD.congr (AS AO AP Try.func115 (by kernel_rfl) (by kernel_rfl) (Γ:=cx4) (AQ AdE _)) fun vs r h=>?_
  obtain ⟨e,rfl,rfl⟩:=BS h
  exact Abh e
end Go.Proofs.Ytjhnfomefcngfaa.Ed
namespace Go.Proofs.Ytjhnfomefcngfaa.Ed
open Go.Sy
noncomputable def tb5:List (Nat × (List V->T (V × List Blk))):=(115,BK Vd) :: tb3
theorem Xy:AF Try.prog Gl tb5:=.cons p27 <| X0
noncomputable def cx5:Cx:=AR Gl tb5 [(0,⟨[],1,[],1,113⟩)]
def Pt (s:List UInt8):Nat->Nat->Option Nat
  | 0,_=>none
  | m+1,k=>match seq (Ph k) s with
    | true=>some k
    | false=>Pt s m (Nat.succ k)
def EQ (s:List UInt8):E6:=match Pt s 112 0 with
  | some k=>Du k
  | none=>FF
def DU (s:List UInt8):Int:=match Pt s 112 0 with
  | some _=>0
  | none=>30
def Nh (s:List UInt8):Nat->Nat->Option (V × List Blk)
  | 0,_=>some (.tup [eV FF,iV 30],[])
  | m+1,k=>sel (seq (Ph k) s) (some (.tup [eV (Du k),iV 0],[])) (Nh s m (Nat.succ k))
theorem Pd (s:List UInt8):∀ m k,Nh s m k = match Pt s m k with
    | some j=>some (.tup [eV (Du j),iV 0],[])
    | none=>some (.tup [eV FF,iV 30],[])
  | 0,k=>rfl
  | m+1,k=>by
    simp only [Nh,Pt]
    cases h:seq (Ph k) s with
    | true=>rfl
    | false=>exact Pd s m (Nat.succ k)
theorem TG (s:List UInt8):Nh s 112 0 = some (.tup [eV (EQ s),iV (DU s)],[]):=by
  rw [Pd]
  unfold EQ DU
  cases Pt s 112 0 <;> rfl
theorem Abb (s:List UInt8):(A1 (Al tab cx5 Try.f97 [.str s] [])).sem = Nh s 112 0:=by kernel_rfl
def Rk (f:List UInt8->V):List V->T (V × List Blk)
  | [v]=>match gS v with
    | some e=>.leaf (f e,[])
    | none=>.fail
  | _=>.fail
theorem Tk {f:List UInt8->V} {vs:List V} {r:V × List Blk} (h:(Rk f vs).sem = some r):∃ e,vs = [.str e] ∧ r = (f e,[]):=by
  unfold Rk at h
  split at h
  · split at h
    · rename_i v e hn
      exact ⟨e,by rw [AbI hn],Ac h⟩
    · cases h
  · cases h
def TH (s:List UInt8):V:=.tup [eV (EQ s),iV (DU s)]
theorem p22:AD Try.prog Gl 97 (Rk TH):=by
  refine AD.congr (AS AO AP Try.func97 (by kernel_rfl) (by kernel_rfl) (Γ:=cx5) (AQ Xy _)) fun vs r h=>?_
  obtain ⟨e,rfl,rfl⟩:=Tk h
  exact (Abb e).trans (TG e)
noncomputable def tb6:List (Nat × (List V->T (V × List Blk))):=(97,Rk TH) :: tb5
theorem MD:AF Try.prog Gl tb6:=.cons p22 Xy
noncomputable def cx6:Cx:=AR Gl tb6 []
def Xm (f:V):List V->T (V × List Blk)
  | []=>.leaf (f,[])
  | _=>.fail
noncomputable def tb7:List (Nat × (List V->T (V × List Blk))):=tb6
theorem AdD:AF Try.prog Gl tb7:=MD
theorem Br (a:Int):ieq a a = true:=by simp [ieq]
end Go.Proofs.Ytjhnfomefcngfaa.Ed
