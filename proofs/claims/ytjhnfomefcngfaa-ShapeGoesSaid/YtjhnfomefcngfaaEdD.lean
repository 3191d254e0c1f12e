/-
  The table of the program's types, as the evaluator asks of them, and that it is the program's own. No conditions.
-/
import Derived.Test.YtjhnfomefcngfaaSyA
import Derived.Test.YtjhnfomefcngfaaProg
import Derived.KernelRfl
import Derived.Test.YtjhnfomefcngfaaSyU
import Derived.Test.YtjhnfomefcngfaaRows
namespace Go.Sy
open Go.Proofs
set_option maxRecDepth 100000
def tab:List Ty:=[
  ⟨.other,1,0,.und,false⟩,
  ⟨.other,1,8,.val (.nilFunc),false⟩,
  ⟨.int .i64,1,8,.val (.int .i64 0),false⟩,
  ⟨.int .i64,1,8,.val (.int .i64 0),false⟩,
  ⟨.bool,1,1,.val (.bool false),false⟩,
  ⟨.int .u8,1,1,.val (.int .u8 0),false⟩,
  ⟨.int .u8,1,1,.val (.int .u8 0),false⟩,
  ⟨.st [(0,2),(1,3),(2,4),(3,6)],4,24,.agg [.val (.int .i64 0),.val (.int .i64 0),.val (.bool false),.val (.int .u8 0)],true⟩,
  ⟨.st [(0,2),(1,3),(2,4),(3,6)],4,24,.agg [.val (.int .i64 0),.val (.int .i64 0),.val (.bool false),.val (.int .u8 0)],true⟩,
  ⟨.str,1,16,.str [],false⟩,
  ⟨.str,1,16,.str [],false⟩,
  ⟨.str,1,16,.str [],false⟩,
  ⟨.int .u64,1,8,.val (.int .u64 0),false⟩,
  ⟨.st [(0,9),(1,12)],2,24,.agg [.str [],.val (.int .u64 0)],false⟩,
  ⟨.st [(0,9),(1,12)],2,24,.agg [.str [],.val (.int .u64 0)],false⟩,
  ⟨.other,1,8,.val (.pointer none),false⟩,
  ⟨.other,1,8,.val (.pointer none),false⟩,
  ⟨.other,1,8,.val (.pointer none),false⟩,
  ⟨.st [(0,17)],1,8,.agg [.val (.pointer none)],false⟩,
  ⟨.st [(0,17)],1,8,.agg [.val (.pointer none)],false⟩,
  ⟨.other,1,16,.val (.nilIface),false⟩,
  ⟨.int .i32,1,4,.val (.int .i32 0),false⟩,
  ⟨.sl 44,1,24,.nilS,false⟩,
  ⟨.other,1,8,.val (.nilFunc),false⟩,
  ⟨.sl 40,1,24,.nilS,false⟩,
  ⟨.sl 3,1,24,.nilS,false⟩,
  ⟨.sl 25,1,24,.nilS,false⟩,
  ⟨.st [(0,3),(1,22),(2,24),(3,3),(4,3),(5,25),(6,26)],7,120,.agg [.val (.int .i64 0),.nilS,.nilS,.val (.int .i64 0),.val (.int .i64 0),.nilS,.nilS],false⟩,
  ⟨.st [(0,3),(1,22),(2,24),(3,3),(4,3),(5,25),(6,26)],7,120,.agg [.val (.int .i64 0),.nilS,.nilS,.val (.int .i64 0),.val (.int .i64 0),.nilS,.nilS],false⟩,
  ⟨.int .i64,1,8,.val (.int .i64 0),false⟩,
  ⟨.other,1,0,.und,false⟩,
  ⟨.other,1,8,.val (.nilFunc),false⟩,
  ⟨.other,1,8,.val (.nilFunc),false⟩,
  ⟨.other,1,8,.val (.nilFunc),false⟩,
  ⟨.other,1,8,.val (.nilFunc),false⟩,
  ⟨.other,1,8,.val (.nilFunc),false⟩,
  ⟨.other,1,0,.und,false⟩,
  ⟨.other,1,8,.val (.nilFunc),false⟩,
  ⟨.other,1,8,.val (.nilFunc),false⟩,
  ⟨.st [(0,3),(1,3),(2,3),(3,3),(4,3)],5,40,.agg [.val (.int .i64 0),.val (.int .i64 0),.val (.int .i64 0),.val (.int .i64 0),.val (.int .i64 0)],true⟩,
  ⟨.st [(0,3),(1,3),(2,3),(3,3),(4,3)],5,40,.agg [.val (.int .i64 0),.val (.int .i64 0),.val (.int .i64 0),.val (.int .i64 0),.val (.int .i64 0)],true⟩,
  ⟨.other,1,8,.val (.nilFunc),false⟩,
  ⟨.other,1,8,.val (.nilFunc),false⟩,
  ⟨.st [(0,3),(1,4),(2,4),(3,3),(4,3),(5,3)],6,40,.agg [.val (.int .i64 0),.val (.bool false),.val (.bool false),.val (.int .i64 0),.val (.int .i64 0),.val (.int .i64 0)],true⟩,
  ⟨.st [(0,3),(1,4),(2,4),(3,3),(4,3),(5,3)],6,40,.agg [.val (.int .i64 0),.val (.bool false),.val (.bool false),.val (.int .i64 0),.val (.int .i64 0),.val (.int .i64 0)],true⟩,
  ⟨.other,1,0,.und,false⟩,
  ⟨.other,1,8,.val (.nilFunc),false⟩,
  ⟨.other,1,8,.val (.nilFunc),false⟩,
  ⟨.other,1,8,.val (.nilFunc),false⟩,
  ⟨.other,1,0,.und,false⟩,
  ⟨.other,1,8,.val (.nilFunc),false⟩,
  ⟨.other,1,8,.val (.nilFunc),false⟩,
  ⟨.other,1,8,.val (.nilFunc),false⟩,
  ⟨.other,1,8,.val (.nilFunc),false⟩,
  ⟨.other,1,8,.val (.nilFunc),false⟩,
  ⟨.other,1,8,.val (.nilFunc),false⟩,
  ⟨.other,1,0,.und,false⟩,
  ⟨.other,1,8,.val (.nilFunc),false⟩,
  ⟨.other,1,8,.val (.nilFunc),false⟩,
  ⟨.other,1,0,.und,false⟩,
  ⟨.other,1,8,.val (.nilFunc),false⟩,
  ⟨.sl 64,1,24,.nilS,false⟩,
  ⟨.other,1,0,.und,false⟩,
  ⟨.other,1,8,.val (.nilFunc),false⟩,
  ⟨.sl 66,1,24,.nilS,false⟩,
  ⟨.st [(0,3),(1,3),(2,3),(3,3),(4,3),(5,9),(6,9),(7,3)],8,80,.agg [.val (.int .i64 0),.val (.int .i64 0),.val (.int .i64 0),.val (.int .i64 0),.val (.int .i64 0),.str [],.str [],.val (.int .i64 0)],true⟩,
  ⟨.st [(0,3),(1,3),(2,3),(3,3),(4,3),(5,9),(6,9),(7,3)],8,80,.agg [.val (.int .i64 0),.val (.int .i64 0),.val (.int .i64 0),.val (.int .i64 0),.val (.int .i64 0),.str [],.str [],.val (.int .i64 0)],true⟩,
  ⟨.other,1,8,.val (.nilFunc),false⟩,
  ⟨.other,1,8,.val (.nilFunc),false⟩,
  ⟨.other,1,8,.val (.nilFunc),false⟩,
  ⟨.arr 15 4,15,15,.agg [.val (.bool false),.val (.bool false),.val (.bool false),.val (.bool false),.val (.bool false),.val (.bool false),.val (.bool false),.val (.bool false),.val (.bool false),.val (.bool false),.val (.bool false),.val (.bool false),.val (.bool false),.val (.bool false),.val (.bool false)],true⟩,
  ⟨.other,1,8,.val (.nilFunc),false⟩,
  ⟨.other,1,8,.val (.nilFunc),false⟩,
  ⟨.other,1,0,.und,false⟩,
  ⟨.other,1,8,.val (.nilFunc),false⟩,
  ⟨.other,1,8,.val (.nilFunc),false⟩,
  ⟨.imap 3,1,8,.val (.map none),false⟩,
  ⟨.other,1,8,.val (.nilFunc),false⟩,
  ⟨.other,1,8,.val (.pointer none),false⟩,
  ⟨.other,1,8,.val (.nilFunc),false⟩,
  ⟨.other,1,8,.val (.nilFunc),false⟩,
  ⟨.other,1,8,.val (.nilFunc),false⟩,
  ⟨.other,1,0,.und,false⟩,
  ⟨.other,1,8,.val (.nilFunc),false⟩,
  ⟨.other,1,8,.val (.nilFunc),false⟩,
  ⟨.other,1,8,.val (.nilFunc),false⟩,
  ⟨.other,1,8,.val (.nilFunc),false⟩,
  ⟨.other,1,8,.val (.nilFunc),false⟩,
  ⟨.other,1,8,.val (.nilFunc),false⟩,
  ⟨.other,1,0,.und,false⟩,
  ⟨.other,1,8,.val (.nilFunc),false⟩,
  ⟨.other,1,8,.val (.nilFunc),false⟩,
  ⟨.other,1,0,.und,false⟩,
  ⟨.other,1,8,.val (.nilFunc),false⟩,
  ⟨.other,1,8,.val (.nilFunc),false⟩,
  ⟨.other,1,8,.val (.nilFunc),false⟩,
  ⟨.other,1,8,.val (.nilFunc),false⟩,
  ⟨.other,1,8,.val (.nilFunc),false⟩,
  ⟨.other,1,0,.und,false⟩,
  ⟨.other,1,8,.val (.nilFunc),false⟩,
  ⟨.other,1,8,.val (.nilFunc),false⟩,
  ⟨.other,1,8,.val (.nilFunc),false⟩,
  ⟨.other,1,8,.val (.nilFunc),false⟩,
  ⟨.other,1,8,.val (.nilFunc),false⟩,
  ⟨.other,1,0,.und,false⟩,
  ⟨.other,1,8,.val (.nilFunc),false⟩,
  ⟨.other,1,0,.und,false⟩,
  ⟨.other,1,8,.val (.nilFunc),false⟩,
  ⟨.other,1,8,.val (.nilFunc),false⟩,
  ⟨.sl 4,1,24,.nilS,false⟩,
  ⟨.other,1,8,.val (.nilFunc),false⟩,
  ⟨.other,1,8,.val (.nilFunc),false⟩,
  ⟨.other,1,8,.val (.nilFunc),false⟩,
  ⟨.other,1,8,.val (.nilFunc),false⟩,
  ⟨.sl 118,1,24,.nilS,false⟩,
  ⟨.st [(0,64)],1,24,.agg [.nilS],false⟩,
  ⟨.st [(0,64)],1,24,.agg [.nilS],false⟩,
  ⟨.st [(0,116),(1,3)],2,32,.agg [.nilS,.val (.int .i64 0)],false⟩,
  ⟨.st [(0,116),(1,3)],2,32,.agg [.nilS,.val (.int .i64 0)],false⟩,
  ⟨.other,1,8,.val (.nilFunc),false⟩,
  ⟨.other,1,8,.val (.nilFunc),false⟩,
  ⟨.other,1,8,.val (.nilFunc),false⟩,
  ⟨.other,1,8,.val (.pointer none),false⟩,
  ⟨.other,1,8,.val (.nilFunc),false⟩,
  ⟨.other,1,8,.val (.nilFunc),false⟩,
  ⟨.other,1,8,.val (.nilFunc),false⟩,
  ⟨.other,1,8,.val (.nilFunc),false⟩,
  ⟨.other,1,8,.val (.nilFunc),false⟩,
  ⟨.other,1,8,.val (.pointer none),false⟩,
  ⟨.sl 9,1,24,.nilS,false⟩,
  ⟨.other,1,8,.val (.nilFunc),false⟩,
  ⟨.st [(0,17),(1,17),(2,17),(3,9)],4,40,.agg [.val (.pointer none),.val (.pointer none),.val (.pointer none),.str []],false⟩,
  ⟨.st [(0,17),(1,17),(2,17),(3,9)],4,40,.agg [.val (.pointer none),.val (.pointer none),.val (.pointer none),.str []],false⟩,
  ⟨.arr 0 16,0,0,.agg [],false⟩,
  ⟨.st [(0,133)],0,0,.agg [],false⟩,
  ⟨.st [(0,133)],0,0,.agg [],false⟩,
  ⟨.other,1,8,.val (.nilFunc),false⟩,
  ⟨.int .u32,1,4,.val (.int .u32 0),false⟩,
  ⟨.int .u8,1,1,.val (.int .u8 0),false⟩,
  ⟨.int .u8,1,1,.val (.int .u8 0),false⟩,
  ⟨.other,1,8,.val (.nilFunc),false⟩,
  ⟨.other,1,8,.val (.pointer none),false⟩,
  ⟨.int .i32,1,4,.val (.int .i32 0),false⟩,
  ⟨.int .i32,1,4,.val (.int .i32 0),false⟩,
  ⟨.st [(0,12),(1,12),(2,137),(3,138),(4,5),(5,5),(6,139),(7,140),(8,141),(9,142),(10,143)],11,48,.agg [.val (.int .u64 0),.val (.int .u64 0),.val (.int .u32 0),.val (.int .u8 0),.val (.int .u8 0),.val (.int .u8 0),.val (.int .u8 0),.val (.nilFunc),.val (.pointer none),.val (.int .i32 0),.val (.int .i32 0)],false⟩,
  ⟨.st [(0,12),(1,12),(2,137),(3,138),(4,5),(5,5),(6,139),(7,140),(8,141),(9,142),(10,143)],11,48,.agg [.val (.int .u64 0),.val (.int .u64 0),.val (.int .u32 0),.val (.int .u8 0),.val (.int .u8 0),.val (.int .u8 0),.val (.int .u8 0),.val (.nilFunc),.val (.pointer none),.val (.int .i32 0),.val (.int .i32 0)],false⟩,
  ⟨.other,1,8,.val (.pointer none),false⟩]
def rowsOf (P:Program):Nat->Nat->List (Option Ty)
  | 0,_=>[]
  | n+1,k=>tyOf P k :: rowsOf P n (Nat.succ k)
def somes:List Ty->List (Option Ty)
  | []=>[]
  | t :: l=>some t :: somes l
theorem tab_eq:rowsOf Try.prog 147 0 = somes tab:=by kernel_rfl
theorem rows_get (P:Program):∀ (n k j:Nat),j < n->(rowsOf P n k)[j]? = some (tyOf P (k+j))
  | 0,_,_,h=>absurd h (Nat.not_lt_zero _)
  | n+1,k,0,_=>rfl
  | n+1,k,j+1,h=>by
    have:=rows_get P n (Nat.succ k) j (Nat.lt_of_succ_lt_succ h)
    simp only [rowsOf,List.getElem?_cons_succ,this]
    rw [show Nat.succ k+j = k+(j+1) by omega]
theorem somes_get:∀ (l:List Ty) (j:Nat) (t:Ty),l[j]? = some t->(somes l)[j]? = some (some t) ∧ j < l.length
  | [],_,_,h=>by simp at h
  | a :: l,0,t,h=>by simp at h; subst h; exact ⟨rfl,by simp⟩
  | a :: l,j+1,t,h=>by
    have:=somes_get l j t (by simpa using h)
    exact ⟨by simpa [somes] using this.1,by simp; exact this.2⟩
theorem tab_len:tab.length = 147:=by kernel_rfl
theorem tab_ok (j:Nat) (t:Ty) (h:tab[j]? = some t):tyOf Try.prog j = some t:=by
  obtain ⟨h1,h2⟩:=somes_get tab j t h
  rw [tab_len] at h2
  rw [<- tab_eq,rows_get _ _ _ _ h2] at h1
  simpa using h1
end Go.Sy
namespace Go.Proofs.Ytjhnfomefcngfaa.Ed
open Go.Sy
def commsL:List (List UInt8):=[[82,102,101],[82,102,105],[70,114,101],[70,114,105],[67,111,101],[67,111,105]]
def endsL:List (List UInt8):=[[82,82],[82,87],[87,82],[87,87]]
def setsL:List (List UInt8):=[[114,46,114],[114,46,119],[114,46,114,119],[119,46,114],[119,46,119],[119,46,114,119],[114,119,46,114],[114,119,46,119],[114,119,46,114,119]]
def depsL:List (List UInt8):=[[68,112,65,100,100,114,100,82],[68,112,65,100,100,114,100,87],[68,112,65,100,100,114,115,82],[68,112,65,100,100,114,115,87],[68,112,68,97,116,97,100,87],
  [68,112,68,97,116,97,115,87],[68,112,67,116,114,108,100,82],[68,112,67,116,114,108,100,87],[68,112,67,116,114,108,115,82],[68,112,67,116,114,108,115,87]]
def Gl:Nat->V:=fun _=>.und
theorem mixed:Try.prog.follows .mixedOrders = true:=by kernel_rfl
theorem tabOK:TabOK Try.prog tab:=⟨tab_ok,theP_eq⟩
theorem envG {S:Nat->Prop} {W:World}:EnvG Gl S W:=fun _=>trivial
end Go.Proofs.Ytjhnfomefcngfaa.Ed
namespace Go.Proofs.Ytjhnfomefcngfaa.Ed
open Go.Sy
structure E6 where
  kind:Int
  ext:Bool
  same:Bool
  src:Int
  dst:Int
  fence:Int
  deriving DecidableEq
def eV (e:E6):V:=.agg [iV e.kind,bV e.ext,bV e.same,iV e.src,iV e.dst,iV e.fence]
def toE:V->Option E6
  | .agg [a,b,c,d,e,f]=>match gI a,gB b,gB c,gI d,gI e,gI f with
    | some a,some b,some c,some d,some e,some f=>some ⟨a,b,c,d,e,f⟩
    | _,_,_,_,_,_=>none
  | _=>none
theorem toE_some {v:V} {e:E6} (h:toE v = some e):v = eV e:=by
  unfold toE at h
  split at h
  · split at h
    · rename_i h1 h2 h3 h4 h5 h6
      simp only [Option.some.injEq] at h
      subst h
      rw [gI_some h1,gB_some h2,gB_some h3,gI_some h4,gI_some h5,gI_some h6]
      rfl
    · cases h
  · cases h
def eqE (a b:E6):Bool:=band (ieq a.kind b.kind) (band (beqB a.ext b.ext) (band (beqB a.same b.same) (band (ieq a.src b.src) (band (ieq a.dst b.dst) (band (ieq a.fence b.fence) true)))))
theorem eqE_iff (a b:E6):eqE a b = true ↔ a = b:=by
  cases a; cases b
  simp [eqE,band,ieq,beqB]
theorem eqE_comm (a b:E6):eqE a b = eqE b a:=by
  rw [Bool.eq_iff_iff,eqE_iff,eqE_iff]
  exact eq_comm
def madeE (c:Nat):E6 :=
  if c < 6 then ⟨c / 2+1,c % 2 == 0,false,if c / 2 == 1 then 1 else 2,if c / 2 == 0 then 1 else 2,0⟩
  else if c < 102 then ⟨if (c - 6) / 8 == 0 then 4 else 5,false,decide (4 <= (c - 6) % 8),1+((c - 6) % 4 / 2:Nat),1+((c - 6) % 2:Nat),((c - 6) / 8:Nat)⟩
  else if c < 106 then ⟨6,false,decide (2 <= c - 102),1,1+((c - 102) % 2:Nat),0⟩
  else if c < 108 then ⟨7,false,c - 102 == 5,1,2,0⟩
  else ⟨8,false,decide (8 <= c - 102),1,1+((c - 102) % 2:Nat),0⟩
def zeroE:E6:=⟨0,false,false,0,0,0⟩
def inR (n:Int):Bool:=decide (0 <= n) && decide (n < 112)
theorem inR_some {n:Int} (h:inR n = true):∃ k:Nat,n = (k:Int) ∧ k < 112:=by
  simp [inR] at h
  exact ⟨n.toNat,by omega,by omega⟩
theorem inR_none {n:Int} (h:inR n = false):n < 0 ∨ 0 <= n ∧ 112 <= n:=by
  simp [inR] at h
  omega
def cx0:Cx:=cxOf Gl [] []
noncomputable def Fmade:List V->T (V × List Blk):=fun vs=>finF (evalF tab cx0 Try.f119 vs [])
theorem p71a:PureC Try.prog Gl 119 Fmade:=pureC_body tabOK mixed Try.func119 (by kernel_rfl) (by kernel_rfl) (cx_ok AllPure.nil _)
noncomputable def Fcomm:List V->T (V × List Blk):=fun vs=>finF (evalF tab cx0 Try.f121 vs [])
theorem p74:PureC Try.prog Gl 121 Fcomm:=pureC_body tabOK mixed Try.func121 (by kernel_rfl) (by kernel_rfl) (cx_ok AllPure.nil _)
noncomputable def Feight:List V->T (V × List Blk):=fun vs=>finF (evalF tab cx0 Try.f122 vs [])
theorem p75:PureC Try.prog Gl 122 Feight:=pureC_body tabOK mixed Try.func122 (by kernel_rfl) (by kernel_rfl) (cx_ok AllPure.nil _)
noncomputable def Fdep:List V->T (V × List Blk):=fun vs=>finF (evalF tab cx0 Try.f123 vs [])
theorem p76:PureC Try.prog Gl 123 Fdep:=pureC_body tabOK mixed Try.func123 (by kernel_rfl) (by kernel_rfl) (cx_ok AllPure.nil _)
noncomputable def tb0:List (Nat × (List V->T (V × List Blk))):=(121,Fcomm) :: (122,Feight) :: (123,Fdep) :: []
theorem tb0_ok:AllPure Try.prog Gl tb0:=.cons p74 <| .cons p75 <| .cons p76 .nil
noncomputable def cx0r:Cx:=cxOf Gl tb0 []
def nameS (c:Nat):List UInt8 :=
  if c < 6 then commsL.getD c []
  else if 102 <= c then depsL.getD (c - 102) []
  else (if (c - 6) / 8 = 0 then [80,111] else if (c - 6) / 8 = 1 then [77,70,101,110,99,101] else if (c - 6) / 8 = 2 then [70,101,110,99,101,46,116,115,111]
    else [70,101,110,99,101,46] ++ setsL.getD ((c - 6) / 8 - 3) []) ++ ((if 4 <= (c - 6) % 8 then [115] else [100]) ++ endsL.getD ((c - 6) % 4) [])
end Go.Proofs.Ytjhnfomefcngfaa.Ed
namespace Go.Proofs.Ytjhnfomefcngfaa.Ed
open Go.Sy
theorem made71:(List.range 112).map (fun k:Nat=>(finF (evalF tab cx0 Try.f119 [nV k] [])).sem) = (List.range 112).map fun k=>some (eV (madeE k),[]):=by kernel_rfl
theorem of31:(List.range 112).map (fun k:Nat=>(finF (evalF tab cx0r Try.f114 [nV k] [])).sem) = (List.range 112).map fun k=>some (.tup [eV (madeE k),iV 0],[]):=by kernel_rfl
theorem of31a (n:Int):(finF (evalF tab cx0r Try.f114 [iV n] [])).path [true,true,true,true] = some ([ilt n 0,ilt n 0,ilt n 0,true],(.tup [eV zeroE,iV 30],[])):=by kernel_rfl
theorem of31b (n:Int):(finF (evalF tab cx0r Try.f114 [iV n] [])).path [false,false,false,true] = some ([ilt n 0,ilt n 0,ilt n 0,ile 112 n],(.tup [eV zeroE,iV 30],[])):=by kernel_rfl
end Go.Proofs.Ytjhnfomefcngfaa.Ed
namespace Go.Proofs.Ytjhnfomefcngfaa.Ed
open Go.Sy
def codeT (f:Nat->V):List V->T (V × List Blk)
  | [v]=>match gI v with
    | some n=>.br (inR n) (.leaf (f n.toNat,[])) .fail
    | none=>.fail
  | _=>.fail
theorem codeT_some {f:Nat->V} {vs:List V} {r:V × List Blk} (h:(codeT f vs).sem = some r):∃ k:Nat,k < 112 ∧ vs = [nV k] ∧ r = (f k,[]):=by
  unfold codeT at h
  split at h
  · split at h
    · rename_i v n hn
      obtain ⟨h1,h2⟩:=sem_br_fail h
      obtain ⟨k,rfl,hk⟩:=inR_some h1
      exact ⟨k,hk,by rw [gI_some hn]; rfl,by rw [sem_leaf h2]; rfl⟩
    · cases h
  · cases h
theorem p71:PureC Try.prog Gl 119 (codeT fun k=>eV (madeE k)):=by
  refine p71a.congr fun vs r h=>?_
  obtain ⟨k,hk,rfl,rfl⟩:=codeT_some h
  exact all_below made71 k hk
def ofT:List V->T (V × List Blk)
  | [v]=>match gI v with
    | some n=>.br (inR n) (.leaf (.tup [eV (madeE n.toNat),iV 0],[])) (.leaf (.tup [eV zeroE,iV 30],[]))
    | none=>.fail
  | _=>.fail
theorem ofT_some {vs:List V} {r:V × List Blk} (h:(ofT vs).sem = some r):∃ n,vs = [iV n] ∧ ((∃ k:Nat,n = Int.ofNat k ∧ k < 112 ∧ r = (.tup [eV (madeE k),iV 0],[])) ∨ ((n < 0 ∨ 0 <= n ∧ 112 <= n) ∧ r = (.tup [eV zeroE,iV 30],[]))):=by
  unfold ofT at h
  split at h
  · split at h
    · rename_i v n hn
      refine ⟨n,by rw [gI_some hn],?_⟩
      cases hi:inR n with
      | true =>
        obtain ⟨k,rfl,hk⟩:=inR_some hi
        simp only [T.sem,hi,sel,cond_true,Option.some.injEq] at h
        exact .inl ⟨k,rfl,hk,h.symm⟩
      | false =>
        simp only [T.sem,hi,sel,cond_false,Option.some.injEq] at h
        exact .inr ⟨inR_none hi,h.symm⟩
    · cases h
  · cases h
theorem lt_true {a b:Int} (h:a < b):ilt a b = true:=by simpa [ilt] using h
theorem lt_false {a b:Int} (h:b <= a):ilt a b = false:=by simp [ilt]; omega
theorem le_true {a b:Int} (h:a <= b):ile a b = true:=by simpa [ile] using h
theorem p31:PureC Try.prog Gl 114 ofT:=by
  refine PureC.congr (pureC_body tabOK mixed Try.func114 (by kernel_rfl) (by kernel_rfl) (cx_ok tb0_ok [])) fun vs r h=>?_
  obtain ⟨n,rfl,⟨k,rfl,hk,rfl⟩ | ⟨hn,rfl⟩⟩:=ofT_some h
  · exact all_below of31 k hk
  · rcases hn with hn | ⟨h0,hn⟩
    · exact sem_of_path (of31a n) (by rw [lt_true hn])
    · exact sem_of_path (of31b n) (by rw [lt_false h0,le_true hn])
noncomputable def tb1:List (Nat × (List V->T (V × List Blk))):=(119,codeT fun k=>eV (madeE k)) :: (114,ofT) :: []
theorem tb1_ok:AllPure Try.prog Gl tb1:=.cons p71 <| .cons p31 .nil
noncomputable def cx1:Cx:=cxOf Gl tb1 [(0,⟨[],1,[],1,113⟩)]
def findE (e:E6):Nat->Nat->Option Nat
  | 0,_=>none
  | m+1,k=>match eqE (madeE k) e with
    | true=>some k
    | false=>findE e m (Nat.succ k)
def codeN (e:E6):Int:=match findE e 112 0 with
  | some k=>Int.ofNat k
  | none=>0
def codeF (e:E6):Int:=match findE e 112 0 with
  | some _=>0
  | none=>30
def codeS (e:E6):Nat->Nat->Option (V × List Blk)
  | 0,_=>some (.tup [iV 0,iV 30],[])
  | m+1,k=>sel (eqE (madeE k) e) (some (.tup [nV k,iV 0],[])) (codeS e m (Nat.succ k))
def codeS' (e:E6):Nat->Nat->Option (V × List Blk)
  | 0,_=>some (.tup [iV 0,iV 30],[])
  | m+1,k=>sel (eqE e (madeE k)) (some (.tup [nV k,iV 0],[])) (codeS' e m (Nat.succ k))
theorem codeS_eq (e:E6):∀ m k,codeS e m k = match findE e m k with
    | some j=>some (.tup [nV j,iV 0],[])
    | none=>some (.tup [iV 0,iV 30],[])
  | 0,k=>rfl
  | m+1,k=>by
    simp only [codeS,findE]
    cases h:eqE (madeE k) e with
    | true=>rfl
    | false=>exact codeS_eq e m (Nat.succ k)
theorem codeS'_eq (e:E6):∀ m k,codeS' e m k = codeS e m k
  | 0,_=>rfl
  | m+1,k=>by
    simp only [codeS,codeS',codeS'_eq e m,eqE_comm e]
theorem codeS_all (e:E6):codeS e 112 0 = some (.tup [iV (codeN e),iV (codeF e)],[]):=by
  rw [codeS_eq]
  unfold codeN codeF
  cases findE e 112 0 <;> rfl
theorem code24 (e:E6):(finF (evalF tab cx1 Try.f112 [eV e] [])).sem = codeS e 112 0:=by kernel_rfl
theorem code25 (e:E6):(finF (evalF tab cx1 Try.f98 [eV e] [])).sem = codeS' e 112 0:=by kernel_rfl
def edgeT (f:E6->V):List V->T (V × List Blk)
  | [v]=>match toE v with
    | some e=>.leaf (f e,[])
    | none=>.fail
  | _=>.fail
theorem edgeT_some {f:E6->V} {vs:List V} {r:V × List Blk} (h:(edgeT f vs).sem = some r):∃ e,vs = [eV e] ∧ r = (f e,[]):=by
  unfold edgeT at h
  split at h
  · split at h
    · rename_i v e hn
      exact ⟨e,by rw [toE_some hn],sem_leaf h⟩
    · cases h
  · cases h
def codeP (e:E6):V:=.tup [iV (codeN e),iV (codeF e)]
theorem p24:PureC Try.prog Gl 112 (edgeT codeP):=by
  refine PureC.congr (pureC_body tabOK mixed Try.func112 (by kernel_rfl) (by kernel_rfl) (Γ:=cx1) (cx_ok tb1_ok _)) fun vs r h=>?_
  obtain ⟨e,rfl,rfl⟩:=edgeT_some h
  exact (code24 e).trans (codeS_all e)
theorem p25:PureC Try.prog Gl 98 (edgeT codeP):=by
  refine PureC.congr (pureC_body tabOK mixed Try.func98 (by kernel_rfl) (by kernel_rfl) (Γ:=cx1) (cx_ok tb1_ok _)) fun vs r h=>?_
  obtain ⟨e,rfl,rfl⟩:=edgeT_some h
  exact (code25 e).trans ((codeS'_eq e 112 0).trans (codeS_all e))
end Go.Proofs.Ytjhnfomefcngfaa.Ed
namespace Go.Proofs.Ytjhnfomefcngfaa.Ed
open Go.Sy
noncomputable def tb2:List (Nat × (List V->T (V × List Blk))):=(112,edgeT codeP) :: (98,edgeT codeP) :: tb1
theorem tb2_ok:AllPure Try.prog Gl tb2:=.cons p24 <| .cons p25 tb1_ok
noncomputable def cx2:Cx:=cxOf Gl tb2 []
theorem check29 (e:E6):(finF (evalF tab cx2 Try.f64 [eV e] [])).sem = some (iV (codeF e),[]):=by kernel_rfl
theorem p29:PureC Try.prog Gl 64 (edgeT fun e=>iV (codeF e)):=by
  refine PureC.congr (pureC_body tabOK mixed Try.func64 (by kernel_rfl) (by kernel_rfl) (Γ:=cx2) (cx_ok tb2_ok _)) fun vs r h=>?_
  obtain ⟨e,rfl,rfl⟩:=edgeT_some h
  exact check29 e
theorem findE_spec (e:E6):∀ m k j,findE e m k = some j->k <= j ∧ j < k+m ∧ madeE j = e
  | 0,k,j,h=>by cases h
  | m+1,k,j,h=>by
    simp only [findE] at h
    split at h
    · rename_i he
      simp only [Option.some.injEq] at h
      subst h
      exact ⟨Nat.le_refl _,by omega,(eqE_iff _ _).1 he⟩
    · obtain ⟨h1,h2,h3⟩:=findE_spec e m _ j h
      exact ⟨by omega,by omega,h3⟩
def nameF (e:E6):List UInt8:=match findE e 112 0 with
  | some k=>nameS k
  | none=>[]
def nameP (e:E6):V:=.tup [.str (nameF e),iV (codeF e)]
noncomputable def tb3:List (Nat × (List V->T (V × List Blk))):=(64,edgeT fun e=>iV (codeF e)) :: tb2
theorem tb3_ok:AllPure Try.prog Gl tb3:=.cons p29 tb2_ok
noncomputable def tbn:List (Nat × (List V->T (V × List Blk))):=(124,fun vs=>finF (evalF tab cx0 Try.f124 vs [])) :: (126,fun vs=>finF (evalF tab cx0 Try.f126 vs [])) :: []
theorem tbn_ok:AllPure Try.prog Gl tbn :=
  .cons (pureC_body tabOK mixed Try.func124 (by kernel_rfl) (by kernel_rfl) (Γ:=cx0) (cx_ok .nil _)) <|
  .cons (pureC_body tabOK mixed Try.func126 (by kernel_rfl) (by kernel_rfl) (Γ:=cx0) (cx_ok .nil _)) .nil
noncomputable def cxn:Cx:=cxOf Gl tbn []
noncomputable def tb4:List (Nat × (List V->T (V × List Blk))):=(125,fun vs=>finF (evalF tab cxn Try.f125 vs [])) :: (tbn ++ tb3)
theorem AllPure.append {P:Program} {G:Nat->V} {a b:List (Nat × (List V->T (V × List Blk)))} (ha:AllPure P G a) (hb:AllPure P G b):AllPure P G (a ++ b):=fun p hp=>(List.mem_append.1 hp).elim (ha p) (hb p)
theorem tb4_ok:AllPure Try.prog Gl tb4 :=
  .cons (pureC_body tabOK mixed Try.func125 (by kernel_rfl) (by kernel_rfl) (Γ:=cxn) (cx_ok tbn_ok _)) (AllPure.append tbn_ok tb3_ok)
noncomputable def cx4:Cx:=cxOf Gl tb4 []
theorem name27:(List.range 112).map (fun k:Nat=>(finF (evalF tab cx4 Try.f115 [eV (madeE k)] [])).sem) = (List.range 112).map fun k=>some (.tup [.str (nameS k),iV 0],[]):=by kernel_rfl
theorem name27a (e:E6):(finF (evalF tab cx4 Try.f115 [eV e] [])).path [true] = some ([bnot (ieq (codeF e) 0)],(.tup [.str [],iV 30],[])):=by kernel_rfl
theorem name27b (e:E6):(finF (evalF tab cx4 Try.f115 [eV e] [])).sem = some (nameP e,[]):=by
  unfold nameP nameF
  cases h:findE e 112 0 with
  | none =>
    have hf:codeF e = 30:=by unfold codeF; rw [h]
    rw [hf]
    exact sem_of_path (name27a e) (by rw [hf]; rfl)
  | some k =>
    have hf:codeF e = 0:=by unfold codeF; rw [h]
    obtain ⟨_,hk,rfl⟩:=findE_spec e 112 0 k h
    rw [hf]
    exact all_below name27 k (by omega)
theorem p27:PureC Try.prog Gl 115 (edgeT nameP):=by
  refine PureC.congr (pureC_body tabOK mixed Try.func115 (by kernel_rfl) (by kernel_rfl) (Γ:=cx4) (cx_ok tb4_ok _)) fun vs r h=>?_
  obtain ⟨e,rfl,rfl⟩:=edgeT_some h
  exact name27b e
end Go.Proofs.Ytjhnfomefcngfaa.Ed
namespace Go.Proofs.Ytjhnfomefcngfaa.Ed
open Go.Sy
noncomputable def tb5:List (Nat × (List V->T (V × List Blk))):=(115,edgeT nameP) :: tb3
theorem tb5_ok:AllPure Try.prog Gl tb5:=.cons p27 <| tb3_ok
noncomputable def cx5:Cx:=cxOf Gl tb5 [(0,⟨[],1,[],1,113⟩)]
def findS (s:List UInt8):Nat->Nat->Option Nat
  | 0,_=>none
  | m+1,k=>match seq (nameS k) s with
    | true=>some k
    | false=>findS s m (Nat.succ k)
def parseE (s:List UInt8):E6:=match findS s 112 0 with
  | some k=>madeE k
  | none=>zeroE
def parseF (s:List UInt8):Int:=match findS s 112 0 with
  | some _=>0
  | none=>30
def parseS (s:List UInt8):Nat->Nat->Option (V × List Blk)
  | 0,_=>some (.tup [eV zeroE,iV 30],[])
  | m+1,k=>sel (seq (nameS k) s) (some (.tup [eV (madeE k),iV 0],[])) (parseS s m (Nat.succ k))
theorem parseS_eq (s:List UInt8):∀ m k,parseS s m k = match findS s m k with
    | some j=>some (.tup [eV (madeE j),iV 0],[])
    | none=>some (.tup [eV zeroE,iV 30],[])
  | 0,k=>rfl
  | m+1,k=>by
    simp only [parseS,findS]
    cases h:seq (nameS k) s with
    | true=>rfl
    | false=>exact parseS_eq s m (Nat.succ k)
theorem parseS_all (s:List UInt8):parseS s 112 0 = some (.tup [eV (parseE s),iV (parseF s)],[]):=by
  rw [parseS_eq]
  unfold parseE parseF
  cases findS s 112 0 <;> rfl
theorem parse22 (s:List UInt8):(finF (evalF tab cx5 Try.f97 [.str s] [])).sem = parseS s 112 0:=by kernel_rfl
def textT (f:List UInt8->V):List V->T (V × List Blk)
  | [v]=>match gS v with
    | some e=>.leaf (f e,[])
    | none=>.fail
  | _=>.fail
theorem textT_some {f:List UInt8->V} {vs:List V} {r:V × List Blk} (h:(textT f vs).sem = some r):∃ e,vs = [.str e] ∧ r = (f e,[]):=by
  unfold textT at h
  split at h
  · split at h
    · rename_i v e hn
      exact ⟨e,by rw [gS_some hn],sem_leaf h⟩
    · cases h
  · cases h
def parseP (s:List UInt8):V:=.tup [eV (parseE s),iV (parseF s)]
theorem p22:PureC Try.prog Gl 97 (textT parseP):=by
  refine PureC.congr (pureC_body tabOK mixed Try.func97 (by kernel_rfl) (by kernel_rfl) (Γ:=cx5) (cx_ok tb5_ok _)) fun vs r h=>?_
  obtain ⟨e,rfl,rfl⟩:=textT_some h
  exact (parse22 e).trans (parseS_all e)
noncomputable def tb6:List (Nat × (List V->T (V × List Blk))):=(97,textT parseP) :: tb5
theorem tb6_ok:AllPure Try.prog Gl tb6:=.cons p22 tb5_ok
noncomputable def cx6:Cx:=cxOf Gl tb6 []
def unitT (f:V):List V->T (V × List Blk)
  | []=>.leaf (f,[])
  | _=>.fail
noncomputable def tb7:List (Nat × (List V->T (V × List Blk))):=tb6
theorem tb7_ok:AllPure Try.prog Gl tb7:=tb6_ok
theorem ieq_self (a:Int):ieq a a = true:=by simp [ieq]
end Go.Proofs.Ytjhnfomefcngfaa.Ed
