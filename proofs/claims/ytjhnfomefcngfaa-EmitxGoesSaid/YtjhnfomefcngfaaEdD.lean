/-
  The table of the program's types, as the evaluator asks of them, and that it is the program's own. No conditions.
-/
import Derived.Test.YtjhnfomefcngfaaSyA
import Derived.Test.YtjhnfomefcngfaaProg
import Derived.KernelRfl
import Derived.Test.YtjhnfomefcngfaaSyU
import Derived.Test.YtjhnfomefcngfaaRows
namespace Go.Sy
open Go.Proofs
set_option maxRecDepth 100000
def tab:List Ty:=[
 ⟨.other,1,0,.und,false⟩,
 ⟨.other,1,8,.val (.nilFunc),false⟩,
 ⟨.int .i64,1,8,.val (.int .i64 0),false⟩,
 ⟨.int .i64,1,8,.val (.int .i64 0),false⟩,
 ⟨.bool,1,1,.val (.bool false),false⟩,
 ⟨.int .u8,1,1,.val (.int .u8 0),false⟩,
 ⟨.int .u8,1,1,.val (.int .u8 0),false⟩,
 ⟨.st [(0,2),(1,3),(2,4),(3,6)],4,24,.agg [.val (.int .i64 0),.val (.int .i64 0),.val (.bool false),.val (.int .u8 0)],true⟩,
 ⟨.st [(0,2),(1,3),(2,4),(3,6)],4,24,.agg [.val (.int .i64 0),.val (.int .i64 0),.val (.bool false),.val (.int .u8 0)],true⟩,
 ⟨.str,1,16,.str [],false⟩,
 ⟨.str,1,16,.str [],false⟩,
 ⟨.str,1,16,.str [],false⟩,
 ⟨.int .u64,1,8,.val (.int .u64 0),false⟩,
 ⟨.st [(0,9),(1,12)],2,24,.agg [.str [],.val (.int .u64 0)],false⟩,
 ⟨.st [(0,9),(1,12)],2,24,.agg [.str [],.val (.int .u64 0)],false⟩,
 ⟨.other,1,8,.val (.pointer none),false⟩,
 ⟨.other,1,8,.val (.pointer none),false⟩,
 ⟨.other,1,8,.val (.pointer none),false⟩,
 ⟨.st [(0,17)],1,8,.agg [.val (.pointer none)],false⟩,
 ⟨.st [(0,17)],1,8,.agg [.val (.pointer none)],false⟩,
 ⟨.other,1,16,.val (.nilIface),false⟩,
 ⟨.int .i32,1,4,.val (.int .i32 0),false⟩,
 ⟨.sl 44,1,24,.nilS,false⟩,
 ⟨.other,1,8,.val (.nilFunc),false⟩,
 ⟨.sl 40,1,24,.nilS,false⟩,
 ⟨.sl 3,1,24,.nilS,false⟩,
 ⟨.sl 25,1,24,.nilS,false⟩,
 ⟨.st [(0,3),(1,22),(2,24),(3,3),(4,3),(5,25),(6,26)],7,120,.agg [.val (.int .i64 0),.nilS,.nilS,.val (.int .i64 0),.val (.int .i64 0),.nilS,.nilS],false⟩,
 ⟨.st [(0,3),(1,22),(2,24),(3,3),(4,3),(5,25),(6,26)],7,120,.agg [.val (.int .i64 0),.nilS,.nilS,.val (.int .i64 0),.val (.int .i64 0),.nilS,.nilS],false⟩,
 ⟨.int .i64,1,8,.val (.int .i64 0),false⟩,
 ⟨.other,1,0,.und,false⟩,
 ⟨.other,1,8,.val (.nilFunc),false⟩,
 ⟨.other,1,8,.val (.nilFunc),false⟩,
 ⟨.other,1,8,.val (.nilFunc),false⟩,
 ⟨.other,1,8,.val (.nilFunc),false⟩,
 ⟨.other,1,8,.val (.nilFunc),false⟩,
 ⟨.other,1,0,.und,false⟩,
 ⟨.other,1,8,.val (.nilFunc),false⟩,
 ⟨.other,1,8,.val (.nilFunc),false⟩,
 ⟨.st [(0,3),(1,3),(2,3),(3,3),(4,3)],5,40,.agg [.val (.int .i64 0),.val (.int .i64 0),.val (.int .i64 0),.val (.int .i64 0),.val (.int .i64 0)],true⟩,
 ⟨.st [(0,3),(1,3),(2,3),(3,3),(4,3)],5,40,.agg [.val (.int .i64 0),.val (.int .i64 0),.val (.int .i64 0),.val (.int .i64 0),.val (.int .i64 0)],true⟩,
 ⟨.other,1,8,.val (.nilFunc),false⟩,
 ⟨.other,1,8,.val (.nilFunc),false⟩,
 ⟨.st [(0,3),(1,4),(2,4),(3,3),(4,3),(5,3)],6,40,.agg [.val (.int .i64 0),.val (.bool false),.val (.bool false),.val (.int .i64 0),.val (.int .i64 0),.val (.int .i64 0)],true⟩,
 ⟨.st [(0,3),(1,4),(2,4),(3,3),(4,3),(5,3)],6,40,.agg [.val (.int .i64 0),.val (.bool false),.val (.bool false),.val (.int .i64 0),.val (.int .i64 0),.val (.int .i64 0)],true⟩,
 ⟨.other,1,0,.und,false⟩,
 ⟨.other,1,8,.val (.nilFunc),false⟩,
 ⟨.other,1,8,.val (.nilFunc),false⟩,
 ⟨.other,1,8,.val (.nilFunc),false⟩,
 ⟨.other,1,0,.und,false⟩,
 ⟨.other,1,8,.val (.nilFunc),false⟩,
 ⟨.other,1,8,.val (.nilFunc),false⟩,
 ⟨.other,1,8,.val (.nilFunc),false⟩,
 ⟨.other,1,8,.val (.nilFunc),false⟩,
 ⟨.other,1,8,.val (.nilFunc),false⟩,
 ⟨.other,1,8,.val (.nilFunc),false⟩,
 ⟨.other,1,0,.und,false⟩,
 ⟨.other,1,8,.val (.nilFunc),false⟩,
 ⟨.other,1,8,.val (.nilFunc),false⟩,
 ⟨.other,1,0,.und,false⟩,
 ⟨.other,1,8,.val (.nilFunc),false⟩,
 ⟨.sl 64,1,24,.nilS,false⟩,
 ⟨.other,1,0,.und,false⟩,
 ⟨.other,1,8,.val (.nilFunc),false⟩,
 ⟨.sl 66,1,24,.nilS,false⟩,
 ⟨.st [(0,3),(1,3),(2,3),(3,3),(4,3),(5,9),(6,9),(7,3)],8,80,.agg [.val (.int .i64 0),.val (.int .i64 0),.val (.int .i64 0),.val (.int .i64 0),.val (.int .i64 0),.str [],.str [],.val (.int .i64 0)],true⟩,
 ⟨.st [(0,3),(1,3),(2,3),(3,3),(4,3),(5,9),(6,9),(7,3)],8,80,.agg [.val (.int .i64 0),.val (.int .i64 0),.val (.int .i64 0),.val (.int .i64 0),.val (.int .i64 0),.str [],.str [],.val (.int .i64 0)],true⟩,
 ⟨.other,1,8,.val (.nilFunc),false⟩,
 ⟨.other,1,8,.val (.nilFunc),false⟩,
 ⟨.other,1,8,.val (.nilFunc),false⟩,
 ⟨.arr 15 4,15,15,.agg [.val (.bool false),.val (.bool false),.val (.bool false),.val (.bool false),.val (.bool false),.val (.bool false),.val (.bool false),.val (.bool false),.val (.bool false),.val (.bool false),.val (.bool false),.val (.bool false),.val (.bool false),.val (.bool false),.val (.bool false)],true⟩,
 ⟨.other,1,8,.val (.nilFunc),false⟩,
 ⟨.other,1,8,.val (.nilFunc),false⟩,
 ⟨.other,1,0,.und,false⟩,
 ⟨.other,1,8,.val (.nilFunc),false⟩,
 ⟨.other,1,8,.val (.nilFunc),false⟩,
 ⟨.imap 3,1,8,.val (.map none),false⟩,
 ⟨.other,1,8,.val (.nilFunc),false⟩,
 ⟨.other,1,8,.val (.pointer none),false⟩,
 ⟨.other,1,8,.val (.nilFunc),false⟩,
 ⟨.other,1,8,.val (.nilFunc),false⟩,
 ⟨.other,1,8,.val (.nilFunc),false⟩,
 ⟨.other,1,0,.und,false⟩,
 ⟨.other,1,8,.val (.nilFunc),false⟩,
 ⟨.other,1,8,.val (.nilFunc),false⟩,
 ⟨.other,1,8,.val (.nilFunc),false⟩,
 ⟨.other,1,8,.val (.nilFunc),false⟩,
 ⟨.other,1,8,.val (.nilFunc),false⟩,
 ⟨.other,1,8,.val (.nilFunc),false⟩,
 ⟨.other,1,0,.und,false⟩,
 ⟨.other,1,8,.val (.nilFunc),false⟩,
 ⟨.other,1,8,.val (.nilFunc),false⟩,
 ⟨.other,1,0,.und,false⟩,
 ⟨.other,1,8,.val (.nilFunc),false⟩,
 ⟨.other,1,8,.val (.nilFunc),false⟩,
 ⟨.other,1,8,.val (.nilFunc),false⟩,
 ⟨.other,1,8,.val (.nilFunc),false⟩,
 ⟨.other,1,8,.val (.nilFunc),false⟩,
 ⟨.other,1,0,.und,false⟩,
 ⟨.other,1,8,.val (.nilFunc),false⟩,
 ⟨.other,1,8,.val (.nilFunc),false⟩,
 ⟨.other,1,8,.val (.nilFunc),false⟩,
 ⟨.other,1,8,.val (.nilFunc),false⟩,
 ⟨.other,1,8,.val (.nilFunc),false⟩,
 ⟨.other,1,0,.und,false⟩,
 ⟨.other,1,8,.val (.nilFunc),false⟩,
 ⟨.other,1,0,.und,false⟩,
 ⟨.other,1,8,.val (.nilFunc),false⟩,
 ⟨.other,1,8,.val (.nilFunc),false⟩,
 ⟨.sl 4,1,24,.nilS,false⟩,
 ⟨.other,1,8,.val (.nilFunc),false⟩,
 ⟨.other,1,8,.val (.nilFunc),false⟩,
 ⟨.other,1,8,.val (.nilFunc),false⟩,
 ⟨.other,1,8,.val (.nilFunc),false⟩,
 ⟨.sl 118,1,24,.nilS,false⟩,
 ⟨.st [(0,64)],1,24,.agg [.nilS],false⟩,
 ⟨.st [(0,64)],1,24,.agg [.nilS],false⟩,
 ⟨.st [(0,116),(1,3)],2,32,.agg [.nilS,.val (.int .i64 0)],false⟩,
 ⟨.st [(0,116),(1,3)],2,32,.agg [.nilS,.val (.int .i64 0)],false⟩,
 ⟨.other,1,8,.val (.nilFunc),false⟩,
 ⟨.other,1,8,.val (.nilFunc),false⟩,
 ⟨.other,1,8,.val (.nilFunc),false⟩,
 ⟨.other,1,8,.val (.pointer none),false⟩,
 ⟨.other,1,8,.val (.nilFunc),false⟩,
 ⟨.other,1,8,.val (.nilFunc),false⟩,
 ⟨.other,1,8,.val (.nilFunc),false⟩,
 ⟨.other,1,8,.val (.nilFunc),false⟩,
 ⟨.other,1,8,.val (.nilFunc),false⟩,
 ⟨.other,1,8,.val (.pointer none),false⟩,
 ⟨.sl 9,1,24,.nilS,false⟩,
 ⟨.other,1,8,.val (.nilFunc),false⟩,
 ⟨.st [(0,17),(1,17),(2,17),(3,9)],4,40,.agg [.val (.pointer none),.val (.pointer none),.val (.pointer none),.str []],false⟩,
 ⟨.st [(0,17),(1,17),(2,17),(3,9)],4,40,.agg [.val (.pointer none),.val (.pointer none),.val (.pointer none),.str []],false⟩,
 ⟨.arr 0 16,0,0,.agg [],false⟩,
 ⟨.st [(0,133)],0,0,.agg [],false⟩,
 ⟨.st [(0,133)],0,0,.agg [],false⟩,
 ⟨.other,1,8,.val (.nilFunc),false⟩,
 ⟨.int .u32,1,4,.val (.int .u32 0),false⟩,
 ⟨.int .u8,1,1,.val (.int .u8 0),false⟩,
 ⟨.int .u8,1,1,.val (.int .u8 0),false⟩,
 ⟨.other,1,8,.val (.nilFunc),false⟩,
 ⟨.other,1,8,.val (.pointer none),false⟩,
 ⟨.int .i32,1,4,.val (.int .i32 0),false⟩,
 ⟨.int .i32,1,4,.val (.int .i32 0),false⟩,
 ⟨.st [(0,12),(1,12),(2,137),(3,138),(4,5),(5,5),(6,139),(7,140),(8,141),(9,142),(10,143)],11,48,.agg [.val (.int .u64 0),.val (.int .u64 0),.val (.int .u32 0),.val (.int .u8 0),.val (.int .u8 0),.val (.int .u8 0),.val (.int .u8 0),.val (.nilFunc),.val (.pointer none),.val (.int .i32 0),.val (.int .i32 0)],false⟩,
 ⟨.st [(0,12),(1,12),(2,137),(3,138),(4,5),(5,5),(6,139),(7,140),(8,141),(9,142),(10,143)],11,48,.agg [.val (.int .u64 0),.val (.int .u64 0),.val (.int .u32 0),.val (.int .u8 0),.val (.int .u8 0),.val (.int .u8 0),.val (.int .u8 0),.val (.nilFunc),.val (.pointer none),.val (.int .i32 0),.val (.int .i32 0)],false⟩,
 ⟨.other,1,8,.val (.pointer none),false⟩]
def Qw (P:Program):Nat->Nat->List (Option Ty)
 | 0,_=>[]
 | n+1,k=>XB P k :: Qw P n (Nat.succ k)
def Ve:List Ty->List (Option Ty)
 | []=>[]
 | t :: l=>some t :: Ve l
theorem Ael:Qw Try.prog 147 0 = Ve tab:=by kernel_rfl
theorem RY (P:Program):∀ (n k j:Nat),j < n->(Qw P n k)[j]? = some (XB P (k+j))
 | 0,_,_,h=>absurd h (Nat.not_lt_zero _)
 | n+1,k,0,_=>rfl
 | n+1,k,j+1,h=>by
  have:=RY P n (Nat.succ k) j (Nat.lt_of_succ_lt_succ h)
  simp only [Qw,List.getElem?_cons_succ,this]
  rw [show Nat.succ k+j = k+(j+1) by omega]
theorem Pj:∀ (l:List Ty) (j:Nat) (t:Ty),l[j]? = some t->(Ve l)[j]? = some (some t) ∧ j < l.length
 | [],_,_,h=>by simp at h
 | a :: l,0,t,h=>by simp at h; subst h; exact ⟨rfl,by simp⟩
 | a :: l,j+1,t,h=>by
  have:=Pj l j t (by simpa using h)
  exact ⟨by simpa [Ve] using this.1,by simp; exact this.2⟩
theorem AaQ:tab.length = 147:=by kernel_rfl
theorem Aek (j:Nat) (t:Ty) (h:tab[j]? = some t):XB Try.prog j = some t:=by
 obtain ⟨h1,h2⟩:=Pj tab j t h
 rw [AaQ] at h2
 rw [<- Ael,RY _ _ _ _ h2] at h1
 simpa using h1
end Go.Sy
namespace Go.Proofs.Ytjhnfomefcngfaa.Ed
open Go.Sy
def Ag3:List (List UInt8):=[[82,102,101],[82,102,105],[70,114,101],[70,114,105],[67,111,101],[67,111,105]]
def Ajn:List (List UInt8):=[[82,82],[82,87],[87,82],[87,87]]
def Ah7:List (List UInt8):=[[114,46,114],[114,46,119],[114,46,114,119],[119,46,114],[119,46,119],[119,46,114,119],[114,119,46,114],[114,119,46,119],[114,119,46,114,119]]
def Ajq:List (List UInt8):=[[68,112,65,100,100,114,100,82],[68,112,65,100,100,114,100,87],[68,112,65,100,100,114,115,82],[68,112,65,100,100,114,115,87],[68,112,68,97,116,97,100,87],
 [68,112,68,97,116,97,115,87],[68,112,67,116,114,108,100,82],[68,112,67,116,114,108,100,87],[68,112,67,116,114,108,115,82],[68,112,67,116,114,108,115,87]]
def Gl:Nat->V:=λ_=>.und
theorem AR:Try.prog.follows .mixedOrders = true:=by kernel_rfl
theorem AQ:TabOK Try.prog tab:=⟨Aek,AaB⟩
theorem Akt {S:Nat->Prop} {W:World}:R7 Gl S W:=λ_=>trivial
end Go.Proofs.Ytjhnfomefcngfaa.Ed
namespace Go.Proofs.Ytjhnfomefcngfaa.Ed
open Go.Sy
structure E6 where
 kind:Int
 ext:Bool
 same:Bool
 src:Int
 dst:Int
 fence:Int
 deriving DecidableEq
def eV (e:E6):V:=.agg [iV e.kind,bV e.ext,bV e.same,iV e.src,iV e.dst,iV e.fence]
def toE:V->Option E6
 | .agg [a,b,c,d,e,f]=>match gI a,gB b,gB c,gI d,gI e,gI f with
  | some a,some b,some c,some d,some e,some f=>some ⟨a,b,c,d,e,f⟩
  | _,_,_,_,_,_=>none
 | _=>none
theorem Nc {v:V} {e:E6} (h:toE v = some e):v = eV e:=by
 unfold toE at h
 split at h
 ·split at h
  ·rename_i h1 h2 h3 h4 h5 h6
   simp only [Option.some.injEq] at h
   subst h
   rw [Gs h1,QR h2,QR h3,Gs h4,Gs h5,Gs h6]
   rfl
  ·cases h
 ·cases h
def eqE (a b:E6):Bool:=Af (ieq a.kind b.kind) (Af (AP a.ext b.ext) (Af (AP a.same b.same) (Af (ieq a.src b.src) (Af (ieq a.dst b.dst) (Af (ieq a.fence b.fence) true)))))
theorem Jw (a b:E6):eqE a b = true ↔ a = b:=by
 cases a; cases b
 simp [eqE,Af,ieq,AP]
theorem ZC (a b:E6):eqE a b = eqE b a:=by
 rw [Bool.eq_iff_iff,Jw,Jw]
 exact eq_comm
def D5 (c:Nat):E6 :=
 if c < 6 then ⟨c / 2+1,c % 2 == 0,false,if c / 2 == 1 then 1 else 2,if c / 2 == 0 then 1 else 2,0⟩
 else if c < 102 then ⟨if (c - 6) / 8 == 0 then 4 else 5,false,decide (4 <= (c - 6) % 8),1+((c - 6) % 4 / 2:Nat),1+((c - 6) % 2:Nat),((c - 6) / 8:Nat)⟩
 else if c < 106 then ⟨6,false,decide (2 <= c - 102),1,1+((c - 102) % 2:Nat),0⟩
 else if c < 108 then ⟨7,false,c - 102 == 5,1,2,0⟩
 else ⟨8,false,decide (8 <= c - 102),1,1+((c - 102) % 2:Nat),0⟩
def Ga:E6:=⟨0,false,false,0,0,0⟩
def inR (n:Int):Bool:=decide (0 <= n) && decide (n < 112)
theorem SJ {n:Int} (h:inR n = true):∃ k:Nat,n = (k:Int) ∧ k < 112:=by
 simp [inR] at h
 exact ⟨n.toNat,by omega,by omega⟩
theorem Zu {n:Int} (h:inR n = false):n < 0 ∨ 0 <= n ∧ 112 <= n:=by
 simp [inR] at h
 omega
def cx0:Cx:=AT Gl [] []
noncomputable def Ajy:List V->T (V × List Blk):=λvs=>A2 (An tab cx0 Try.f119 vs [])
theorem Aki:AA Try.prog Gl 119 Ajy:=AO AQ AR Try.func119 (by kernel_rfl) (by kernel_rfl) (AS AC.nil _)
noncomputable def Ada:List V->T (V × List Blk):=λvs=>A2 (An tab cx0 Try.f121 vs [])
theorem p74:AA Try.prog Gl 121 Ada:=AO AQ AR Try.func121 (by kernel_rfl) (by kernel_rfl) (AS AC.nil _)
noncomputable def Aat:List V->T (V × List Blk):=λvs=>A2 (An tab cx0 Try.f122 vs [])
theorem p75:AA Try.prog Gl 122 Aat:=AO AQ AR Try.func122 (by kernel_rfl) (by kernel_rfl) (AS AC.nil _)
noncomputable def Ajz:List V->T (V × List Blk):=λvs=>A2 (An tab cx0 Try.f123 vs [])
theorem p76:AA Try.prog Gl 123 Ajz:=AO AQ AR Try.func123 (by kernel_rfl) (by kernel_rfl) (AS AC.nil _)
noncomputable def tb0:List (Nat × (List V->T (V × List Blk))):=(121,Ada) :: (122,Aat) :: (123,Ajz) :: []
theorem Ee:AC Try.prog Gl tb0:=.cons p74 <| .cons p75 <| .cons p76 .nil
noncomputable def Ag1:Cx:=AT Gl tb0 []
def P4 (c:Nat):List UInt8 :=
 if c < 6 then Ag3.getD c []
 else if 102 <= c then Ajq.getD (c - 102) []
 else (if (c - 6) / 8 = 0 then [80,111] else if (c - 6) / 8 = 1 then [77,70,101,110,99,101] else if (c - 6) / 8 = 2 then [70,101,110,99,101,46,116,115,111]
  else [70,101,110,99,101,46] ++ Ah7.getD ((c - 6) / 8 - 3) []) ++ ((if 4 <= (c - 6) % 8 then [115] else [100]) ++ Ajn.getD ((c - 6) % 4) [])
end Go.Proofs.Ytjhnfomefcngfaa.Ed
namespace Go.Proofs.Ytjhnfomefcngfaa.Ed
open Go.Sy
theorem Agi:(List.range 112).map (λk:Nat=>(A2 (An tab cx0 Try.f119 [nV k] [])).sem) = (List.range 112).map λk=>some (eV (D5 k),[]):=by kernel_rfl
theorem Akq:(List.range 112).map (λk:Nat=>(A2 (An tab Ag1 Try.f114 [nV k] [])).sem) = (List.range 112).map λk=>some (.tup [eV (D5 k),iV 0],[]):=by kernel_rfl
theorem AiQ (n:Int):(A2 (An tab Ag1 Try.f114 [iV n] [])).path [true,true,true,true] = some ([ilt n 0,ilt n 0,ilt n 0,true],(.tup [eV Ga,iV 30],[])):=by kernel_rfl
theorem AiP (n:Int):(A2 (An tab Ag1 Try.f114 [iV n] [])).path [false,false,false,true] = some ([ilt n 0,ilt n 0,ilt n 0,ile 112 n],(.tup [eV Ga,iV 30],[])):=by kernel_rfl
end Go.Proofs.Ytjhnfomefcngfaa.Ed
namespace Go.Proofs.Ytjhnfomefcngfaa.Ed
open Go.Sy
def codeT (f:Nat->V):List V->T (V × List Blk)
 | [v]=>match gI v with
  | some n=>.br (inR n) (.leaf (f n.toNat,[])) .fail
  | none=>.fail
 | _=>.fail
theorem UH {f:Nat->V} {vs:List V} {r:V × List Blk} (h:(codeT f vs).sem = some r):∃ k:Nat,k < 112 ∧ vs = [nV k] ∧ r = (f k,[]):=by
 unfold codeT at h
 split at h
 ·split at h
  ·rename_i v n hn
   obtain ⟨h1,h2⟩:=Ag h
   obtain ⟨k,rfl,hk⟩:=SJ h1
   exact ⟨k,hk,by rw [Gs hn]; rfl,by rw [Ac h2]; rfl⟩
  ·cases h
 ·cases h
theorem p71:AA Try.prog Gl 119 (codeT λk=>eV (D5 k)):=by
 refine Aki.congr λvs r h=>?_
 obtain ⟨k,hk,rfl,rfl⟩:=UH h
 exact Hr Agi k hk
def ofT:List V->T (V × List Blk)
 | [v]=>match gI v with
  | some n=>.br (inR n) (.leaf (.tup [eV (D5 n.toNat),iV 0],[])) (.leaf (.tup [eV Ga,iV 30],[]))
  | none=>.fail
 | _=>.fail
theorem YQ {vs:List V} {r:V × List Blk} (h:(ofT vs).sem = some r):∃ n,vs = [iV n] ∧ ((∃ k:Nat,n = Int.ofNat k ∧ k < 112 ∧ r = (.tup [eV (D5 k),iV 0],[])) ∨ ((n < 0 ∨ 0 <= n ∧ 112 <= n) ∧ r = (.tup [eV Ga,iV 30],[]))):=by
 unfold ofT at h
 split at h
 ·split at h
  ·rename_i v n hn
   refine ⟨n,by rw [Gs hn],?_⟩
   cases hi:inR n with
   | true =>
    obtain ⟨k,rfl,hk⟩:=SJ hi
    simp only [T.sem,hi,sel,cond_true,Option.some.injEq] at h
    exact .inl ⟨k,rfl,hk,h.symm⟩
   | false =>
    simp only [T.sem,hi,sel,cond_false,Option.some.injEq] at h
    exact .inr ⟨Zu hi,h.symm⟩
  ·cases h
 ·cases h
theorem Ab8 {a b:Int} (h:a < b):ilt a b = true:=by simpa [ilt] using h
theorem YV {a b:Int} (h:b <= a):ilt a b = false:=by simp [ilt]; omega
theorem VC {a b:Int} (h:a <= b):ile a b = true:=by simpa [ile] using h
theorem p31:AA Try.prog Gl 114 ofT:=by
 refine AA.congr (AO AQ AR Try.func114 (by kernel_rfl) (by kernel_rfl) (AS Ee [])) λvs r h=>?_
 obtain ⟨n,rfl,⟨k,rfl,hk,rfl⟩ | ⟨hn,rfl⟩⟩:=YQ h
 ·exact Hr Akq k hk
 ·rcases hn with hn | ⟨h0,hn⟩
  ·exact AD (AiQ n) (by rw [Ab8 hn])
  ·exact AD (AiP n) (by rw [YV h0,VC hn])
noncomputable def tb1:List (Nat × (List V->T (V × List Blk))):=(119,codeT λk=>eV (D5 k)) :: (114,ofT) :: []
theorem TJ:AC Try.prog Gl tb1:=.cons p71 <| .cons p31 .nil
noncomputable def cx1:Cx:=AT Gl tb1 [(0,⟨[],1,[],1,113⟩)]
def GY (e:E6):Nat->Nat->Option Nat
 | 0,_=>none
 | m+1,k=>match eqE (D5 k) e with
  | true=>some k
  | false=>GY e m (Nat.succ k)
def Bx (e:E6):Int:=match GY e 112 0 with
 | some k=>Int.ofNat k
 | none=>0
def AM (e:E6):Int:=match GY e 112 0 with
 | some _=>0
 | none=>30
def O6 (e:E6):Nat->Nat->Option (V × List Blk)
 | 0,_=>some (.tup [iV 0,iV 30],[])
 | m+1,k=>sel (eqE (D5 k) e) (some (.tup [nV k,iV 0],[])) (O6 e m (Nat.succ k))
def Rt (e:E6):Nat->Nat->Option (V × List Blk)
 | 0,_=>some (.tup [iV 0,iV 30],[])
 | m+1,k=>sel (eqE e (D5 k)) (some (.tup [nV k,iV 0],[])) (Rt e m (Nat.succ k))
theorem Tp (e:E6):∀ m k,O6 e m k = match GY e m k with
  | some j=>some (.tup [nV j,iV 0],[])
  | none=>some (.tup [iV 0,iV 30],[])
 | 0,k=>rfl
 | m+1,k=>by
  simp only [O6,GY]
  cases h:eqE (D5 k) e with
  | true=>rfl
  | false=>exact Tp e m (Nat.succ k)
theorem PO (e:E6):∀ m k,Rt e m k = O6 e m k
 | 0,_=>rfl
 | m+1,k=>by
  simp only [O6,Rt,PO e m,ZC e]
theorem PN (e:E6):O6 e 112 0 = some (.tup [iV (Bx e),iV (AM e)],[]):=by
 rw [Tp]
 unfold Bx AM
 cases GY e 112 0 <;> rfl
theorem Ag5 (e:E6):(A2 (An tab cx1 Try.f112 [eV e] [])).sem = O6 e 112 0:=by kernel_rfl
theorem Ag4 (e:E6):(A2 (An tab cx1 Try.f98 [eV e] [])).sem = Rt e 112 0:=by kernel_rfl
def BR (f:E6->V):List V->T (V × List Blk)
 | [v]=>match toE v with
  | some e=>.leaf (f e,[])
  | none=>.fail
 | _=>.fail
theorem Ca {f:E6->V} {vs:List V} {r:V × List Blk} (h:(BR f vs).sem = some r):∃ e,vs = [eV e] ∧ r = (f e,[]):=by
 unfold BR at h
 split at h
 ·split at h
  ·rename_i v e hn
   exact ⟨e,by rw [Nc hn],Ac h⟩
  ·cases h
 ·cases h
def Tq (e:E6):V:=.tup [iV (Bx e),iV (AM e)]
theorem p24:AA Try.prog Gl 112 (BR Tq):=by
 refine AA.congr (AO AQ AR Try.func112 (by kernel_rfl) (by kernel_rfl) (Γ:=cx1) (AS TJ _)) λvs r h=>?_
 obtain ⟨e,rfl,rfl⟩:=Ca h
 exact (Ag5 e).trans (PN e)
theorem p25:AA Try.prog Gl 98 (BR Tq):=by
 refine AA.congr (AO AQ AR Try.func98 (by kernel_rfl) (by kernel_rfl) (Γ:=cx1) (AS TJ _)) λvs r h=>?_
 obtain ⟨e,rfl,rfl⟩:=Ca h
 exact (Ag4 e).trans ((PO e 112 0).trans (PN e))
end Go.Proofs.Ytjhnfomefcngfaa.Ed
namespace Go.Proofs.Ytjhnfomefcngfaa.Ed
open Go.Sy
noncomputable def tb2:List (Nat × (List V->T (V × List Blk))):=(112,BR Tq) :: (98,BR Tq) :: tb1
theorem XR:AC Try.prog Gl tb2:=.cons p24 <| .cons p25 TJ
noncomputable def cx2:Cx:=AT Gl tb2 []
theorem Aco (e:E6):(A2 (An tab cx2 Try.f64 [eV e] [])).sem = some (iV (AM e),[]):=by kernel_rfl
theorem p29:AA Try.prog Gl 64 (BR λe=>iV (AM e)):=by
 refine AA.congr (AO AQ AR Try.func64 (by kernel_rfl) (by kernel_rfl) (Γ:=cx2) (AS XR _)) λvs r h=>?_
 obtain ⟨e,rfl,rfl⟩:=Ca h
 exact Aco e
theorem JT (e:E6):∀ m k j,GY e m k = some j->k <= j ∧ j < k+m ∧ D5 j = e
 | 0,k,j,h=>by cases h
 | m+1,k,j,h=>by
  simp only [GY] at h
  split at h
  ·rename_i he
   simp only [Option.some.injEq] at h
   subst h
   exact ⟨Nat.le_refl _,by omega,(Jw _ _).1 he⟩
  ·obtain ⟨h1,h2,h3⟩:=JT e m _ j h
   exact ⟨by omega,by omega,h3⟩
def Sw (e:E6):List UInt8:=match GY e 112 0 with
 | some k=>P4 k
 | none=>[]
def V6 (e:E6):V:=.tup [.str (Sw e),iV (AM e)]
noncomputable def tb3:List (Nat × (List V->T (V × List Blk))):=(64,BR λe=>iV (AM e)) :: tb2
theorem XQ:AC Try.prog Gl tb3:=.cons p29 XR
noncomputable def tbn:List (Nat × (List V->T (V × List Blk))):=(124,λvs=>A2 (An tab cx0 Try.f124 vs [])) :: (126,λvs=>A2 (An tab cx0 Try.f126 vs [])) :: []
theorem XH:AC Try.prog Gl tbn :=
 .cons (AO AQ AR Try.func124 (by kernel_rfl) (by kernel_rfl) (Γ:=cx0) (AS .nil _)) <|
 .cons (AO AQ AR Try.func126 (by kernel_rfl) (by kernel_rfl) (Γ:=cx0) (AS .nil _)) .nil
noncomputable def cxn:Cx:=AT Gl tbn []
noncomputable def tb4:List (Nat × (List V->T (V × List Blk))):=(125,λvs=>A2 (An tab cxn Try.f125 vs [])) :: (tbn ++ tb3)
theorem AC.append {P:Program} {G:Nat->V} {a b:List (Nat × (List V->T (V × List Blk)))} (ha:AC P G a) (hb:AC P G b):AC P G (a ++ b):=λp hp=>(List.mem_append.1 hp).elim (ha p) (hb p)
theorem Aej:AC Try.prog Gl tb4 :=
 .cons (AO AQ AR Try.func125 (by kernel_rfl) (by kernel_rfl) (Γ:=cxn) (AS XH _)) (AC.append XH XQ)
noncomputable def cx4:Cx:=AT Gl tb4 []
theorem Agf:(List.range 112).map (λk:Nat=>(A2 (An tab cx4 Try.f115 [eV (D5 k)] [])).sem) = (List.range 112).map λk=>some (.tup [.str (P4 k),iV 0],[]):=by kernel_rfl
theorem Ab4 (e:E6):(A2 (An tab cx4 Try.f115 [eV e] [])).path [true] = some ([Ah (ieq (AM e) 0)],(.tup [.str [],iV 30],[])):=by kernel_rfl
theorem Ab3 (e:E6):(A2 (An tab cx4 Try.f115 [eV e] [])).sem = some (V6 e,[]):=by
 unfold V6 Sw
 cases h:GY e 112 0 with
 | none =>
  have hf:AM e = 30:=by unfold AM; rw [h]
  rw [hf]
  exact AD (Ab4 e) (by rw [hf]; rfl)
 | some k =>
  have hf:AM e = 0:=by unfold AM; rw [h]
  obtain ⟨_,hk,rfl⟩:=JT e 112 0 k h
  rw [hf]
  exact Hr Agf k (by omega)
theorem p27:AA Try.prog Gl 115 (BR V6):=by
 refine AA.congr (AO AQ AR Try.func115 (by kernel_rfl) (by kernel_rfl) (Γ:=cx4) (AS Aej _)) λvs r h=>?_
 obtain ⟨e,rfl,rfl⟩:=Ca h
 exact Ab3 e
end Go.Proofs.Ytjhnfomefcngfaa.Ed
namespace Go.Proofs.Ytjhnfomefcngfaa.Ed
open Go.Sy
noncomputable def tb5:List (Nat × (List V->T (V × List Blk))):=(115,BR V6) :: tb3
theorem XN:AC Try.prog Gl tb5:=.cons p27 <| XQ
noncomputable def cx5:Cx:=AT Gl tb5 [(0,⟨[],1,[],1,113⟩)]
def PF (s:List UInt8):Nat->Nat->Option Nat
 | 0,_=>none
 | m+1,k=>match seq (P4 k) s with
  | true=>some k
  | false=>PF s m (Nat.succ k)
def Fh (s:List UInt8):E6:=match PF s 112 0 with
 | some k=>D5 k
 | none=>Ga
def Ej (s:List UInt8):Int:=match PF s 112 0 with
 | some _=>0
 | none=>30
def N8 (s:List UInt8):Nat->Nat->Option (V × List Blk)
 | 0,_=>some (.tup [eV Ga,iV 30],[])
 | m+1,k=>sel (seq (P4 k) s) (some (.tup [eV (D5 k),iV 0],[])) (N8 s m (Nat.succ k))
theorem Py (s:List UInt8):∀ m k,N8 s m k = match PF s m k with
  | some j=>some (.tup [eV (D5 j),iV 0],[])
  | none=>some (.tup [eV Ga,iV 30],[])
 | 0,k=>rfl
 | m+1,k=>by
  simp only [N8,PF]
  cases h:seq (P4 k) s with
  | true=>rfl
  | false=>exact Py s m (Nat.succ k)
theorem Um (s:List UInt8):N8 s 112 0 = some (.tup [eV (Fh s),iV (Ej s)],[]):=by
 rw [Py]
 unfold Fh Ej
 cases PF s 112 0 <;> rfl
theorem Abv (s:List UInt8):(A2 (An tab cx5 Try.f97 [.str s] [])).sem = N8 s 112 0:=by kernel_rfl
def RE (f:List UInt8->V):List V->T (V × List Blk)
 | [v]=>match gS v with
  | some e=>.leaf (f e,[])
  | none=>.fail
 | _=>.fail
theorem TE {f:List UInt8->V} {vs:List V} {r:V × List Blk} (h:(RE f vs).sem = some r):∃ e,vs = [.str e] ∧ r = (f e,[]):=by
 unfold RE at h
 split at h
 ·split at h
  ·rename_i v e hn
   exact ⟨e,by rw [Acd hn],Ac h⟩
  ·cases h
 ·cases h
def Un (s:List UInt8):V:=.tup [eV (Fh s),iV (Ej s)]
theorem p22:AA Try.prog Gl 97 (RE Un):=by
 refine AA.congr (AO AQ AR Try.func97 (by kernel_rfl) (by kernel_rfl) (Γ:=cx5) (AS XN _)) λvs r h=>?_
 obtain ⟨e,rfl,rfl⟩:=TE h
 exact (Abv e).trans (Um e)
noncomputable def tb6:List (Nat × (List V->T (V × List Blk))):=(97,RE Un) :: tb5
theorem Nf:AC Try.prog Gl tb6:=.cons p22 XN
noncomputable def cx6:Cx:=AT Gl tb6 []
def XA (f:V):List V->T (V × List Blk)
 | []=>.leaf (f,[])
 | _=>.fail
noncomputable def tb7:List (Nat × (List V->T (V × List Blk))):=tb6
theorem Aeh:AC Try.prog Gl tb7:=Nf
theorem B7 (a:Int):ieq a a = true:=by simp [ieq]
end Go.Proofs.Ytjhnfomefcngfaa.Ed
