/-
  The table of the program's types, as the evaluator asks of them, and that it is the program's own. No conditions.
-/
import Derived.Test.YtjhnfomefcngfaaSyA
import Derived.Test.YtjhnfomefcngfaaProg
import Derived.KernelRfl
import Derived.Test.YtjhnfomefcngfaaSyU
import Derived.Test.YtjhnfomefcngfaaRows
namespace Go.Sy
open Go.Proofs
set_option maxRecDepth 100000
def tab:List Ty:=[
 ⟨.other,1,0,.und,false⟩,
 ⟨.other,1,8,.val (.nilFunc),false⟩,
 ⟨.int .i64,1,8,.val (.int .i64 0),false⟩,
 ⟨.int .i64,1,8,.val (.int .i64 0),false⟩,
 ⟨.bool,1,1,.val (.bool false),false⟩,
 ⟨.int .u8,1,1,.val (.int .u8 0),false⟩,
 ⟨.int .u8,1,1,.val (.int .u8 0),false⟩,
 ⟨.st [(0,2),(1,3),(2,4),(3,6)],4,24,.agg [.val (.int .i64 0),.val (.int .i64 0),.val (.bool false),.val (.int .u8 0)],true⟩,
 ⟨.st [(0,2),(1,3),(2,4),(3,6)],4,24,.agg [.val (.int .i64 0),.val (.int .i64 0),.val (.bool false),.val (.int .u8 0)],true⟩,
 ⟨.str,1,16,.str [],false⟩,
 ⟨.str,1,16,.str [],false⟩,
 ⟨.str,1,16,.str [],false⟩,
 ⟨.int .u64,1,8,.val (.int .u64 0),false⟩,
 ⟨.st [(0,9),(1,12)],2,24,.agg [.str [],.val (.int .u64 0)],false⟩,
 ⟨.st [(0,9),(1,12)],2,24,.agg [.str [],.val (.int .u64 0)],false⟩,
 ⟨.other,1,8,.val (.pointer none),false⟩,
 ⟨.other,1,8,.val (.pointer none),false⟩,
 ⟨.other,1,8,.val (.pointer none),false⟩,
 ⟨.st [(0,17)],1,8,.agg [.val (.pointer none)],false⟩,
 ⟨.st [(0,17)],1,8,.agg [.val (.pointer none)],false⟩,
 ⟨.other,1,16,.val (.nilIface),false⟩,
 ⟨.int .i32,1,4,.val (.int .i32 0),false⟩,
 ⟨.sl 44,1,24,.nilS,false⟩,
 ⟨.other,1,8,.val (.nilFunc),false⟩,
 ⟨.sl 40,1,24,.nilS,false⟩,
 ⟨.sl 3,1,24,.nilS,false⟩,
 ⟨.sl 25,1,24,.nilS,false⟩,
 ⟨.st [(0,3),(1,22),(2,24),(3,3),(4,3),(5,25),(6,26)],7,120,.agg [.val (.int .i64 0),.nilS,.nilS,.val (.int .i64 0),.val (.int .i64 0),.nilS,.nilS],false⟩,
 ⟨.st [(0,3),(1,22),(2,24),(3,3),(4,3),(5,25),(6,26)],7,120,.agg [.val (.int .i64 0),.nilS,.nilS,.val (.int .i64 0),.val (.int .i64 0),.nilS,.nilS],false⟩,
 ⟨.int .i64,1,8,.val (.int .i64 0),false⟩,
 ⟨.other,1,0,.und,false⟩,
 ⟨.other,1,8,.val (.nilFunc),false⟩,
 ⟨.other,1,8,.val (.nilFunc),false⟩,
 ⟨.other,1,8,.val (.nilFunc),false⟩,
 ⟨.other,1,8,.val (.nilFunc),false⟩,
 ⟨.other,1,8,.val (.nilFunc),false⟩,
 ⟨.other,1,0,.und,false⟩,
 ⟨.other,1,8,.val (.nilFunc),false⟩,
 ⟨.other,1,8,.val (.nilFunc),false⟩,
 ⟨.st [(0,3),(1,3),(2,3),(3,3),(4,3)],5,40,.agg [.val (.int .i64 0),.val (.int .i64 0),.val (.int .i64 0),.val (.int .i64 0),.val (.int .i64 0)],true⟩,
 ⟨.st [(0,3),(1,3),(2,3),(3,3),(4,3)],5,40,.agg [.val (.int .i64 0),.val (.int .i64 0),.val (.int .i64 0),.val (.int .i64 0),.val (.int .i64 0)],true⟩,
 ⟨.other,1,8,.val (.nilFunc),false⟩,
 ⟨.other,1,8,.val (.nilFunc),false⟩,
 ⟨.st [(0,3),(1,4),(2,4),(3,3),(4,3),(5,3)],6,40,.agg [.val (.int .i64 0),.val (.bool false),.val (.bool false),.val (.int .i64 0),.val (.int .i64 0),.val (.int .i64 0)],true⟩,
 ⟨.st [(0,3),(1,4),(2,4),(3,3),(4,3),(5,3)],6,40,.agg [.val (.int .i64 0),.val (.bool false),.val (.bool false),.val (.int .i64 0),.val (.int .i64 0),.val (.int .i64 0)],true⟩,
 ⟨.other,1,0,.und,false⟩,
 ⟨.other,1,8,.val (.nilFunc),false⟩,
 ⟨.other,1,8,.val (.nilFunc),false⟩,
 ⟨.other,1,8,.val (.nilFunc),false⟩,
 ⟨.other,1,0,.und,false⟩,
 ⟨.other,1,8,.val (.nilFunc),false⟩,
 ⟨.other,1,8,.val (.nilFunc),false⟩,
 ⟨.other,1,8,.val (.nilFunc),false⟩,
 ⟨.other,1,8,.val (.nilFunc),false⟩,
 ⟨.other,1,8,.val (.nilFunc),false⟩,
 ⟨.other,1,8,.val (.nilFunc),false⟩,
 ⟨.other,1,0,.und,false⟩,
 ⟨.other,1,8,.val (.nilFunc),false⟩,
 ⟨.other,1,8,.val (.nilFunc),false⟩,
 ⟨.other,1,0,.und,false⟩,
 ⟨.other,1,8,.val (.nilFunc),false⟩,
 ⟨.sl 64,1,24,.nilS,false⟩,
 ⟨.other,1,0,.und,false⟩,
 ⟨.other,1,8,.val (.nilFunc),false⟩,
 ⟨.sl 66,1,24,.nilS,false⟩,
 ⟨.st [(0,3),(1,3),(2,3),(3,3),(4,3),(5,9),(6,9),(7,3)],8,80,.agg [.val (.int .i64 0),.val (.int .i64 0),.val (.int .i64 0),.val (.int .i64 0),.val (.int .i64 0),.str [],.str [],.val (.int .i64 0)],true⟩,
 ⟨.st [(0,3),(1,3),(2,3),(3,3),(4,3),(5,9),(6,9),(7,3)],8,80,.agg [.val (.int .i64 0),.val (.int .i64 0),.val (.int .i64 0),.val (.int .i64 0),.val (.int .i64 0),.str [],.str [],.val (.int .i64 0)],true⟩,
 ⟨.other,1,8,.val (.nilFunc),false⟩,
 ⟨.other,1,8,.val (.nilFunc),false⟩,
 ⟨.other,1,8,.val (.nilFunc),false⟩,
 ⟨.arr 15 4,15,15,.agg [.val (.bool false),.val (.bool false),.val (.bool false),.val (.bool false),.val (.bool false),.val (.bool false),.val (.bool false),.val (.bool false),.val (.bool false),.val (.bool false),.val (.bool false),.val (.bool false),.val (.bool false),.val (.bool false),.val (.bool false)],true⟩,
 ⟨.other,1,8,.val (.nilFunc),false⟩,
 ⟨.other,1,8,.val (.nilFunc),false⟩,
 ⟨.other,1,0,.und,false⟩,
 ⟨.other,1,8,.val (.nilFunc),false⟩,
 ⟨.other,1,8,.val (.nilFunc),false⟩,
 ⟨.imap 3,1,8,.val (.map none),false⟩,
 ⟨.other,1,8,.val (.nilFunc),false⟩,
 ⟨.other,1,8,.val (.pointer none),false⟩,
 ⟨.other,1,8,.val (.nilFunc),false⟩,
 ⟨.other,1,8,.val (.nilFunc),false⟩,
 ⟨.other,1,8,.val (.nilFunc),false⟩,
 ⟨.other,1,0,.und,false⟩,
 ⟨.other,1,8,.val (.nilFunc),false⟩,
 ⟨.other,1,8,.val (.nilFunc),false⟩,
 ⟨.other,1,8,.val (.nilFunc),false⟩,
 ⟨.other,1,8,.val (.nilFunc),false⟩,
 ⟨.other,1,8,.val (.nilFunc),false⟩,
 ⟨.other,1,8,.val (.nilFunc),false⟩,
 ⟨.other,1,0,.und,false⟩,
 ⟨.other,1,8,.val (.nilFunc),false⟩,
 ⟨.other,1,8,.val (.nilFunc),false⟩,
 ⟨.other,1,0,.und,false⟩,
 ⟨.other,1,8,.val (.nilFunc),false⟩,
 ⟨.other,1,8,.val (.nilFunc),false⟩,
 ⟨.other,1,8,.val (.nilFunc),false⟩,
 ⟨.other,1,8,.val (.nilFunc),false⟩,
 ⟨.other,1,8,.val (.nilFunc),false⟩,
 ⟨.other,1,0,.und,false⟩,
 ⟨.other,1,8,.val (.nilFunc),false⟩,
 ⟨.other,1,8,.val (.nilFunc),false⟩,
 ⟨.other,1,8,.val (.nilFunc),false⟩,
 ⟨.other,1,8,.val (.nilFunc),false⟩,
 ⟨.other,1,8,.val (.nilFunc),false⟩,
 ⟨.other,1,0,.und,false⟩,
 ⟨.other,1,8,.val (.nilFunc),false⟩,
 ⟨.other,1,0,.und,false⟩,
 ⟨.other,1,8,.val (.nilFunc),false⟩,
 ⟨.other,1,8,.val (.nilFunc),false⟩,
 ⟨.sl 4,1,24,.nilS,false⟩,
 ⟨.other,1,8,.val (.nilFunc),false⟩,
 ⟨.other,1,8,.val (.nilFunc),false⟩,
 ⟨.other,1,8,.val (.nilFunc),false⟩,
 ⟨.other,1,8,.val (.nilFunc),false⟩,
 ⟨.sl 118,1,24,.nilS,false⟩,
 ⟨.st [(0,64)],1,24,.agg [.nilS],false⟩,
 ⟨.st [(0,64)],1,24,.agg [.nilS],false⟩,
 ⟨.st [(0,116),(1,3)],2,32,.agg [.nilS,.val (.int .i64 0)],false⟩,
 ⟨.st [(0,116),(1,3)],2,32,.agg [.nilS,.val (.int .i64 0)],false⟩,
 ⟨.other,1,8,.val (.nilFunc),false⟩,
 ⟨.other,1,8,.val (.nilFunc),false⟩,
 ⟨.other,1,8,.val (.nilFunc),false⟩,
 ⟨.other,1,8,.val (.pointer none),false⟩,
 ⟨.other,1,8,.val (.nilFunc),false⟩,
 ⟨.other,1,8,.val (.nilFunc),false⟩,
 ⟨.other,1,8,.val (.nilFunc),false⟩,
 ⟨.other,1,8,.val (.nilFunc),false⟩,
 ⟨.other,1,8,.val (.nilFunc),false⟩,
 ⟨.other,1,8,.val (.pointer none),false⟩,
 ⟨.sl 9,1,24,.nilS,false⟩,
 ⟨.other,1,8,.val (.nilFunc),false⟩,
 ⟨.st [(0,17),(1,17),(2,17),(3,9)],4,40,.agg [.val (.pointer none),.val (.pointer none),.val (.pointer none),.str []],false⟩,
 ⟨.st [(0,17),(1,17),(2,17),(3,9)],4,40,.agg [.val (.pointer none),.val (.pointer none),.val (.pointer none),.str []],false⟩,
 ⟨.arr 0 16,0,0,.agg [],false⟩,
 ⟨.st [(0,133)],0,0,.agg [],false⟩,
 ⟨.st [(0,133)],0,0,.agg [],false⟩,
 ⟨.other,1,8,.val (.nilFunc),false⟩,
 ⟨.int .u32,1,4,.val (.int .u32 0),false⟩,
 ⟨.int .u8,1,1,.val (.int .u8 0),false⟩,
 ⟨.int .u8,1,1,.val (.int .u8 0),false⟩,
 ⟨.other,1,8,.val (.nilFunc),false⟩,
 ⟨.other,1,8,.val (.pointer none),false⟩,
 ⟨.int .i32,1,4,.val (.int .i32 0),false⟩,
 ⟨.int .i32,1,4,.val (.int .i32 0),false⟩,
 ⟨.st [(0,12),(1,12),(2,137),(3,138),(4,5),(5,5),(6,139),(7,140),(8,141),(9,142),(10,143)],11,48,.agg [.val (.int .u64 0),.val (.int .u64 0),.val (.int .u32 0),.val (.int .u8 0),.val (.int .u8 0),.val (.int .u8 0),.val (.int .u8 0),.val (.nilFunc),.val (.pointer none),.val (.int .i32 0),.val (.int .i32 0)],false⟩,
 ⟨.st [(0,12),(1,12),(2,137),(3,138),(4,5),(5,5),(6,139),(7,140),(8,141),(9,142),(10,143)],11,48,.agg [.val (.int .u64 0),.val (.int .u64 0),.val (.int .u32 0),.val (.int .u8 0),.val (.int .u8 0),.val (.int .u8 0),.val (.int .u8 0),.val (.nilFunc),.val (.pointer none),.val (.int .i32 0),.val (.int .i32 0)],false⟩,
 ⟨.other,1,8,.val (.pointer none),false⟩]
def Q1 (P:Program):Nat->Nat->List (Option Ty)
 | 0,_=>[]
 | n+1,k=>XJ P k :: Q1 P n (Nat.succ k)
def Vn:List Ty->List (Option Ty)
 | []=>[]
 | t :: l=>some t :: Vn l
theorem Aet:Q1 Try.prog 147 0 = Vn tab:=by kernel_rfl
theorem Sb (P:Program):∀ (n k j:Nat),j < n->(Q1 P n k)[j]? = some (XJ P (k+j))
 | 0,_,_,h=>absurd h (Nat.not_lt_zero _)
 | n+1,k,0,_=>rfl
 | n+1,k,j+1,h=>by
  have:=Sb P n (Nat.succ k) j (Nat.lt_of_succ_lt_succ h)
  simp only [Q1,List.getElem?_cons_succ,this]
  rw [show Nat.succ k+j = k+(j+1) by omega]
theorem Pn:∀ (l:List Ty) (j:Nat) (t:Ty),l[j]? = some t->(Vn l)[j]? = some (some t) ∧ j < l.length
 | [],_,_,h=>by simp at h
 | a :: l,0,t,h=>by simp at h; subst h; exact ⟨rfl,by simp⟩
 | a :: l,j+1,t,h=>by
  have:=Pn l j t (by simpa using h)
  exact ⟨by simpa [Vn] using this.1,by simp; exact this.2⟩
theorem AaV:tab.length = 147:=by kernel_rfl
theorem Aes (j:Nat) (t:Ty) (h:tab[j]? = some t):XJ Try.prog j = some t:=by
 obtain ⟨h1,h2⟩:=Pn tab j t h
 rw [AaV] at h2
 rw [<- Aet,Sb _ _ _ _ h2] at h1
 simpa using h1
end Go.Sy
namespace Go.Proofs.Ytjhnfomefcngfaa.Ed
open Go.Sy
def AgI:List (List UInt8):=[[82,102,101],[82,102,105],[70,114,101],[70,114,105],[67,111,101],[67,111,105]]
def Aj4:List (List UInt8):=[[82,82],[82,87],[87,82],[87,87]]
def AhP:List (List UInt8):=[[114,46,114],[114,46,119],[114,46,114,119],[119,46,114],[119,46,119],[119,46,114,119],[114,119,46,114],[114,119,46,119],[114,119,46,114,119]]
def Aj7:List (List UInt8):=[[68,112,65,100,100,114,100,82],[68,112,65,100,100,114,100,87],[68,112,65,100,100,114,115,82],[68,112,65,100,100,114,115,87],[68,112,68,97,116,97,100,87],
 [68,112,68,97,116,97,115,87],[68,112,67,116,114,108,100,82],[68,112,67,116,114,108,100,87],[68,112,67,116,114,108,115,82],[68,112,67,116,114,108,115,87]]
def Gl:Nat->V:=λ_=>.und
theorem AP:Try.prog.follows .mixedOrders = true:=by kernel_rfl
theorem AO:TabOK Try.prog tab:=⟨Aes,AaG⟩
theorem AkJ {S:Nat->Prop} {W:World}:RB Gl S W:=λ_=>trivial
end Go.Proofs.Ytjhnfomefcngfaa.Ed
namespace Go.Proofs.Ytjhnfomefcngfaa.Ed
open Go.Sy
structure E6 where
 kind:Int
 ext:Bool
 same:Bool
 src:Int
 dst:Int
 fence:Int
 deriving DecidableEq
def eV (e:E6):V:=.agg [iV e.kind,bV e.ext,bV e.same,iV e.src,iV e.dst,iV e.fence]
def toE:V->Option E6
 | .agg [a,b,c,d,e,f]=>match gI a,gB b,gB c,gI d,gI e,gI f with
  | some a,some b,some c,some d,some e,some f=>some ⟨a,b,c,d,e,f⟩
  | _,_,_,_,_,_=>none
 | _=>none
theorem Nc {v:V} {e:E6} (h:toE v = some e):v = eV e:=by
 unfold toE at h
 split at h
 ·split at h
  ·rename_i h1 h2 h3 h4 h5 h6
   simp only [Option.some.injEq] at h
   subst h
   rw [Gt h1,QV h2,QV h3,Gt h4,Gt h5,Gt h6]
   rfl
  ·cases h
 ·cases h
def eqE (a b:E6):Bool:=Af (ieq a.kind b.kind) (Af (JZ a.ext b.ext) (Af (JZ a.same b.same) (Af (ieq a.src b.src) (Af (ieq a.dst b.dst) (Af (ieq a.fence b.fence) true)))))
theorem Jv (a b:E6):eqE a b = true ↔ a = b:=by
 cases a; cases b
 simp [eqE,Af,ieq,JZ]
theorem ZH (a b:E6):eqE a b = eqE b a:=by
 rw [Bool.eq_iff_iff,Jv,Jv]
 exact eq_comm
def D1 (c:Nat):E6 :=
 if c < 6 then ⟨c / 2+1,c % 2 == 0,false,if c / 2 == 1 then 1 else 2,if c / 2 == 0 then 1 else 2,0⟩
 else if c < 102 then ⟨if (c - 6) / 8 == 0 then 4 else 5,false,decide (4 <= (c - 6) % 8),1+((c - 6) % 4 / 2:Nat),1+((c - 6) % 2:Nat),((c - 6) / 8:Nat)⟩
 else if c < 106 then ⟨6,false,decide (2 <= c - 102),1,1+((c - 102) % 2:Nat),0⟩
 else if c < 108 then ⟨7,false,c - 102 == 5,1,2,0⟩
 else ⟨8,false,decide (8 <= c - 102),1,1+((c - 102) % 2:Nat),0⟩
def Gc:E6:=⟨0,false,false,0,0,0⟩
def inR (n:Int):Bool:=decide (0 <= n) && decide (n < 112)
theorem SN {n:Int} (h:inR n = true):∃ k:Nat,n = (k:Int) ∧ k < 112:=by
 simp [inR] at h
 exact ⟨n.toNat,by omega,by omega⟩
theorem Zy {n:Int} (h:inR n = false):n < 0 ∨ 0 <= n ∧ 112 <= n:=by
 simp [inR] at h
 omega
def cx0:Cx:=AS Gl [] []
noncomputable def AjF:List V->T (V × List Blk):=λvs=>Az (Ak tab cx0 Try.f119 vs [])
theorem Ak9:A6 Try.prog Gl 119 AjF:=AK AO AP Try.func119 (by kernel_rfl) (by kernel_rfl) (AQ AB.nil _)
noncomputable def Adf:List V->T (V × List Blk):=λvs=>Az (Ak tab cx0 Try.f121 vs [])
theorem p74:A6 Try.prog Gl 121 Adf:=AK AO AP Try.func121 (by kernel_rfl) (by kernel_rfl) (AQ AB.nil _)
noncomputable def Aay:List V->T (V × List Blk):=λvs=>Az (Ak tab cx0 Try.f122 vs [])
theorem p75:A6 Try.prog Gl 122 Aay:=AK AO AP Try.func122 (by kernel_rfl) (by kernel_rfl) (AQ AB.nil _)
noncomputable def AjG:List V->T (V × List Blk):=λvs=>Az (Ak tab cx0 Try.f123 vs [])
theorem p76:A6 Try.prog Gl 123 AjG:=AK AO AP Try.func123 (by kernel_rfl) (by kernel_rfl) (AQ AB.nil _)
noncomputable def tb0:List (Nat × (List V->T (V × List Blk))):=(121,Adf) :: (122,Aay) :: (123,AjG) :: []
theorem Dd:AB Try.prog Gl tb0:=.cons p74 <| .cons p75 <| .cons p76 .nil
noncomputable def AgG:Cx:=AS Gl tb0 []
def P7 (c:Nat):List UInt8 :=
 if c < 6 then AgI.getD c []
 else if 102 <= c then Aj7.getD (c - 102) []
 else (if (c - 6) / 8 = 0 then [80,111] else if (c - 6) / 8 = 1 then [77,70,101,110,99,101] else if (c - 6) / 8 = 2 then [70,101,110,99,101,46,116,115,111]
  else [70,101,110,99,101,46] ++ AhP.getD ((c - 6) / 8 - 3) []) ++ ((if 4 <= (c - 6) % 8 then [115] else [100]) ++ Aj4.getD ((c - 6) % 4) [])
end Go.Proofs.Ytjhnfomefcngfaa.Ed
namespace Go.Proofs.Ytjhnfomefcngfaa.Ed
open Go.Sy
theorem Agr:(List.range 112).map (λk:Nat=>(Az (Ak tab cx0 Try.f119 [nV k] [])).sem) = (List.range 112).map λk=>some (eV (D1 k),[]):=by kernel_rfl
theorem AkH:(List.range 112).map (λk:Nat=>(Az (Ak tab AgG Try.f114 [nV k] [])).sem) = (List.range 112).map λk=>some (.tup [eV (D1 k),iV 0],[]):=by kernel_rfl
theorem Aji (n:Int):(Az (Ak tab AgG Try.f114 [iV n] [])).path [true,true,true,true] = some ([ilt n 0,ilt n 0,ilt n 0,true],(.tup [eV Gc,iV 30],[])):=by kernel_rfl
theorem Ajh (n:Int):(Az (Ak tab AgG Try.f114 [iV n] [])).path [false,false,false,true] = some ([ilt n 0,ilt n 0,ilt n 0,ile 112 n],(.tup [eV Gc,iV 30],[])):=by kernel_rfl
end Go.Proofs.Ytjhnfomefcngfaa.Ed
namespace Go.Proofs.Ytjhnfomefcngfaa.Ed
open Go.Sy
def codeT (f:Nat->V):List V->T (V × List Blk)
 | [v]=>match gI v with
  | some n=>.br (inR n) (.leaf (f n.toNat,[])) .fail
  | none=>.fail
 | _=>.fail
theorem UO {f:Nat->V} {vs:List V} {r:V × List Blk} (h:(codeT f vs).sem = some r):∃ k:Nat,k < 112 ∧ vs = [nV k] ∧ r = (f k,[]):=by
 unfold codeT at h
 split at h
 ·split at h
  ·rename_i v n hn
   obtain ⟨h1,h2⟩:=Ag h
   obtain ⟨k,rfl,hk⟩:=SN h1
   exact ⟨k,hk,by rw [Gt hn]; rfl,by rw [Ac h2]; rfl⟩
  ·cases h
 ·cases h
theorem p71:A6 Try.prog Gl 119 (codeT λk=>eV (D1 k)):=by
 refine Ak9.congr λvs r h=>?_
 obtain ⟨k,hk,rfl,rfl⟩:=UO h
 exact Hr Agr k hk
def ofT:List V->T (V × List Blk)
 | [v]=>match gI v with
  | some n=>.br (inR n) (.leaf (.tup [eV (D1 n.toNat),iV 0],[])) (.leaf (.tup [eV Gc,iV 30],[]))
  | none=>.fail
 | _=>.fail
theorem YT {vs:List V} {r:V × List Blk} (h:(ofT vs).sem = some r):∃ n,vs = [iV n] ∧ ((∃ k:Nat,n = Int.ofNat k ∧ k < 112 ∧ r = (.tup [eV (D1 k),iV 0],[])) ∨ ((n < 0 ∨ 0 <= n ∧ 112 <= n) ∧ r = (.tup [eV Gc,iV 30],[]))):=by
 unfold ofT at h
 split at h
 ·split at h
  ·rename_i v n hn
   refine ⟨n,by rw [Gt hn],?_⟩
   cases hi:inR n with
   | true =>
    obtain ⟨k,rfl,hk⟩:=SN hi
    simp only [T.sem,hi,sel,cond_true,Option.some.injEq] at h
    exact .inl ⟨k,rfl,hk,h.symm⟩
   | false =>
    simp only [T.sem,hi,sel,cond_false,Option.some.injEq] at h
    exact .inr ⟨Zy hi,h.symm⟩
  ·cases h
 ·cases h
theorem AbD {a b:Int} (h:a < b):ilt a b = true:=by simpa [ilt] using h
theorem YZ {a b:Int} (h:b <= a):ilt a b = false:=by simp [ilt]; omega
theorem VK {a b:Int} (h:a <= b):ile a b = true:=by simpa [ile] using h
theorem p31:A6 Try.prog Gl 114 ofT:=by
 refine A6.congr (AK AO AP Try.func114 (by kernel_rfl) (by kernel_rfl) (AQ Dd [])) λvs r h=>?_
 obtain ⟨n,rfl,⟨k,rfl,hk,rfl⟩ | ⟨hn,rfl⟩⟩:=YT h
 ·exact Hr AkH k hk
 ·rcases hn with hn | ⟨h0,hn⟩
  ·exact AM (Aji n) (by rw [AbD hn])
  ·exact AM (Ajh n) (by rw [YZ h0,VK hn])
noncomputable def tb1:List (Nat × (List V->T (V × List Blk))):=(119,codeT λk=>eV (D1 k)) :: (114,ofT) :: []
theorem TO:AB Try.prog Gl tb1:=.cons p71 <| .cons p31 .nil
noncomputable def cx1:Cx:=AS Gl tb1 [(0,⟨[],1,[],1,113⟩)]
def GX (e:E6):Nat->Nat->Option Nat
 | 0,_=>none
 | m+1,k=>match eqE (D1 k) e with
  | true=>some k
  | false=>GX e m (Nat.succ k)
def Bw (e:E6):Int:=match GX e 112 0 with
 | some k=>Int.ofNat k
 | none=>0
def AR (e:E6):Int:=match GX e 112 0 with
 | some _=>0
 | none=>30
def O7 (e:E6):Nat->Nat->Option (V × List Blk)
 | 0,_=>some (.tup [iV 0,iV 30],[])
 | m+1,k=>sel (eqE (D1 k) e) (some (.tup [nV k,iV 0],[])) (O7 e m (Nat.succ k))
def Rx (e:E6):Nat->Nat->Option (V × List Blk)
 | 0,_=>some (.tup [iV 0,iV 30],[])
 | m+1,k=>sel (eqE e (D1 k)) (some (.tup [nV k,iV 0],[])) (Rx e m (Nat.succ k))
theorem Tt (e:E6):∀ m k,O7 e m k = match GX e m k with
  | some j=>some (.tup [nV j,iV 0],[])
  | none=>some (.tup [iV 0,iV 30],[])
 | 0,k=>rfl
 | m+1,k=>by
  simp only [O7,GX]
  cases h:eqE (D1 k) e with
  | true=>rfl
  | false=>exact Tt e m (Nat.succ k)
theorem PS (e:E6):∀ m k,Rx e m k = O7 e m k
 | 0,_=>rfl
 | m+1,k=>by
  simp only [O7,Rx,PS e m,ZH e]
theorem PR (e:E6):O7 e 112 0 = some (.tup [iV (Bw e),iV (AR e)],[]):=by
 rw [Tt]
 unfold Bw AR
 cases GX e 112 0 <;> rfl
theorem AgK (e:E6):(Az (Ak tab cx1 Try.f112 [eV e] [])).sem = O7 e 112 0:=by kernel_rfl
theorem AgJ (e:E6):(Az (Ak tab cx1 Try.f98 [eV e] [])).sem = Rx e 112 0:=by kernel_rfl
def BQ (f:E6->V):List V->T (V × List Blk)
 | [v]=>match toE v with
  | some e=>.leaf (f e,[])
  | none=>.fail
 | _=>.fail
theorem BY {f:E6->V} {vs:List V} {r:V × List Blk} (h:(BQ f vs).sem = some r):∃ e,vs = [eV e] ∧ r = (f e,[]):=by
 unfold BQ at h
 split at h
 ·split at h
  ·rename_i v e hn
   exact ⟨e,by rw [Nc hn],Ac h⟩
  ·cases h
 ·cases h
def Tu (e:E6):V:=.tup [iV (Bw e),iV (AR e)]
theorem p24:A6 Try.prog Gl 112 (BQ Tu):=by
 refine A6.congr (AK AO AP Try.func112 (by kernel_rfl) (by kernel_rfl) (Γ:=cx1) (AQ TO _)) λvs r h=>?_
 obtain ⟨e,rfl,rfl⟩:=BY h
 exact (AgK e).trans (PR e)
theorem p25:A6 Try.prog Gl 98 (BQ Tu):=by
 refine A6.congr (AK AO AP Try.func98 (by kernel_rfl) (by kernel_rfl) (Γ:=cx1) (AQ TO _)) λvs r h=>?_
 obtain ⟨e,rfl,rfl⟩:=BY h
 exact (AgJ e).trans ((PS e 112 0).trans (PR e))
end Go.Proofs.Ytjhnfomefcngfaa.Ed
namespace Go.Proofs.Ytjhnfomefcngfaa.Ed
open Go.Sy
noncomputable def tb2:List (Nat × (List V->T (V × List Blk))):=(112,BQ Tu) :: (98,BQ Tu) :: tb1
theorem XY:AB Try.prog Gl tb2:=.cons p24 <| .cons p25 TO
noncomputable def cx2:Cx:=AS Gl tb2 []
theorem Acr (e:E6):(Az (Ak tab cx2 Try.f64 [eV e] [])).sem = some (iV (AR e),[]):=by kernel_rfl
theorem p29:A6 Try.prog Gl 64 (BQ λe=>iV (AR e)):=by
 refine A6.congr (AK AO AP Try.func64 (by kernel_rfl) (by kernel_rfl) (Γ:=cx2) (AQ XY _)) λvs r h=>?_
 obtain ⟨e,rfl,rfl⟩:=BY h
 exact Acr e
theorem JS (e:E6):∀ m k j,GX e m k = some j->k <= j ∧ j < k+m ∧ D1 j = e
 | 0,k,j,h=>by cases h
 | m+1,k,j,h=>by
  simp only [GX] at h
  split at h
  ·rename_i he
   simp only [Option.some.injEq] at h
   subst h
   exact ⟨Nat.le_refl _,by omega,(Jv _ _).1 he⟩
  ·obtain ⟨h1,h2,h3⟩:=JS e m _ j h
   exact ⟨by omega,by omega,h3⟩
def S4 (e:E6):List UInt8:=match GX e 112 0 with
 | some k=>P7 k
 | none=>[]
def VE (e:E6):V:=.tup [.str (S4 e),iV (AR e)]
noncomputable def tb3:List (Nat × (List V->T (V × List Blk))):=(64,BQ λe=>iV (AR e)) :: tb2
theorem XX:AB Try.prog Gl tb3:=.cons p29 XY
noncomputable def tbn:List (Nat × (List V->T (V × List Blk))):=(124,λvs=>Az (Ak tab cx0 Try.f124 vs [])) :: (126,λvs=>Az (Ak tab cx0 Try.f126 vs [])) :: []
theorem XP:AB Try.prog Gl tbn :=
 .cons (AK AO AP Try.func124 (by kernel_rfl) (by kernel_rfl) (Γ:=cx0) (AQ .nil _)) <|
 .cons (AK AO AP Try.func126 (by kernel_rfl) (by kernel_rfl) (Γ:=cx0) (AQ .nil _)) .nil
noncomputable def cxn:Cx:=AS Gl tbn []
noncomputable def tb4:List (Nat × (List V->T (V × List Blk))):=(125,λvs=>Az (Ak tab cxn Try.f125 vs [])) :: (tbn ++ tb3)
theorem AB.append {P:Program} {G:Nat->V} {a b:List (Nat × (List V->T (V × List Blk)))} (ha:AB P G a) (hb:AB P G b):AB P G (a ++ b):=λp hp=>(List.mem_append.1 hp).elim (ha p) (hb p)
theorem Aer:AB Try.prog Gl tb4 :=
 .cons (AK AO AP Try.func125 (by kernel_rfl) (by kernel_rfl) (Γ:=cxn) (AQ XP _)) (AB.append XP XX)
noncomputable def cx4:Cx:=AS Gl tb4 []
theorem Ago:(List.range 112).map (λk:Nat=>(Az (Ak tab cx4 Try.f115 [eV (D1 k)] [])).sem) = (List.range 112).map λk=>some (.tup [.str (P7 k),iV 0],[]):=by kernel_rfl
theorem Ab9 (e:E6):(Az (Ak tab cx4 Try.f115 [eV e] [])).path [true] = some ([An (ieq (AR e) 0)],(.tup [.str [],iV 30],[])):=by kernel_rfl
theorem Ab8 (e:E6):(Az (Ak tab cx4 Try.f115 [eV e] [])).sem = some (VE e,[]):=by
 unfold VE S4
 cases h:GX e 112 0 with
 | none =>
  have hf:AR e = 30:=by unfold AR; rw [h]
  rw [hf]
  exact AM (Ab9 e) (by rw [hf]; rfl)
 | some k =>
  have hf:AR e = 0:=by unfold AR; rw [h]
  obtain ⟨_,hk,rfl⟩:=JS e 112 0 k h
  rw [hf]
  exact Hr Ago k (by omega)
theorem p27:A6 Try.prog Gl 115 (BQ VE):=by
 refine A6.congr (AK AO AP Try.func115 (by kernel_rfl) (by kernel_rfl) (Γ:=cx4) (AQ Aer _)) λvs r h=>?_
 obtain ⟨e,rfl,rfl⟩:=BY h
 exact Ab8 e
end Go.Proofs.Ytjhnfomefcngfaa.Ed
namespace Go.Proofs.Ytjhnfomefcngfaa.Ed
open Go.Sy
noncomputable def tb5:List (Nat × (List V->T (V × List Blk))):=(115,BQ VE) :: tb3
theorem XV:AB Try.prog Gl tb5:=.cons p27 <| XX
noncomputable def cx5:Cx:=AS Gl tb5 [(0,⟨[],1,[],1,113⟩)]
def PJ (s:List UInt8):Nat->Nat->Option Nat
 | 0,_=>none
 | m+1,k=>match seq (P7 k) s with
  | true=>some k
  | false=>PJ s m (Nat.succ k)
def Fh (s:List UInt8):E6:=match PJ s 112 0 with
 | some k=>D1 k
 | none=>Gc
def Eg (s:List UInt8):Int:=match PJ s 112 0 with
 | some _=>0
 | none=>30
def N9 (s:List UInt8):Nat->Nat->Option (V × List Blk)
 | 0,_=>some (.tup [eV Gc,iV 30],[])
 | m+1,k=>sel (seq (P7 k) s) (some (.tup [eV (D1 k),iV 0],[])) (N9 s m (Nat.succ k))
theorem P1 (s:List UInt8):∀ m k,N9 s m k = match PJ s m k with
  | some j=>some (.tup [eV (D1 j),iV 0],[])
  | none=>some (.tup [eV Gc,iV 30],[])
 | 0,k=>rfl
 | m+1,k=>by
  simp only [N9,PJ]
  cases h:seq (P7 k) s with
  | true=>rfl
  | false=>exact P1 s m (Nat.succ k)
theorem Us (s:List UInt8):N9 s 112 0 = some (.tup [eV (Fh s),iV (Eg s)],[]):=by
 rw [P1]
 unfold Fh Eg
 cases PJ s 112 0 <;> rfl
theorem Abz (s:List UInt8):(Az (Ak tab cx5 Try.f97 [.str s] [])).sem = N9 s 112 0:=by kernel_rfl
def RH (f:List UInt8->V):List V->T (V × List Blk)
 | [v]=>match gS v with
  | some e=>.leaf (f e,[])
  | none=>.fail
 | _=>.fail
theorem TJ {f:List UInt8->V} {vs:List V} {r:V × List Blk} (h:(RH f vs).sem = some r):∃ e,vs = [.str e] ∧ r = (f e,[]):=by
 unfold RH at h
 split at h
 ·split at h
  ·rename_i v e hn
   exact ⟨e,by rw [Acg hn],Ac h⟩
  ·cases h
 ·cases h
def Ut (s:List UInt8):V:=.tup [eV (Fh s),iV (Eg s)]
theorem p22:A6 Try.prog Gl 97 (RH Ut):=by
 refine A6.congr (AK AO AP Try.func97 (by kernel_rfl) (by kernel_rfl) (Γ:=cx5) (AQ XV _)) λvs r h=>?_
 obtain ⟨e,rfl,rfl⟩:=TJ h
 exact (Abz e).trans (Us e)
noncomputable def tb6:List (Nat × (List V->T (V × List Blk))):=(97,RH Ut) :: tb5
theorem Nf:AB Try.prog Gl tb6:=.cons p22 XV
noncomputable def cx6:Cx:=AS Gl tb6 []
def XI (f:V):List V->T (V × List Blk)
 | []=>.leaf (f,[])
 | _=>.fail
noncomputable def tb7:List (Nat × (List V->T (V × List Blk))):=tb6
theorem Aep:AB Try.prog Gl tb7:=Nf
theorem Bv (a:Int):ieq a a = true:=by simp [ieq]
end Go.Proofs.Ytjhnfomefcngfaa.Ed
