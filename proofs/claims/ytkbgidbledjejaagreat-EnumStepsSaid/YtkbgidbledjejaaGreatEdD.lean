/-
  The table of the program's types, as the evaluator asks of them, and that it is the program's own. No conditions.
-/
import Derived.Test.YtkbgidbledjejaaGreatSyA
import Derived.Test.YtkbgidbledjejaaGreatProg
import Derived.KernelRfl
import Derived.Test.YtkbgidbledjejaaGreatSyU
import Derived.Test.YtkbgidbledjejaaGreatRows
namespace Go.Sy
open Go.Proofs
set_option maxRecDepth 100000
def tab:List Ty:=[
 ⟨.other,1,0,.und,false⟩,
 ⟨.other,1,8,.val (.nilFunc),false⟩,
 ⟨.int .i64,1,8,.val (.int .i64 0),false⟩,
 ⟨.int .i64,1,8,.val (.int .i64 0),false⟩,
 ⟨.bool,1,1,.val (.bool false),false⟩,
 ⟨.int .u8,1,1,.val (.int .u8 0),false⟩,
 ⟨.int .u8,1,1,.val (.int .u8 0),false⟩,
 ⟨.st [(0,2),(1,3),(2,4),(3,6)],4,24,.agg [.val (.int .i64 0),.val (.int .i64 0),.val (.bool false),.val (.int .u8 0)],true⟩,
 ⟨.st [(0,2),(1,3),(2,4),(3,6)],4,24,.agg [.val (.int .i64 0),.val (.int .i64 0),.val (.bool false),.val (.int .u8 0)],true⟩,
 ⟨.str,1,16,.str [],false⟩,
 ⟨.str,1,16,.str [],false⟩,
 ⟨.str,1,16,.str [],false⟩,
 ⟨.int .u64,1,8,.val (.int .u64 0),false⟩,
 ⟨.st [(0,9),(1,12)],2,24,.agg [.str [],.val (.int .u64 0)],false⟩,
 ⟨.st [(0,9),(1,12)],2,24,.agg [.str [],.val (.int .u64 0)],false⟩,
 ⟨.other,1,8,.val (.pointer none),false⟩,
 ⟨.other,1,8,.val (.pointer none),false⟩,
 ⟨.other,1,8,.val (.pointer none),false⟩,
 ⟨.st [(0,17)],1,8,.agg [.val (.pointer none)],false⟩,
 ⟨.st [(0,17)],1,8,.agg [.val (.pointer none)],false⟩,
 ⟨.other,1,16,.val (.nilIface),false⟩,
 ⟨.int .i32,1,4,.val (.int .i32 0),false⟩,
 ⟨.sl 46,1,24,.nilS,false⟩,
 ⟨.other,1,8,.val (.nilFunc),false⟩,
 ⟨.sl 22,1,24,.nilS,false⟩,
 ⟨.int .i64,1,8,.val (.int .i64 0),false⟩,
 ⟨.other,1,0,.und,false⟩,
 ⟨.other,1,8,.val (.nilFunc),false⟩,
 ⟨.other,1,0,.und,false⟩,
 ⟨.other,1,8,.val (.nilFunc),false⟩,
 ⟨.other,1,8,.val (.nilFunc),false⟩,
 ⟨.other,1,8,.val (.nilFunc),false⟩,
 ⟨.other,1,8,.val (.nilFunc),false⟩,
 ⟨.other,1,8,.val (.nilFunc),false⟩,
 ⟨.other,1,8,.val (.nilFunc),false⟩,
 ⟨.other,1,8,.val (.nilFunc),false⟩,
 ⟨.other,1,8,.val (.nilFunc),false⟩,
 ⟨.other,1,8,.val (.nilFunc),false⟩,
 ⟨.other,1,8,.val (.nilFunc),false⟩,
 ⟨.other,1,8,.val (.nilFunc),false⟩,
 ⟨.other,1,0,.und,false⟩,
 ⟨.other,1,8,.val (.nilFunc),false⟩,
 ⟨.other,1,0,.und,false⟩,
 ⟨.other,1,8,.val (.nilFunc),false⟩,
 ⟨.other,1,8,.val (.nilFunc),false⟩,
 ⟨.st [(0,3),(1,4),(2,4),(3,3),(4,3),(5,3)],6,40,.agg [.val (.int .i64 0),.val (.bool false),.val (.bool false),.val (.int .i64 0),.val (.int .i64 0),.val (.int .i64 0)],true⟩,
 ⟨.st [(0,3),(1,4),(2,4),(3,3),(4,3),(5,3)],6,40,.agg [.val (.int .i64 0),.val (.bool false),.val (.bool false),.val (.int .i64 0),.val (.int .i64 0),.val (.int .i64 0)],true⟩,
 ⟨.other,1,8,.val (.nilFunc),false⟩,
 ⟨.other,1,8,.val (.nilFunc),false⟩,
 ⟨.other,1,0,.und,false⟩,
 ⟨.other,1,8,.val (.nilFunc),false⟩,
 ⟨.other,1,8,.val (.nilFunc),false⟩,
 ⟨.other,1,8,.val (.nilFunc),false⟩,
 ⟨.other,1,8,.val (.nilFunc),false⟩,
 ⟨.other,1,8,.val (.nilFunc),false⟩,
 ⟨.other,1,8,.val (.nilFunc),false⟩,
 ⟨.other,1,8,.val (.nilFunc),false⟩,
 ⟨.other,1,8,.val (.pointer none),false⟩,
 ⟨.st [(0,3),(1,22),(2,3),(3,3),(4,22),(5,24),(6,4)],7,104,.agg [.val (.int .i64 0),.nilS,.val (.int .i64 0),.val (.int .i64 0),.nilS,.nilS,.val (.bool false)],false⟩,
 ⟨.st [(0,3),(1,22),(2,3),(3,3),(4,22),(5,24),(6,4)],7,104,.agg [.val (.int .i64 0),.nilS,.val (.int .i64 0),.val (.int .i64 0),.nilS,.nilS,.val (.bool false)],false⟩,
 ⟨.other,1,8,.val (.nilFunc),false⟩,
 ⟨.other,1,8,.val (.nilFunc),false⟩,
 ⟨.other,1,8,.val (.nilFunc),false⟩,
 ⟨.other,1,8,.val (.pointer none),false⟩,
 ⟨.other,1,8,.val (.nilFunc),false⟩,
 ⟨.other,1,8,.val (.nilFunc),false⟩,
 ⟨.other,1,8,.val (.nilFunc),false⟩,
 ⟨.other,1,8,.val (.nilFunc),false⟩,
 ⟨.sl 3,1,24,.nilS,false⟩,
 ⟨.other,1,8,.val (.nilFunc),false⟩,
 ⟨.other,1,8,.val (.nilFunc),false⟩,
 ⟨.other,1,0,.und,false⟩,
 ⟨.other,1,8,.val (.nilFunc),false⟩,
 ⟨.other,1,8,.val (.nilFunc),false⟩,
 ⟨.other,1,8,.val (.nilFunc),false⟩,
 ⟨.other,1,8,.val (.nilFunc),false⟩,
 ⟨.other,1,8,.val (.nilFunc),false⟩,
 ⟨.other,1,0,.und,false⟩,
 ⟨.other,1,8,.val (.nilFunc),false⟩,
 ⟨.sl 4,1,24,.nilS,false⟩,
 ⟨.other,1,0,.und,false⟩,
 ⟨.other,1,8,.val (.nilFunc),false⟩,
 ⟨.other,1,0,.und,false⟩,
 ⟨.other,1,8,.val (.nilFunc),false⟩,
 ⟨.st [(0,3),(1,3),(2,22),(3,68)],4,64,.agg [.val (.int .i64 0),.val (.int .i64 0),.nilS,.nilS],false⟩,
 ⟨.st [(0,3),(1,3),(2,22),(3,68)],4,64,.agg [.val (.int .i64 0),.val (.int .i64 0),.nilS,.nilS],false⟩,
 ⟨.gmap false 46,1,8,.val (.map none),false⟩,
 ⟨.other,1,0,.und,false⟩,
 ⟨.other,1,8,.val (.nilFunc),false⟩,
 ⟨.other,1,8,.val (.nilFunc),false⟩,
 ⟨.other,1,8,.val (.nilFunc),false⟩,
 ⟨.other,1,8,.val (.nilFunc),false⟩,
 ⟨.arr 2 3,2,16,.agg [.val (.int .i64 0),.val (.int .i64 0)],true⟩,
 ⟨.arr 2 92,4,32,.agg [.val (.int .i64 0),.val (.int .i64 0),.val (.int .i64 0),.val (.int .i64 0)],true⟩,
 ⟨.other,1,0,.und,false⟩,
 ⟨.other,1,8,.val (.nilFunc),false⟩,
 ⟨.other,1,8,.val (.nilFunc),false⟩,
 ⟨.other,1,0,.und,false⟩,
 ⟨.other,1,8,.val (.nilFunc),false⟩,
 ⟨.other,1,8,.val (.nilFunc),false⟩,
 ⟨.other,1,8,.val (.nilFunc),false⟩,
 ⟨.other,1,8,.val (.nilFunc),false⟩,
 ⟨.other,1,8,.val (.nilFunc),false⟩,
 ⟨.other,1,8,.val (.nilFunc),false⟩,
 ⟨.sl 108,1,24,.nilS,false⟩,
 ⟨.other,1,0,.und,false⟩,
 ⟨.other,1,8,.val (.nilFunc),false⟩,
 ⟨.other,1,8,.val (.nilFunc),false⟩,
 ⟨.int .u64,1,8,.val (.int .u64 0),false⟩,
 ⟨.other,1,8,.val (.nilFunc),false⟩,
 ⟨.other,1,8,.val (.nilFunc),false⟩,
 ⟨.other,1,8,.val (.nilFunc),false⟩,
 ⟨.other,1,8,.val (.nilFunc),false⟩,
 ⟨.other,1,8,.val (.nilFunc),false⟩,
 ⟨.other,1,8,.val (.nilFunc),false⟩,
 ⟨.other,1,8,.val (.nilFunc),false⟩,
 ⟨.imap 3,1,8,.val (.map none),false⟩,
 ⟨.other,1,8,.val (.nilFunc),false⟩,
 ⟨.other,1,8,.val (.nilFunc),false⟩,
 ⟨.other,1,0,.und,false⟩,
 ⟨.other,1,8,.val (.nilFunc),false⟩,
 ⟨.arr 112 4,112,112,.agg [.val (.bool false),.val (.bool false),.val (.bool false),.val (.bool false),.val (.bool false),.val (.bool false),.val (.bool false),.val (.bool false),.val (.bool false),.val (.bool false),.val (.bool false),.val (.bool false),.val (.bool false),.val (.bool false),.val (.bool false),.val (.bool false),.val (.bool false),.val (.bool false),.val (.bool false),.val (.bool false),.val (.bool false),.val (.bool false),.val (.bool false),.val (.bool false),.val (.bool false),.val (.bool false),.val (.bool false),.val (.bool false),.val (.bool false),.val (.bool false),.val (.bool false),.val (.bool false),.val (.bool false),.val (.bool false),.val (.bool false),.val (.bool false),.val (.bool false),.val (.bool false),.val (.bool false),.val (.bool false),.val (.bool false),.val (.bool false),.val (.bool false),.val (.bool false),.val (.bool false),.val (.bool false),.val (.bool false),.val (.bool false),.val (.bool false),.val (.bool false),.val (.bool false),.val (.bool false),.val (.bool false),.val (.bool false),.val (.bool false),.val (.bool false),.val (.bool false),.val (.bool false),.val (.bool false),.val (.bool false),.val (.bool false),.val (.bool false),.val (.bool false),.val (.bool false),.val (.bool false),.val (.bool false),.val (.bool false),.val (.bool false),.val (.bool false),.val (.bool false),.val (.bool false),.val (.bool false),.val (.bool false),.val (.bool false),.val (.bool false),.val (.bool false),.val (.bool false),.val (.bool false),.val (.bool false),.val (.bool false),.val (.bool false),.val (.bool false),.val (.bool false),.val (.bool false),.val (.bool false),.val (.bool false),.val (.bool false),.val (.bool false),.val (.bool false),.val (.bool false),.val (.bool false),.val (.bool false),.val (.bool false),.val (.bool false),.val (.bool false),.val (.bool false),.val (.bool false),.val (.bool false),.val (.bool false),.val (.bool false),.val (.bool false),.val (.bool false),.val (.bool false),.val (.bool false),.val (.bool false),.val (.bool false),.val (.bool false),.val (.bool false),.val (.bool false),.val (.bool false),.val (.bool false),.val (.bool false)],true⟩,
 ⟨.arr 2 108,2,16,.agg [.val (.int .u64 0),.val (.int .u64 0)],true⟩,
 ⟨.arr 2 122,4,32,.agg [.val (.int .u64 0),.val (.int .u64 0),.val (.int .u64 0),.val (.int .u64 0)],true⟩,
 ⟨.arr 2 122,4,32,.agg [.val (.int .u64 0),.val (.int .u64 0),.val (.int .u64 0),.val (.int .u64 0)],true⟩,
 ⟨.other,1,8,.val (.nilFunc),false⟩,
 ⟨.other,1,8,.val (.nilFunc),false⟩,
 ⟨.arr 2 4,2,2,.agg [.val (.bool false),.val (.bool false)],true⟩,
 ⟨.other,1,8,.val (.nilFunc),false⟩,
 ⟨.other,1,0,.und,false⟩,
 ⟨.other,1,8,.val (.nilFunc),false⟩,
 ⟨.sl 9,1,24,.nilS,false⟩,
 ⟨.int .u64,1,8,.val (.int .u64 0),false⟩,
 ⟨.other,1,8,.val (.nilFunc),false⟩,
 ⟨.st [(0,17),(1,17),(2,17),(3,9)],4,40,.agg [.val (.pointer none),.val (.pointer none),.val (.pointer none),.str []],false⟩,
 ⟨.st [(0,17),(1,17),(2,17),(3,9)],4,40,.agg [.val (.pointer none),.val (.pointer none),.val (.pointer none),.str []],false⟩,
 ⟨.arr 0 16,0,0,.agg [],false⟩,
 ⟨.st [(0,136)],0,0,.agg [],false⟩,
 ⟨.st [(0,136)],0,0,.agg [],false⟩,
 ⟨.other,1,8,.val (.nilFunc),false⟩,
 ⟨.int .u32,1,4,.val (.int .u32 0),false⟩,
 ⟨.int .u8,1,1,.val (.int .u8 0),false⟩,
 ⟨.int .u8,1,1,.val (.int .u8 0),false⟩,
 ⟨.other,1,8,.val (.nilFunc),false⟩,
 ⟨.other,1,8,.val (.pointer none),false⟩,
 ⟨.int .i32,1,4,.val (.int .i32 0),false⟩,
 ⟨.int .i32,1,4,.val (.int .i32 0),false⟩,
 ⟨.st [(0,12),(1,12),(2,140),(3,141),(4,5),(5,5),(6,142),(7,143),(8,144),(9,145),(10,146)],11,48,.agg [.val (.int .u64 0),.val (.int .u64 0),.val (.int .u32 0),.val (.int .u8 0),.val (.int .u8 0),.val (.int .u8 0),.val (.int .u8 0),.val (.nilFunc),.val (.pointer none),.val (.int .i32 0),.val (.int .i32 0)],false⟩,
 ⟨.st [(0,12),(1,12),(2,140),(3,141),(4,5),(5,5),(6,142),(7,143),(8,144),(9,145),(10,146)],11,48,.agg [.val (.int .u64 0),.val (.int .u64 0),.val (.int .u32 0),.val (.int .u8 0),.val (.int .u8 0),.val (.int .u8 0),.val (.int .u8 0),.val (.nilFunc),.val (.pointer none),.val (.int .i32 0),.val (.int .i32 0)],false⟩,
 ⟨.other,1,8,.val (.pointer none),false⟩]
def Tj (P:Program):Nat->Nat->List (Option Ty)
 | 0,_=>[]
 | n+1,k=>Abn P k::Tj P n (Nat.succ k)
def Yi:List Ty->List (Option Ty)
 | []=>[]
 | t::l=>some t::Yi l
theorem Aii:Tj Tryz.prog 150 0=Yi tab:=by kernel_rfl
theorem UN (P:Program):∀ (n k j:Nat),j<n->(Tj P n k)[j]? = some (Abn P (k+j))
 | 0,_,_,h=>absurd h (Nat.not_lt_zero _)
 | n+1,k,0,_=>rfl
 | n+1,k,j+1,h=>by
  have:=UN P n (Nat.succ k) j (Nat.lt_of_succ_lt_succ h);simp only [Tj,List.getElem?_cons_succ,this];rw [show Nat.succ k+j=k+(j+1) by omega]
theorem RE:∀ (l:List Ty) (j:Nat) (t:Ty),l[j]? = some t->(Yi l)[j]? = some (some t)∧j<l.length
 | [],_,_,h=>by simp at h
 | a::l,0,t,h=>by simp at h; subst h; exact ⟨rfl,by simp⟩
 | a::l,j+1,t,h=>by
  have:=RE l j t (by simpa using h);exact ⟨by simpa [Yi] using this.1,by simp; exact this.2⟩
theorem Afl:tab.length=150:=by kernel_rfl
theorem Aih (j:Nat) (t:Ty) (h:tab[j]? = some t):Abn Tryz.prog j=some t:=by
 obtain ⟨h1,h2⟩:=RE tab j t h;rw [Afl] at h2;rw [<- Aii,UN _ _ _ _ h2] at h1;simpa using h1
end Go.Sy
namespace Go.Proofs.YtkbgidbledjejaaGreat.Ed
open Go.Sy
def AjD:List (List UInt8):=[[82,102,101],[82,102,105],[70,114,101],[70,114,105],[67,111,101],[67,111,105]]
def Am2:List (List UInt8):=[[82,82],[82,87],[87,82],[87,87]]
def AkX:List (List UInt8):=[[114,46,114],[114,46,119],[114,46,114,119],[119,46,114],[119,46,119],[119,46,114,119],[114,119,46,114],[114,119,46,119],[114,119,46,114,119]]
def Am9:List (List UInt8):=[[68,112,65,100,100,114,100,82],[68,112,65,100,100,114,100,87],[68,112,65,100,100,114,115,82],[68,112,65,100,100,114,115,87],[68,112,68,97,116,97,100,87],
 [68,112,68,97,116,97,115,87],[68,112,67,116,114,108,100,82],[68,112,67,116,114,108,100,87],[68,112,67,116,114,108,115,82],[68,112,67,116,114,108,115,87]]
def Gl:Nat->V:=λ_=>.und
theorem mixed:Tryz.prog.follows .mixedOrders=true:=by kernel_rfl
theorem A0:TabOK Tryz.prog tab:=⟨Aih,AeG⟩
end Go.Proofs.YtkbgidbledjejaaGreat.Ed
namespace Go.Proofs.YtkbgidbledjejaaGreat.Ed
open Go.Sy
structure E6 where
 kind:Int
 ext:Bool
 same:Bool
 src:Int
 dst:Int
 fence:Int
 deriving DecidableEq
def eV (e:E6):V:=.agg [iV e.kind,bV e.ext,bV e.same,iV e.src,iV e.dst,iV e.fence]
def toE:V->Option E6
 | .agg [a,b,c,d,e,f]=>match gI a,gB b,gB c,gI d,gI e,gI f with
  | some a,some b,some c,some d,some e,some f=>some ⟨a,b,c,d,e,f⟩
  | _,_,_,_,_,_=>none
 | _=>none
theorem OW {v:V} {e:E6} (h:toE v=some e):v=eV e:=by
 unfold toE at h;split at h
 ·split at h
  ·rename_i h1 h2 h3 h4 h5 h6
   simp only [Option.some.injEq] at h;subst h;rw [Hy h1,TU h2,TU h3,Hy h4,Hy h5,Hy h6];rfl
  ·cases h
 ·cases h
def eqE (a b:E6):Bool:=Av (ieq a.kind b.kind) (Av (Kr a.ext b.ext) (Av (Kr a.same b.same) (Av (ieq a.src b.src) (Av (ieq a.dst b.dst) (Av (ieq a.fence b.fence) true)))))
theorem G6 (a b:E6):eqE a b=true↔a=b:=by
 cases a; cases b;simp [eqE,Av,ieq,Kr]
theorem AdD (a b:E6):eqE a b=eqE b a:=by
 rw [Bool.eq_iff_iff,G6,G6];exact eq_comm
def B6 (c:Nat):E6 :=
 if c<6 then ⟨c / 2+1,c % 2 == 0,false,if c / 2 == 1 then 1 else 2,if c / 2 == 0 then 1 else 2,0⟩
 else if c<102 then ⟨if (c-6) / 8 == 0 then 4 else 5,false,decide (4 <= (c-6) % 8),1+((c-6) % 4 / 2:Nat),1+((c-6) % 2:Nat),((c-6) / 8:Nat)⟩
 else if c<106 then ⟨6,false,decide (2 <= c-102),1,1+((c-102) % 2:Nat),0⟩
 else if c<108 then ⟨7,false,c-102 == 5,1,2,0⟩
 else ⟨8,false,decide (8 <= c-102),1,1+((c-102) % 2:Nat),0⟩
def Ba:E6:=⟨0,false,false,0,0,0⟩
def inR (n:Int):Bool:=decide (0 <= n) && decide (n<112)
theorem V1 {n:Int} (h:inR n=true):∃ k:Nat,n=(k:Int)∧k<112:=by
 simp [inR] at h;exact ⟨n.toNat,by omega,by omega⟩
theorem Adr {n:Int} (h:inR n=false):n<0 ∨ 0 <= n∧112 <= n:=by
 simp [inR] at h;omega
def cx0:Cx:=BQ Gl [] []
noncomputable def Anc:List V->A3:=λvs=>AM (Au tab cx0 Tryz.f104 vs [])
theorem AnD:Ar Tryz.prog Gl 104 Anc:=AN A0 mixed Tryz.func104 (by kernel_rfl) (by kernel_rfl) (Bu Al.nil _)
noncomputable def AhC:List V->A3:=λvs=>AM (Au tab cx0 Tryz.f99 vs [])
theorem p74:Ar Tryz.prog Gl 99 AhC:=AN A0 mixed Tryz.func99 (by kernel_rfl) (by kernel_rfl) (Bu Al.nil _)
noncomputable def Ae0:List V->A3:=λvs=>AM (Au tab cx0 Tryz.f100 vs [])
theorem p75:Ar Tryz.prog Gl 100 Ae0:=AN A0 mixed Tryz.func100 (by kernel_rfl) (by kernel_rfl) (Bu Al.nil _)
noncomputable def And:List V->A3:=λvs=>AM (Au tab cx0 Tryz.f101 vs [])
theorem p76:Ar Tryz.prog Gl 101 And:=AN A0 mixed Tryz.func101 (by kernel_rfl) (by kernel_rfl) (Bu Al.nil _)
noncomputable def tb0:AD:=(99,AhC)::(100,Ae0)::(101,And)::[]
theorem H3:Al Tryz.prog Gl tb0:=.cons p74 <| .cons p75 <| .cons p76 .nil
noncomputable def AjC:Cx:=BQ Gl tb0 []
def Sc (c:Nat):List UInt8 :=
 if c<6 then AjD.getD c []
 else if 102 <= c then Am9.getD (c-102) []
 else (if (c-6) / 8=0 then [80,111] else if (c-6) / 8=1 then [77,70,101,110,99,101] else if (c-6) / 8=2 then [70,101,110,99,101,46,116,115,111]
  else [70,101,110,99,101,46]++AkX.getD ((c-6) / 8-3) [])++((if 4 <= (c-6) % 8 then [115] else [100])++Am2.getD ((c-6) % 4) [])
end Go.Proofs.YtkbgidbledjejaaGreat.Ed
namespace Go.Proofs.YtkbgidbledjejaaGreat.Ed
open Go.Sy
theorem Ajc:(List.range 112).map (λk:Nat=>(AM (Au tab cx0 Tryz.f104 [nV k] [])).sem)=(List.range 112).map λk=>some (eV (B6 k),[]):=by kernel_rfl
theorem Aof:(List.range 112).map (λk:Nat=>(AM (Au tab AjC Tryz.f69 [nV k] [])).sem)=(List.range 112).map λk=>some (.tup [eV (B6 k),iV 0],[]):=by kernel_rfl
theorem AlP (n:Int):(AM (Au tab AjC Tryz.f69 [iV n] [])).path [true,true,true,true]=some ([ilt n 0,ilt n 0,ilt n 0,true],(.tup [eV Ba,iV 30],[])):=by kernel_rfl
theorem AlO (n:Int):(AM (Au tab AjC Tryz.f69 [iV n] [])).path [false,false,false,true]=some ([ilt n 0,ilt n 0,ilt n 0,ile 112 n],(.tup [eV Ba,iV 30],[])):=by kernel_rfl
end Go.Proofs.YtkbgidbledjejaaGreat.Ed
namespace Go.Proofs.YtkbgidbledjejaaGreat.Ed
open Go.Sy
def Zf (f:Nat->V):List V->A3
 | [v]=>match gI v with
  | some n=>.br (inR n) (.leaf (f n.toNat,[])) .fail
  | none=>.fail
 | _=>.fail
theorem XJ {f:Nat->V} {vs:List V} {r:V×List Blk} (h:(Zf f vs).sem=some r):∃ k:Nat,k<112∧vs=[nV k]∧r=(f k,[]):=by
 unfold Zf at h;split at h
 ·split at h
  ·rename_i v n hn
   obtain ⟨h1,h2⟩:=Ab h;obtain ⟨k,rfl,hk⟩:=V1 h1;exact ⟨k,hk,by rw [Hy hn]; rfl,by rw [Aa h2]; rfl⟩
  ·cases h
 ·cases h
theorem p71:Ar Tryz.prog Gl 104 (Zf λk=>eV (B6 k)):=by
 refine AnD.congr λvs r h=>?_;obtain ⟨k,hk,rfl,rfl⟩:=XJ h;exact GI Ajc k hk
def ofT:List V->A3
 | [v]=>match gI v with
  | some n=>.br (inR n) (.leaf (.tup [eV (B6 n.toNat),iV 0],[])) (.leaf (.tup [eV Ba,iV 30],[]))
  | none=>.fail
 | _=>.fail
theorem Ac4 {vs:List V} {r:V×List Blk} (h:(ofT vs).sem=some r):∃ n,vs=[iV n]∧((∃ k:Nat,n=Int.ofNat k∧k<112∧r=(.tup [eV (B6 k),iV 0],[])) ∨ ((n<0 ∨ 0 <= n∧112 <= n)∧r=(.tup [eV Ba,iV 30],[]))):=by
 unfold ofT at h;split at h
 ·split at h
  ·rename_i v n hn
   refine ⟨n,by rw [Hy hn],?_⟩;cases hi:inR n with
   | true =>obtain ⟨k,rfl,hk⟩:=V1 hi;simp only [T.sem,hi,sel,cond_true,Option.some.injEq] at h;exact .inl ⟨k,rfl,hk,h.symm⟩
   | false =>simp only [T.sem,hi,sel,cond_false,Option.some.injEq] at h;exact .inr ⟨Adr hi,h.symm⟩
  ·cases h
 ·cases h
theorem IA {a b:Int} (h:a<b):ilt a b=true:=by simpa [ilt] using h
theorem GV {a b:Int} (h:b <= a):ilt a b=false:=by simp [ilt]; omega
theorem O5 {a b:Int} (h:a <= b):ile a b=true:=by simpa [ile] using h
theorem Vq {a b:Int} (h:b<a):ile a b=false:=by simp [ile]; omega
theorem p31:Ar Tryz.prog Gl 69 ofT:=by
 refine Ar.congr (AN A0 mixed Tryz.func69 (by kernel_rfl) (by kernel_rfl) (Bu H3 [])) λvs r h=>?_;obtain ⟨n,rfl,⟨k,rfl,hk,rfl⟩ | ⟨hn,rfl⟩⟩:=Ac4 h
 ·exact GI Aof k hk
 ·rcases hn with hn | ⟨h0,hn⟩
  ·exact A6 (AlP n) (by rw [IA hn])
  ·exact A6 (AlO n) (by rw [GV h0,O5 hn])
noncomputable def tb1:AD:=(104,Zf λk=>eV (B6 k))::(69,ofT)::[]
theorem W5:Al Tryz.prog Gl tb1:=.cons p71 <| .cons p31 .nil
noncomputable def cx1:Cx:=BQ Gl tb1 [(0,⟨[],1,[],1,113⟩)]
def Ih (e:E6):Nat->Nat->Option Nat
 | 0,_=>none
 | m+1,k=>match eqE (B6 k) e with
  | true=>some k
  | false=>Ih e m (Nat.succ k)
def Aj (e:E6):Int:=match Ih e 112 0 with
 | some k=>Int.ofNat k
 | none=>0
def AA (e:E6):Int:=match Ih e 112 0 with
 | some _=>0
 | none=>30
def Q7 (e:E6):Nat->Nat->Option (V×List Blk)
 | 0,_=>some (.tup [iV 0,iV 30],[])
 | m+1,k=>sel (eqE (B6 k) e) (some (.tup [nV k,iV 0],[])) (Q7 e m (Nat.succ k))
def Ul (e:E6):Nat->Nat->Option (V×List Blk)
 | 0,_=>some (.tup [iV 0,iV 30],[])
 | m+1,k=>sel (eqE e (B6 k)) (some (.tup [nV k,iV 0],[])) (Ul e m (Nat.succ k))
theorem We (e:E6):∀ m k,Q7 e m k=match Ih e m k with
  | some j=>some (.tup [nV j,iV 0],[])
  | none=>some (.tup [iV 0,iV 30],[])
 | 0,k=>rfl
 | m+1,k=>by
  simp only [Q7,Ih];cases h:eqE (B6 k) e with
  | true=>rfl
  | false=>exact We e m (Nat.succ k)
theorem S5 (e:E6):∀ m k,Ul e m k=Q7 e m k
 | 0,_=>rfl
 | m+1,k=>by
  simp only [Q7,Ul,S5 e m,AdD e]
theorem S3 (e:E6):Q7 e 112 0=some (.tup [iV (Aj e),iV (AA e)],[]):=by
 rw [We];unfold Aj AA;cases Ih e 112 0 <;> rfl
theorem AjF (e:E6):(AM (Au tab cx1 Tryz.f71 [eV e] [])).sem=Q7 e 112 0:=by kernel_rfl
theorem AjE (e:E6):(AM (Au tab cx1 Tryz.f54 [eV e] [])).sem=Ul e 112 0:=by kernel_rfl
def Cj (f:E6->V):List V->A3
 | [v]=>match toE v with
  | some e=>.leaf (f e,[])
  | none=>.fail
 | _=>.fail
theorem Dq {f:E6->V} {vs:List V} {r:V×List Blk} (h:(Cj f vs).sem=some r):∃ e,vs=[eV e]∧r=(f e,[]):=by
 unfold Cj at h;split at h
 ·split at h
  ·rename_i v e hn
   exact ⟨e,by rw [OW hn],Aa h⟩
  ·cases h
 ·cases h
def K7 (e:E6):V:=.tup [iV (Aj e),iV (AA e)]
theorem p24:Ar Tryz.prog Gl 71 (Cj K7):=by
 refine Ar.congr (AN A0 mixed Tryz.func71 (by kernel_rfl) (by kernel_rfl) (Γ:=cx1) (Bu W5 _)) λvs r h=>?_;obtain ⟨e,rfl,rfl⟩:=Dq h;exact (AjF e).trans (S3 e)
theorem p25:Ar Tryz.prog Gl 54 (Cj K7):=by
 refine Ar.congr (AN A0 mixed Tryz.func54 (by kernel_rfl) (by kernel_rfl) (Γ:=cx1) (Bu W5 _)) λvs r h=>?_;obtain ⟨e,rfl,rfl⟩:=Dq h;exact (AjE e).trans ((S5 e 112 0).trans (S3 e))
end Go.Proofs.YtkbgidbledjejaaGreat.Ed
namespace Go.Proofs.YtkbgidbledjejaaGreat.Ed
open Go.Sy
noncomputable def tb2:AD:=(71,Cj K7)::(54,Cj K7)::tb1
theorem Abx:Al Tryz.prog Gl tb2:=.cons p24 <| .cons p25 W5
noncomputable def cx2:Cx:=BQ Gl tb2 []
theorem Agk (e:E6):(AM (Au tab cx2 Tryz.f45 [eV e] [])).sem=some (iV (AA e),[]):=by kernel_rfl
theorem p29:Ar Tryz.prog Gl 45 (Cj λe=>iV (AA e)):=by
 refine Ar.congr (AN A0 mixed Tryz.func45 (by kernel_rfl) (by kernel_rfl) (Γ:=cx2) (Bu Abx _)) λvs r h=>?_;obtain ⟨e,rfl,rfl⟩:=Dq h;exact Agk e
theorem KZ (e:E6):∀ m k j,Ih e m k=some j->k <= j∧j<k+m∧B6 j=e
 | 0,k,j,h=>by cases h
 | m+1,k,j,h=>by
  simp only [Ih] at h;split at h
  ·rename_i he
   simp only [Option.some.injEq] at h;subst h;exact ⟨Nat.le_refl _,by omega,(G6 _ _).1 he⟩
  ·obtain ⟨h1,h2,h3⟩:=KZ e m _ j h
   exact ⟨by omega,by omega,h3⟩
def Vh (e:E6):List UInt8:=match Ih e 112 0 with
 | some k=>Sc k
 | none=>[]
def Y3 (e:E6):V:=.tup [.str (Vh e),iV (AA e)]
noncomputable def tb3:AD:=(45,Cj λe=>iV (AA e))::tb2
theorem Abw:Al Tryz.prog Gl tb3:=.cons p29 Abx
noncomputable def tbn:AD:=(119,λvs=>AM (Au tab cx0 Tryz.f119 vs []))::(123,λvs=>AM (Au tab cx0 Tryz.f123 vs []))::[]
theorem Abt:Al Tryz.prog Gl tbn :=
 .cons (AN A0 mixed Tryz.func119 (by kernel_rfl) (by kernel_rfl) (Γ:=cx0) (Bu .nil _)) <|
 .cons (AN A0 mixed Tryz.func123 (by kernel_rfl) (by kernel_rfl) (Γ:=cx0) (Bu .nil _)) .nil
noncomputable def cxn:Cx:=BQ Gl tbn []
noncomputable def tb4:AD:=(120,λvs=>AM (Au tab cxn Tryz.f120 vs []))::(tbn++tb3)
theorem Al.append {P:Program} {G:Nat->V} {a b:AD} (ha:Al P G a) (hb:Al P G b):Al P G (a++b):=λp hp=>(List.mem_append.1 hp).elim (ha p) (hb p)
theorem Aid:Al Tryz.prog Gl tb4 :=
 .cons (AN A0 mixed Tryz.func120 (by kernel_rfl) (by kernel_rfl) (Γ:=cxn) (Bu Abt _)) (Al.append Abt Abw)
noncomputable def cx4:Cx:=BQ Gl tb4 []
theorem AiZ:(List.range 112).map (λk:Nat=>(AM (Au tab cx4 Tryz.f114 [eV (B6 k)] [])).sem)=(List.range 112).map λk=>some (.tup [.str (Sc k),iV 0],[]):=by kernel_rfl
theorem Af9 (e:E6):(AM (Au tab cx4 Tryz.f114 [eV e] [])).path [true]=some ([AI (ieq (AA e) 0)],(.tup [.str [],iV 30],[])):=by kernel_rfl
theorem Af8 (e:E6):(AM (Au tab cx4 Tryz.f114 [eV e] [])).sem=some (Y3 e,[]):=by
 unfold Y3 Vh;cases h:Ih e 112 0 with
 | none =>
  have hf:AA e=30:=by unfold AA; rw [h]
  rw [hf];exact A6 (Af9 e) (by rw [hf]; rfl)
 | some k =>
  have hf:AA e=0:=by unfold AA; rw [h]
  obtain ⟨_,hk,rfl⟩:=KZ e 112 0 k h;rw [hf];exact GI AiZ k (by omega)
theorem p27:Ar Tryz.prog Gl 114 (Cj Y3):=by
 refine Ar.congr (AN A0 mixed Tryz.func114 (by kernel_rfl) (by kernel_rfl) (Γ:=cx4) (Bu Aid _)) λvs r h=>?_;obtain ⟨e,rfl,rfl⟩:=Dq h;exact Af8 e
end Go.Proofs.YtkbgidbledjejaaGreat.Ed
namespace Go.Proofs.YtkbgidbledjejaaGreat.Ed
open Go.Sy
noncomputable def tb5:AD:=(114,Cj Y3)::tb3
theorem Abv:Al Tryz.prog Gl tb5:=.cons p27<|Abw
noncomputable def cx5:Cx:=BQ Gl tb5 [(0,⟨[],1,[],1,113⟩)]
def Su (s:List UInt8):Nat->Nat->Option Nat
 | 0,_=>none
 | m+1,k=>match seq (Sc k) s with
  | true=>some k
  | false=>Su s m (Nat.succ k)
def Gk (s:List UInt8):E6:=match Su s 112 0 with
 | some k=>B6 k
 | none=>Ba
def Gj (s:List UInt8):Int:=match Su s 112 0 with
 | some _=>0
 | none=>30
def P0 (s:List UInt8):Nat->Nat->Option (V×List Blk)
 | 0,_=>some (.tup [eV Ba,iV 30],[])
 | m+1,k=>sel (seq (Sc k) s) (some (.tup [eV (B6 k),iV 0],[])) (P0 s m (Nat.succ k))
theorem Sa (s:List UInt8):∀ m k,P0 s m k=match Su s m k with
  | some j=>some (.tup [eV (B6 j),iV 0],[])
  | none=>some (.tup [eV Ba,iV 30],[])
 | 0,k=>rfl
 | m+1,k=>by
  simp only [P0,Su];cases h:seq (Sc k) s with
  | true=>rfl
  | false=>exact Sa s m (Nat.succ k)
theorem Xa (s:List UInt8):P0 s 112 0=some (.tup [eV (Gk s),iV (Gj s)],[]):=by
 rw [Sa];unfold Gk Gj;cases Su s 112 0 <;> rfl
theorem Af0 (s:List UInt8):(AM (Au tab cx5 Tryz.f103 [.str s] [])).sem=P0 s 112 0:=by kernel_rfl
def Rz (f:List UInt8->V):List V->A3
 | [v]=>match gS v with
  | some e=>.leaf (f e,[])
  | none=>.fail
 | _=>.fail
theorem W2 {f:List UInt8->V} {vs:List V} {r:V×List Blk} (h:(Rz f vs).sem=some r):∃ e,vs=[.str e]∧r=(f e,[]):=by
 unfold Rz at h;split at h
 ·split at h
  ·rename_i v e hn
   exact ⟨e,by rw [Agb hn],Aa h⟩
  ·cases h
 ·cases h
def To (s:List UInt8):V:=.tup [eV (Gk s),iV (Gj s)]
theorem p22:Ar Tryz.prog Gl 103 (Rz To):=by
 refine Ar.congr (AN A0 mixed Tryz.func103 (by kernel_rfl) (by kernel_rfl) (Γ:=cx5) (Bu Abv _)) λvs r h=>?_;obtain ⟨e,rfl,rfl⟩:=W2 h;exact (Af0 e).trans (Xa e)
noncomputable def tb6:AD:=(103,Rz To)::tb5
theorem OY:Al Tryz.prog Gl tb6:=.cons p22 Abv
noncomputable def cx6:Cx:=BQ Gl tb6 []
noncomputable def tb7:AD:=tb6
theorem tb7_ok:Al Tryz.prog Gl tb7:=OY
noncomputable def cx7:Cx:=BQ Gl tb7 []
theorem Ads (a:Int):ieq a a=true:=by simp [ieq]
end Go.Proofs.YtkbgidbledjejaaGreat.Ed
