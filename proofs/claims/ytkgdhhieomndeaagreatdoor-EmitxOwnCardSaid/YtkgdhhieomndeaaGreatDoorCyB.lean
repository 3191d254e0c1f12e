/-
  Layer 3: the numbers of a list of edges. No conditions.
-/
import Derived.Test.YtkgdhhieomndeaaGreatDoorEdN
namespace Go.Proofs.YtkgdhhieomndeaaGreatDoor.Ed
open Go.Sy
theorem Rc {n:Nat}:A4 n (λ_=>true)=true:=A0.2 λ_ _=>rfl
def kL (n:Nat):Kn:=⟨A4 n λ_=>true,true,Rc⟩
def By (g:Nat->V):Nat->Nat->V
 | 0=>λ_=>.und
 | i+1=>As i (By g i) (g i)
theorem FQ (g:Nat->V):∀ n j,j<n->By g n j=g j
 | 0,j,h=>by omega
 | n+1,j,h=>by
  rw [show By g (n+1) j=As n (By g n) (g n) j from rfl,Bo];show (bif Nat.beq j n then g n else By g n j)=_;cases hb:Nat.beq j n with
  | true =>rw [Nat.eq_of_beq_eq_true hb];rfl
  | false =>have:=Nat.ne_of_beq_eq_false hb;exact FQ g n j (by omega)
theorem Ti {i n b c:Nat} (h:i<n) (hb:b <= c) (hn:n * c <= 140737488355328):Bn i 1 b=true:=by
 refine decide_eq_true ?_;have h1:(i+1) * b <= n * b:=Nat.mul_le_mul_right b (by omega);have h2:n * b <= n * c:=Nat.mul_le_mul_left n hb;omega
theorem Jv {n:Nat} (hn:BC n=true):n <= 4611686018427387904:=by
 have hn:n * 40 <= 140737488355328:=of_decide_eq_true hn;omega
def cdV (f:Nat->E6):Nat->V:=λi=>iV (BD (f i))
theorem UN (p:Nat->Bool):∀ n,A4 n p=false->∃ e,e<n∧p e=false∧∀ t,t<e->p t=true
 | 0,h=>by cases h
 | n+1,h=>by
  cases hn:A4 n p with
  | false =>obtain ⟨e,h1,h2,h3⟩:=UN p n hn;exact ⟨e,by omega,h2,h3⟩
  | true =>
   refine ⟨n,by omega,?_,λt ht=>A0.1 hn t ht⟩;cases hp:p n with
   | false=>rfl
   | true =>
    have:A4 (n+1) p=true:=A0.2 λi hi=>by
     by_cases hi':i=n
     ·rw [hi',hp]
     ·exact A0.1 hn i (by omega)
    rw [this] at h; cases h
theorem Ad4 {e:E6} (h:Bd e ≠ 0):Bd e=30:=by
 rcases Er e with ⟨_,_,h1,_⟩ | ⟨h1,_⟩
 ·exact absurd h1 h
 ·exact h1
theorem W3 {n:Nat} {f:Nat->E6} (h:Cp n f=false):∃ e,e<n∧Bd (f e)=30∧∀ t,t<e->Bd (f t)=0:=by
 obtain ⟨e,h1,h2,h3⟩:=UN _ n h;refine ⟨e,h1,Ad4 λh0=>?_,λt ht=>by simpa [ieq] using h3 t ht⟩;rw [h0] at h2;cases h2
def Ad3:List V->AE:=Gs λn f=>.br (BC n) (.br (Cp n f) (.leaf (.tup [.ref 0,iV 0],[.row 3 1 n λi=>iV (BD (f i))])) (.leaf (.tup [.ref 0,iV 30],[.row 3 1 0 λ_=>.und]))) .fail
end Go.Proofs.YtkgdhhieomndeaaGreatDoor.Ed
namespace Go.Proofs.YtkgdhhieomndeaaGreatDoor.Ed
open Go.Sy
def GR (n:Nat):List (Nat×Lp):=[(0,⟨[],1000,[],1000,n⟩),(1,⟨[],1000,[],1000,n⟩),(2,⟨[],1000,[],1000,n⟩),(3,⟨[],1000,[],1000,n⟩),(4,⟨[],1000,[],1000,n⟩),(5,⟨[],1000,[],1000,n⟩),(6,⟨[],1000,[],1000,n⟩)]
noncomputable def cy0:AK:=[(21,Qb RY),(32,ap2 gI toE λa e=>out (Sp a e)),(28,BW λe=>iV (Bd e))]
noncomputable def B83:List V->AE:=λvs=>Ay (Ai tab (AA Gl cy0 (GR 30)) Tryz.f50 vs [])
noncomputable def AnV:AK:=(83,B83)::cy0
noncomputable def Aqw:List V->AE:=λvs=>Ay (Ai tab (AA Gl AnV (GR 30)) Tryz.f128 vs [])
noncomputable def AhI:AK:=(108,Aqw)::AnV
noncomputable def B88:List V->AE:=λvs=>Ay (Ai tab (AA Gl AhI (GR 30)) Tryz.f112 vs [])
noncomputable def AnT:AK:=(88,B88)::AhI
noncomputable def B89:List V->AE:=λvs=>Ay (Ai tab (AA Gl AnT (GR 30)) Tryz.f113 vs [])
noncomputable def AnS:AK:=(89,B89)::AnT
noncomputable def B90:List V->AE:=λvs=>Ay (Ai tab (AA Gl AnS (GR 30)) Tryz.f114 vs [])
noncomputable def AnR:AK:=(90,B90)::AnS
noncomputable def B93:List V->AE:=λvs=>Ay (Ai tab (AA Gl AnR (GR 30)) Tryz.f117 vs [])
noncomputable def AnP:AK:=(93,B93)::AnR
noncomputable def B87:List V->AE:=λvs=>Ay (Ai tab (AA Gl AnP (GR 30)) Tryz.f111 vs [])
noncomputable def AnU:AK:=(87,B87)::AnP
noncomputable def B92:List V->AE:=λvs=>Ay (Ai tab (AA Gl AnU (GR 30)) Tryz.f116 vs [])
noncomputable def AnQ:AK:=(92,B92)::AnU
noncomputable def B91:List V->AE:=λvs=>Ay (Ai tab (AA Gl AnQ (GR 30)) Tryz.f115 vs [])
noncomputable def Aqd:AK:=(91,B91)::AnQ
noncomputable def B86:List V->AE:=λvs=>Ay (Ai tab (AA Gl Aqd (GR 30)) Tryz.f110 vs [])
end Go.Proofs.YtkgdhhieomndeaaGreatDoor.Ed
namespace Go.Proofs.YtkgdhhieomndeaaGreatDoor.Ed
open Go.Sy
open Int (ofNat)
def BF (e:E6):Bool:=Ao (ile 1 e.kind) (ile e.kind 3)
def AB (e:E6):Bool:=Ao (BF e) e.ext
def AN (e:E6):Bool:=Ao (A5 (BF e)) (A5 e.same)
theorem Aed (e:E6):(Ay (Ai tab (AA Gl [] []) Tryz.f128 [eV e] [])).sem=(sel (ile 1 (e).kind) (sel (ile 1 (e).kind) (sel (ile 1 (e).kind) (sel (ile 1 (e).kind) (some ((bV (ile (e).kind 3)),[])) (some ((bV false),[]))) (sel (ile 1 (e).kind) (some (A9,[])) (some ((bV false),[])))) (sel (ile 1 (e).kind) none (sel (ile 1 (e).kind) (some (A9,[])) (some ((bV false),[]))))) (sel (ile 1 (e).kind) none (sel (ile 1 (e).kind) none (sel (ile 1 (e).kind) (some (A9,[])) (some ((bV false),[])))))):=by kernel_rfl
theorem ApC:Ax Tryz.prog Gl 128 (BW λe=>bV (BF e)):=by
 refine Ax.congr (AM A7 mixed Tryz.func128 (by kernel_rfl) (by kernel_rfl) (Γ:=AA Gl [] []) (AH Aq.nil _)) λvs r h=>?_;obtain ⟨e,rfl,rfl⟩:=Ci h;refine (Aed e).trans ?_;unfold BF;cases ile 1 e.kind <;> rfl
theorem AX (i:Nat):ile 0 (ofNat i)=true:=Yf (by simp)
noncomputable def AaN:AK:=(128,BW λe=>bV (BF e))::[]
theorem X7:Aq Tryz.prog Gl AaN:=.cons ApC .nil
theorem Aix (e:E6):(Ay (Ai tab (AA Gl AaN []) Tryz.f112 [eV e] [])).sem=(sel (BF e) (sel (BF e) (sel (BF e) (some ((bV (e).ext),[])) (some ((bV false),[]))) (sel (BF e) (some (A9,[])) (some ((bV false),[])))) (sel (BF e) none (sel (BF e) (some (A9,[])) (some ((bV false),[]))))):=by kernel_rfl
theorem p88:Ax Tryz.prog Gl 112 (BW λe=>bV (AB e)):=by
 refine Ax.congr (AM A7 mixed Tryz.func112 (by kernel_rfl) (by kernel_rfl) (Γ:=AA Gl AaN []) (AH X7 _)) λvs r h=>?_;obtain ⟨e,rfl,rfl⟩:=Ci h;refine (Aix e).trans ?_;unfold AB;cases BF e <;> rfl
theorem Aiw (e:E6):(Ay (Ai tab (AA Gl AaN []) Tryz.f113 [eV e] [])).sem=(sel (A5 (BF e)) (sel (A5 (BF e)) (sel (A5 (BF e)) (sel (A5 (BF e)) (some ((bV (A5 (e).same)),[])) (some ((bV false),[]))) (sel (A5 (BF e)) (some (A9,[])) (some ((bV false),[])))) (sel (A5 (BF e)) none (sel (A5 (BF e)) (some (A9,[])) (some ((bV false),[]))))) (sel (A5 (BF e)) none (sel (A5 (BF e)) none (sel (A5 (BF e)) (some (A9,[])) (some ((bV false),[])))))):=by kernel_rfl
theorem p89:Ax Tryz.prog Gl 113 (BW λe=>bV (AN e)):=by
 refine Ax.congr (AM A7 mixed Tryz.func113 (by kernel_rfl) (by kernel_rfl) (Γ:=AA Gl AaN []) (AH X7 _)) λvs r h=>?_;obtain ⟨e,rfl,rfl⟩:=Ci h;refine (Aiw e).trans ?_;unfold AN;cases BF e <;> rfl
theorem Pq (e:E6):BF e=bor (ieq e.kind 1) (bor (ieq e.kind 2) (ieq e.kind 3)):=by
 unfold BF;rw [Bool.eq_iff_iff];simp [Ao,bor,ile,ieq];omega
theorem Aiz (e:E6):(Ay (Ai tab (AA Gl [] []) Tryz.f78 [eV e] [])).sem=(sel (ieq (e).kind 1) (sel (ieq (e).kind 1) (sel (ieq (e).kind 1) (sel (ieq (e).kind 1) (some ((bV (e).ext),[])) none) none) none) (sel (ieq (e).kind 1) (sel (ieq (e).kind 1) (sel (ieq (e).kind 1) (some ((bV (e).ext),[])) none) none) (sel (ieq (e).kind 1) (sel (ieq (e).kind 1) (some ((bV (e).ext),[])) none) (sel (ieq (e).kind 1) (some ((bV (e).ext),[])) (sel (ieq (e).kind 2) (sel (ieq (e).kind 2) (sel (ieq (e).kind 2) (sel (ieq (e).kind 2) (some ((bV (e).ext),[])) none) none) none) (sel (ieq (e).kind 2) (sel (ieq (e).kind 2) (sel (ieq (e).kind 2) (some ((bV (e).ext),[])) none) none) (sel (ieq (e).kind 2) (sel (ieq (e).kind 2) (some ((bV (e).ext),[])) none) (sel (ieq (e).kind 2) (some ((bV (e).ext),[])) (sel (ieq (e).kind 3) (sel (ieq (e).kind 3) (sel (ieq (e).kind 3) (some ((bV (e).ext),[])) (some ((bV false),[]))) (sel (ieq (e).kind 3) (some (A9,[])) (some ((bV false),[])))) (sel (ieq (e).kind 3) none (sel (ieq (e).kind 3) (some (A9,[])) (some ((bV false),[]))))))))))))):=by kernel_rfl
theorem p60:Ax Tryz.prog Gl 78 (BW λe=>bV (AB e)):=by
 refine Ax.congr (AM A7 mixed Tryz.func78 (by kernel_rfl) (by kernel_rfl) (Γ:=AA Gl [] []) (AH Aq.nil _)) λvs r h=>?_;obtain ⟨e,rfl,rfl⟩:=Ci h;refine (Aiz e).trans ?_;unfold AB;rw [Pq];cases ieq e.kind 1 <;> cases ieq e.kind 2 <;> cases ieq e.kind 3 <;> rfl
theorem Aiy (e:E6):(Ay (Ai tab (AA Gl [] []) Tryz.f79 [eV e] [])).sem=(sel (A5 (ieq (e).kind 1)) (sel (A5 (ieq (e).kind 1)) (sel (A5 (ieq (e).kind 1)) (sel (A5 (ieq (e).kind 1)) (sel (A5 (ieq (e).kind 2)) (sel (A5 (ieq (e).kind 2)) (sel (A5 (ieq (e).kind 2)) (sel (A5 (ieq (e).kind 2)) (sel (A5 (ieq (e).kind 3)) (sel (A5 (ieq (e).kind 3)) (sel (A5 (ieq (e).kind 3)) (sel (A5 (ieq (e).kind 3)) (some ((bV (A5 (e).same)),[])) (some ((bV false),[]))) (sel (A5 (ieq (e).kind 3)) (some (A9,[])) (some ((bV false),[])))) (sel (A5 (ieq (e).kind 3)) none (sel (A5 (ieq (e).kind 3)) (some (A9,[])) (some ((bV false),[]))))) (sel (A5 (ieq (e).kind 3)) none (sel (A5 (ieq (e).kind 3)) none (sel (A5 (ieq (e).kind 3)) (some (A9,[])) (some ((bV false),[])))))) (some ((bV false),[]))) (sel (A5 (ieq (e).kind 2)) none (some ((bV false),[])))) (sel (A5 (ieq (e).kind 2)) none (sel (A5 (ieq (e).kind 2)) none (some ((bV false),[]))))) (sel (A5 (ieq (e).kind 2)) none (sel (A5 (ieq (e).kind 2)) none (sel (A5 (ieq (e).kind 2)) none (some ((bV false),[])))))) (some ((bV false),[]))) (sel (A5 (ieq (e).kind 1)) none (some ((bV false),[])))) (sel (A5 (ieq (e).kind 1)) none (sel (A5 (ieq (e).kind 1)) none (some ((bV false),[]))))) (sel (A5 (ieq (e).kind 1)) none (sel (A5 (ieq (e).kind 1)) none (sel (A5 (ieq (e).kind 1)) none (some ((bV false),[])))))):=by kernel_rfl
theorem p61:Ax Tryz.prog Gl 79 (BW λe=>bV (AN e)):=by
 refine Ax.congr (AM A7 mixed Tryz.func79 (by kernel_rfl) (by kernel_rfl) (Γ:=AA Gl [] []) (AH Aq.nil _)) λvs r h=>?_;obtain ⟨e,rfl,rfl⟩:=Ci h;refine (Aiy e).trans ?_;unfold AN;rw [Pq];cases ieq e.kind 1 <;> cases ieq e.kind 2 <;> cases ieq e.kind 3 <;> rfl
noncomputable def tbY:AK:=(76,BW λe=>iV (Bd e))::(112,BW λe=>bV (AB e))::(113,BW λe=>bV (AN e))::[]
theorem NV:Aq Tryz.prog Gl tbY:=.cons p29 <| .cons p88 <| .cons p89 .nil
def OC (n:Nat) (f:Nat->E6):Lp:=⟨bmK 16 0 [0,2,3],0,bmK 16 0 [2],0,n+1⟩
def Qg (n:Nat) (f:Nat->E6) (i:Nat) (j:Nat->V):St:=⟨jsV 16 0 j [(0,.sl 6 n (λi=>eV (f i))),(2,bV false),(3,nV i)],[]⟩
def Xd (n:Nat) (f:Nat->E6) (i:Nat):Ex×St:=(.ex 0,⟨jsV 16 0 Aa [(2,bV false)],[]⟩)
def Xc (n:Nat) (f:Nat->E6) (i:Nat):Ex×St:=(.rt,⟨jsV 16 0 Aa [(2,bV false)],[]⟩)
noncomputable def J1 (L:LT):St->T (Ex×St):=λst=>AD tab ⟨Am tbY,L,Gl⟩ (Au Tryz.f71 0) 0 st
section
variable (L:LT) (n:Nat) (f:Nat->E6) (i:Nat)  (j:Nat->V)
include L n f i j
theorem Amu (h0:ilt (ofNat i) (ofNat n)=false):Al (J1 L) (OC n f) (Qg n f i j)=some ((.ex 0),⟨jsV 16 0 Aa [(2,bV false)],[]⟩):=by
 exact Ac (ks:=[kn h0]) (by kernel_rfl)
theorem Ams (h0:ilt (ofNat i) (ofNat n)=true) (h10:ile 0 (ofNat i)=true) (h1:ieq (Bd (f i)) 0=false):Al (J1 L) (OC n f) (Qg n f i j)=some (.rt,⟨jsV 16 0 Aa [(2,bV false)],[]⟩):=by
 exact Ac (ks:=[kn h0,kA (kn h10) (kn h0),kN (kn h1)]) (by kernel_rfl)
theorem Amt (h0:ilt (ofNat i) (ofNat n)=true) (h10:ile 0 (ofNat i)=true) (h1:ieq (Bd (f i)) 0=true):Al (J1 L) (OC n f) (Qg n f i j)=some (.nm,⟨jsV 16 0 Aa [(0,.sl 6 n (λi=>eV (f i))),(2,bV false),(3,iV (wr .i64 (Ak (ofNat i) 1)))],[]⟩):=by
 exact Ac (ks:=[kn h0,kA (kn h10) (kn h0),kN (kn h1)]) (by kernel_rfl)
end
def Ah2 (n:Nat) (f:Nat->E6) :Nat->V:=lkV A9 []
section
variable (L:LT) (p0:PT) (n:Nat) (f:Nat->E6) (i:Nat)
include L p0 n f i
theorem Alb  (hp0:p0 (J1 (onP 0 p0 (Xd n f i) L)) (Qg n f 0 (Ah2 n f ))=true):(Ay (Ai tab ⟨Am tbY,onP 0 p0 (Xd n f i) L,Gl⟩ Tryz.f71 [AS n f] [])).sem=some ((bV true),[]):=by
 exact Ac (ks:=[kn hp0]) (by kernel_rfl)
theorem Ala  (hp0:p0 (J1 (onP 0 p0 (Xc n f i) L)) (Qg n f 0 (Ah2 n f ))=true):(Ay (Ai tab ⟨Am tbY,onP 0 p0 (Xc n f i) L,Gl⟩ Tryz.f71 [AS n f] [])).sem=some ((bV false),[]):=by
 exact Ac (ks:=[kn hp0]) (by kernel_rfl)
end
def OF (n:Nat) (f:Nat->E6):Lp:=⟨bmK 21 0 [1,5,8,9,10],0,bmK 21 0 [5],0,n+1⟩
def TD (n:Nat) (f:Nat->E6) (s:Int) (i:Nat) (j:Nat->V):St:=⟨jsV 21 0 j [(1,.fn 112 []),(5,iV s),(8,.sl 6 n (λi=>eV (f i))),(9,nV n),(10,nV i)],[]⟩
def Xe (n:Nat) (f:Nat->E6) (s:Int) (i:Nat):Ex×St:=(.ex 0,⟨jsV 21 0 Aa [(5,iV s)],[]⟩)
noncomputable def Lz (L:LT):St->T (Ex×St):=λst=>AD tab ⟨Am tbY,L,Gl⟩ (Au Tryz.f111 0) 0 st
section
variable (L:LT) (n:Nat) (f:Nat->E6) (s:Int) (i:Nat)  (j:Nat->V)
include L n f s i j
theorem Aju (h0:ilt (ofNat i) (ofNat n)=false):Al (Lz L) (OF n f) (TD n f s i j)=some ((.ex 0),⟨jsV 21 0 Aa [(5,iV s)],[]⟩):=by
 exact Ac (ks:=[kn h0]) (by kernel_rfl)
theorem Ajs (h0:ilt (ofNat i) (ofNat n)=true) (h10:ile 0 (ofNat i)=true) (h1:AB (f i)=true):Al (Lz L) (OF n f) (TD n f s i j)=some (.nm,⟨jsV 21 0 Aa [(1,.fn 112 []),(5,iV (wr .i64 (Ak s 1))),(8,.sl 6 n (λi=>eV (f i))),(9,nV n),(10,iV (wr .i64 (Ak (ofNat i) 1)))],[]⟩):=by
 exact Ac (ks:=[kn h0,kA (kn h10) (kn h0),kn h1]) (by kernel_rfl)
theorem Ajt (h0:ilt (ofNat i) (ofNat n)=true) (h10:ile 0 (ofNat i)=true) (h1:AB (f i)=false):Al (Lz L) (OF n f) (TD n f s i j)=some (.nm,⟨jsV 21 0 Aa [(1,.fn 112 []),(5,iV s),(8,.sl 6 n (λi=>eV (f i))),(9,nV n),(10,iV (wr .i64 (Ak (ofNat i) 1)))],[]⟩):=by
 exact Ac (ks:=[kn h0,kA (kn h10) (kn h0),kn h1]) (by kernel_rfl)
end
def Anr (n:Nat) (f:Nat->E6) :Nat->V:=lkV A9 [(0,.sl 6 n (λi=>eV (f i))),(4,iV 0)]
theorem Alc (L:LT) (p0:PT) (n:Nat) (f:Nat->E6) (s:Int) (i:Nat)  (hp0:p0 (Lz (onP 0 p0 (Xe n f s i) L)) (TD n f 0 0 (Anr n f ))=true):(Ay (Ai tab ⟨Am tbY,onP 0 p0 (Xe n f s i) L,Gl⟩ Tryz.f111 [AS n f,.fn 112 []] [])).sem=some ((iV s),[]):=by
 exact Ac (ks:=[kn hp0]) (by kernel_rfl)
def OG (n:Nat) (f:Nat->E6):Lp:=⟨bmK 21 0 [1,5,8,9,10],0,bmK 21 0 [5],0,n+1⟩
def TE (n:Nat) (f:Nat->E6) (s:Int) (i:Nat) (j:Nat->V):St:=⟨jsV 21 0 j [(1,.fn 113 []),(5,iV s),(8,.sl 6 n (λi=>eV (f i))),(9,nV n),(10,nV i)],[]⟩
def Xf (n:Nat) (f:Nat->E6) (s:Int) (i:Nat):Ex×St:=(.ex 0,⟨jsV 21 0 Aa [(5,iV s)],[]⟩)
noncomputable def L0 (L:LT):St->T (Ex×St):=λst=>AD tab ⟨Am tbY,L,Gl⟩ (Au Tryz.f111 0) 0 st
section
variable (L:LT) (n:Nat) (f:Nat->E6) (s:Int) (i:Nat)  (j:Nat->V)
include L n f s i j
theorem Ajx (h0:ilt (ofNat i) (ofNat n)=false):Al (L0 L) (OG n f) (TE n f s i j)=some ((.ex 0),⟨jsV 21 0 Aa [(5,iV s)],[]⟩):=by
 exact Ac (ks:=[kn h0]) (by kernel_rfl)
theorem Ajv (h0:ilt (ofNat i) (ofNat n)=true) (h10:ile 0 (ofNat i)=true) (h1:AN (f i)=true):Al (L0 L) (OG n f) (TE n f s i j)=some (.nm,⟨jsV 21 0 Aa [(1,.fn 113 []),(5,iV (wr .i64 (Ak s 1))),(8,.sl 6 n (λi=>eV (f i))),(9,nV n),(10,iV (wr .i64 (Ak (ofNat i) 1)))],[]⟩):=by
 exact Ac (ks:=[kn h0,kA (kn h10) (kn h0),kn h1]) (by kernel_rfl)
theorem Ajw (h0:ilt (ofNat i) (ofNat n)=true) (h10:ile 0 (ofNat i)=true) (h1:AN (f i)=false):Al (L0 L) (OG n f) (TE n f s i j)=some (.nm,⟨jsV 21 0 Aa [(1,.fn 113 []),(5,iV s),(8,.sl 6 n (λi=>eV (f i))),(9,nV n),(10,iV (wr .i64 (Ak (ofNat i) 1)))],[]⟩):=by
 exact Ac (ks:=[kn h0,kA (kn h10) (kn h0),kn h1]) (by kernel_rfl)
end
def Ans (n:Nat) (f:Nat->E6) :Nat->V:=lkV A9 [(0,.sl 6 n (λi=>eV (f i))),(4,iV 0)]
theorem Ald (L:LT) (p0:PT) (n:Nat) (f:Nat->E6) (s:Int) (i:Nat)  (hp0:p0 (L0 (onP 0 p0 (Xf n f s i) L)) (TE n f 0 0 (Ans n f ))=true):(Ay (Ai tab ⟨Am tbY,onP 0 p0 (Xf n f s i) L,Gl⟩ Tryz.f111 [AS n f,.fn 113 []] [])).sem=some ((iV s),[]):=by
 exact Ac (ks:=[kn hp0]) (by kernel_rfl)
def AjV:List V->AE:=Gs λn f=>.br (Af n) (out (bV (Cp n f))) .fail
theorem AgI (L:LT) (n:Nat) (f:Nat->E6) (hn:n <= 4611686018427387904):∀ (e i:Nat) (j:Nat->V) (q:Nat),n=i+e->e<q->(∀ k,k<i->ieq (Bd (f k)) 0=true) ->
  (A3 (J1 L) (OC n f) q (Qg n f i j)).sem=some (match Cp n f with | true=>Xd n f 0 | false=>Xc n f 0)
 | 0,i,j,q+1,h,_,hb=>by
  have:n=i:=by omega
  subst this;rw [show Cp n f=true from A0.2 hb];exact Ae (Amu L n f _ j (Aw (Nat.le_refl _)))
 | e+1,i,j,q+1,h,h2,hb=>by
  cases hp:ieq (Bd (f i)) 0 with
  | true =>
   rw [Ae (Amt L n f i j (ofNat_lt (by omega)) (AX _) hp),A6,Ap (show i<n by omega) hn];exact AgI L n f hn e (i+1) Aa q (by omega) (by omega) λk hk=>by
    by_cases hki:k=i
    ·subst hki; exact hp
    ·exact hb k (by omega)
  | false =>
   have hm:Cp n f=false:=by
    cases hm:Cp n f with
    | false=>rfl
    | true =>have:=A0.1 hm i (by omega);rw [hp] at this;cases this
   rw [hm];exact Ae (Ams L n f i j (ofNat_lt (by omega)) (AX _) hp)
theorem p98:Ax Tryz.prog Gl 71 AjV:=by
 refine Aj A7 mixed Tryz.func71 (by kernel_rfl) (by kernel_rfl) λvs v h' h=>?_;obtain ⟨n,f,ha,hq⟩:=C7 h;obtain ⟨hn,hq⟩:=Ad hq;have:=Ab hq;simp only [Prod.mk.injEq] at this;obtain ⟨rfl,rfl⟩:=this;have hn:n <= 4611686018427387904:=of_decide_eq_true hn;have hx:=AH NV [(0,OC n f)];have hL:=AQ [(0,OC n f)];refine ⟨_,AA Gl tbY [(0,OC n f)],[],ha,rfl,hx.1,hx.2,?_,Av.refl _⟩;have hr:=λL i=>AgI L n f hn n 0 i (n+1) (by omega) (by omega) (λk hk=>by omega);cases hm:Cp n f with
 | true =>rw [hm] at hr;exact AP (AI hL hL) _ (Alb _ _ n f 0 (Az (hr _ _)))
 | false =>rw [hm] at hr;exact AP (AI hL hL) _ (Ala _ _ n f 0 (Az (hr _ _)))
def An (p:Nat->Bool):Nat->Nat
 | 0=>0
 | i+1=>match p i with
  | true=>An p i+1
  | false=>An p i
theorem Bm (p:Nat->Bool):∀ i,An p i <= i
 | 0=>Nat.le_refl _
 | i+1=>by
  have:=Bm p i;unfold An;split <;> omega
theorem Wg (L:LT) (n:Nat) (f:Nat->E6) (hn:n <= 4611686018427387904):∀ (e i:Nat) (j:Nat->V) (q:Nat),n=i+e->e<q ->
  (A3 (Lz L) (OF n f) q (TD n f (ofNat (An (λk=>AB (f k)) i)) i j)).sem=some (Xe n f (ofNat (An (λk=>AB (f k)) n)) 0)
 | 0,i,j,q+1,h,_=>by
  have:n=i:=by omega
  subst this;exact Ae (Aju L n f _ _ j (Aw (Nat.le_refl _)))
 | e+1,i,j,q+1,h,h2=>by
  have hc:=Bm (λk=>AB (f k)) i;cases hp:AB (f i) with
  | true =>
   rw [Ae (Ajs L n f _ i j (ofNat_lt (by omega)) (AX _) hp),A6,Ap (show i<n by omega) hn,Ap (show An (λk=>AB (f k)) i<n by omega) hn,
    show An (λk=>AB (f k)) i+1=An (λk=>AB (f k)) (i+1) by rw [An,hp]]
   exact Wg L n f hn e (i+1) Aa q (by omega) (by omega)
  | false =>
   rw [Ae (Ajt L n f _ i j (ofNat_lt (by omega)) (AX _) hp),A6,Ap (show i<n by omega) hn,
    show An (λk=>AB (f k)) i=An (λk=>AB (f k)) (i+1) by rw [An,hp]]
   exact Wg L n f hn e (i+1) Aa q (by omega) (by omega)
theorem Wh (L:LT) (n:Nat) (f:Nat->E6) (hn:n <= 4611686018427387904):∀ (e i:Nat) (j:Nat->V) (q:Nat),n=i+e->e<q ->
  (A3 (L0 L) (OG n f) q (TE n f (ofNat (An (λk=>AN (f k)) i)) i j)).sem=some (Xf n f (ofNat (An (λk=>AN (f k)) n)) 0)
 | 0,i,j,q+1,h,_=>by
  have:n=i:=by omega
  subst this;exact Ae (Ajx L n f _ _ j (Aw (Nat.le_refl _)))
 | e+1,i,j,q+1,h,h2=>by
  have hc:=Bm (λk=>AN (f k)) i;cases hp:AN (f i) with
  | true =>
   rw [Ae (Ajv L n f _ i j (ofNat_lt (by omega)) (AX _) hp),A6,Ap (show i<n by omega) hn,Ap (show An (λk=>AN (f k)) i<n by omega) hn,
    show An (λk=>AN (f k)) i+1=An (λk=>AN (f k)) (i+1) by rw [An,hp]]
   exact Wh L n f hn e (i+1) Aa q (by omega) (by omega)
  | false =>
   rw [Ae (Ajw L n f _ i j (ofNat_lt (by omega)) (AX _) hp),A6,Ap (show i<n by omega) hn,
    show An (λk=>AN (f k)) i=An (λk=>AN (f k)) (i+1) by rw [An,hp]]
   exact Wh L n f hn e (i+1) Aa q (by omega) (by omega)
def Xp:List V->AE
 | [v,.fn g []]=>apL v λn f=>.br (Af n) (match Nat.beq g 112,Nat.beq g 113 with
  | true,_=>out (iV (ofNat (An (λk=>AB (f k)) n)))
  | false,true=>out (iV (ofNat (An (λk=>AN (f k)) n)))
  | false,false=>.fail) .fail
 | _=>.fail
theorem p87:Ax Tryz.prog Gl 111 Xp:=by
 refine Aj A7 mixed Tryz.func111 (by kernel_rfl) (by kernel_rfl) λvs v h' h=>?_;unfold Xp at h;split at h
 ·rename_i u g
  obtain ⟨n,f,ha,h1⟩:=Co h;obtain ⟨hn,hq⟩:=Ad h1;clear h h1;have hn:n <= 4611686018427387904:=of_decide_eq_true hn;have hA:Bj [u,.fn g []] [AS n f,.fn g []]:=λS w cs hv=>by
   obtain ⟨c,l,rfl,q1,q2⟩:=hv;exact ⟨c,l,rfl,ha S w c q1,q2⟩
  split at hq
  ·rename_i h1
   have h1:=Nat.eq_of_beq_eq_true h1;subst h1;have:=Ab hq;simp only [Prod.mk.injEq] at this;obtain ⟨rfl,rfl⟩:=this;have hx:=AH NV [(0,OF n f)];have hL:=AQ [(0,OF n f)];exact ⟨_,AA Gl tbY [(0,OF n f)],[],hA,rfl,hx.1,hx.2,AP (AI hL hL) _ (Alc _ _ n f _ 0 (Az (Wg _ n f hn n 0 _ (n+1) (by omega) (by omega)))),Av.refl _⟩
  ·rename_i h2
   have h2:=Nat.eq_of_beq_eq_true h2;subst h2;have:=Ab hq;simp only [Prod.mk.injEq] at this;obtain ⟨rfl,rfl⟩:=this;have hx:=AH NV [(0,OG n f)];have hL:=AQ [(0,OG n f)];exact ⟨_,AA Gl tbY [(0,OG n f)],[],hA,rfl,hx.1,hx.2,AP (AI hL hL) _ (Ald _ _ n f _ 0 (Az (Wh _ n f hn n 0 _ (n+1) (by omega) (by omega)))),Av.refl _⟩
  ·cases hq
 ·cases h
end Go.Proofs.YtkgdhhieomndeaaGreatDoor.Ed
