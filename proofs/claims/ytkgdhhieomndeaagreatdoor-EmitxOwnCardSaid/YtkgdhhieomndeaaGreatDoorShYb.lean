/-
  Layer 11: the document's registers and code of a shape (functions 77, 76, 46, 44). No conditions.
-/
import Derived.Test.YtkgdhhieomndeaaGreatDoorShVc
import Derived.Test.YtkgdhhieomndeaaGreatDoorShI
namespace Go.Proofs.YtkgdhhieomndeaaGreatDoor.Sh
open Go.Sy Ed
open Int (ofNat)
set_option maxHeartbeats 1000000
set_option maxRecDepth 4000
theorem Sw {L N:LT} (hL:LLe L L) (hN:LLe N N) (k:Nat) (r:Ex×St):LLe (onP k (isP L k r) r N) (onP k (isP L k r) r N):=λid f f' st hf r' hr=>by
 unfold onP at hr ⊢;cases hk:Nat.beq id k with
 | true =>rw [hk] at hr;obtain ⟨h1,h2⟩:=Ad hr;unfold isP at h1;have h1:=@of_decide_eq_true _ (Classical.propDecidable _) h1;have h3:isP L k r f' st=true:=Az (hL k f f' st hf _ h1);show sel (isP L k r f' st) _ _=_;rw [h3];exact h2
 | false =>rw [hk] at hr;exact hN id f f' st hf _ hr
def AhY:List V->AE
 | [v,.val (.int .i64 y)]=>apS v λs=>.br (BC s.ne) (.br (BG s) (.br (ieq y 1) (.leaf (iV (B1 s.arch s.ne s.E s.nx s.X s.tt s.kk s.nr s.R s.nc (λi=>(s.C i).1) (λi=>(s.C i).2)),[])) .fail) .fail) .fail
 | _=>.fail
def Pf (n m:Nat) (y:Int):Bool:=Ao (ile 0 y) (Ao (nlt (toN y) m) (Ao (Nat.ble m n) (Nat.ble m 4611686018427387904)))
def KY (g:Nat->E6) (x:Nat->Ev5) (i:Nat):Bool:=bif ilt 0 (ofNat i) then (bif ilt 0 (x i).pl then ieq (g (i-1)).kind 5 else false) else false
def Aks:List V->AE
 | [v,.val (.int .i64 y)]=>apS v λs=>.br (Pf s.ne s.nx y) (.leaf (bV (KY s.E s.X (toN y)),[])) .fail
 | _=>.fail
def rgP (x:Nat->Ev5) (i k:Nat):Bool:=Ao (ieq (x k).th (x i).th) (ieq (x k).dir 1)
def rgI (x:Nat->Ev5) (i:Nat):Int:=bif ieq (x i).dir 1 then ofNat (An (rgP x i) i) else -1
def Wm:List V->AE
 | [v]=>apS v λs=>.br (BC s.ne) (.br (BG s) (.br (ieq (B1 s.arch s.ne s.E s.nx s.X s.tt s.kk s.nr s.R s.nc (λi=>(s.C i).1) (λi=>(s.C i).2)) 0) (.leaf (.tup [.ref 0,iV 0],[.row 3 1 s.nx λi=>iV (rgI s.X i)]))
  (.leaf (.tup [.ref 0,iV (B1 s.arch s.ne s.E s.nx s.X s.tt s.kk s.nr s.R s.nc (λi=>(s.C i).1) (λi=>(s.C i).2))],[.row 3 1 0 λ_=>.und]))) .fail) .fail
 | _=>.fail
noncomputable def AaO:AK:=(67,GE)::[]
theorem Aen:Aq Tryz.prog Gl AaO:=.cons Ap6 .nil
section
variable (L:LT) (a:Int) (n:Nat) (g:Nat->E6) (m:Nat) (x:Nat->Ev5) (t k:Int) (p:Nat) (r:Nat->Int) (q:Nat) (ln:Nat->Nat) (co:Nat->Nat->Int)
include L a n g m x t k p r q ln co
theorem Ao1 (h21:A4 q (λi=>A4 (ln i) (λ_=>true))=true) (h22:BC n=true) (h23:Af n=true) (h24:Af m=true) (h25:Af p=true) (h26:Af q=true) (h27:A4 q (λi=>Af (ln i))=true) (h28:ieq (B2 a n g m x t k p r q ln (λi i_1=>co i i_1)) 0=false):(Ay (Ai tab ⟨Am AaO,L,Gl⟩ Tryz.f46 [.agg (shL a n g m x t k p r q ln co),iV 1] [])).sem=some ((iV 70),[]):=by
 exact Ac (ks:=[kL n,kL m,kL p,kn h21,kn h22,kA (kn h23) (kA (kn h24) (kA (kn h25) (kA (kn h26) (kn h27)))),kN (kn h28)]) (by kernel_rfl)
theorem Ao2 (h22:A4 q (λi=>A4 (ln i) (λ_=>true))=true) (h23:BC n=true) (h24:Af n=true) (h25:Af m=true) (h26:Af p=true) (h27:Af q=true) (h28:A4 q (λi=>Af (ln i))=true) (h29:ieq (B2 a n g m x t k p r q ln (λi i_1=>co i i_1)) 0=true) (h0:ieq a 1=false):(Ay (Ai tab ⟨Am AaO,L,Gl⟩ Tryz.f46 [.agg (shL a n g m x t k p r q ln co),iV 1] [])).sem=some ((iV 5),[]):=by
 exact Ac (ks:=[kL n,kL m,kL p,kn h22,kn h23,kA (kn h24) (kA (kn h25) (kA (kn h26) (kA (kn h27) (kn h28)))),kN (kn h29),kN (kn h0)]) (by kernel_rfl)
theorem Ao0 (h22:A4 q (λi=>A4 (ln i) (λ_=>true))=true) (h23:BC n=true) (h24:Af n=true) (h25:Af m=true) (h26:Af p=true) (h27:Af q=true) (h28:A4 q (λi=>Af (ln i))=true) (h29:ieq (B2 a n g m x t k p r q ln (λi i_1=>co i i_1)) 0=true) (h0:ieq a 1=true):(Ay (Ai tab ⟨Am AaO,L,Gl⟩ Tryz.f46 [.agg (shL a n g m x t k p r q ln co),iV 1] [])).sem=some ((iV 0),[]):=by
 exact Ac (ks:=[kL n,kL m,kL p,kn h22,kn h23,kA (kn h24) (kA (kn h25) (kA (kn h26) (kA (kn h27) (kn h28)))),kN (kn h29),kN (kn h0)]) (by kernel_rfl)
end
theorem p77:Ax Tryz.prog Gl 46 AhY:=by
 refine Aj A7 mixed Tryz.func46 (by kernel_rfl) (by kernel_rfl) λvs v h' h=>?_;unfold AhY at h;split at h
 ·rename_i v1 y
  obtain ⟨s,a1,h⟩:=apS_some h;obtain ⟨hf,h⟩:=Ad h;obtain ⟨hn,h⟩:=Ad h;obtain ⟨a,n,g,m,x,t,k,p,r,q,C⟩:=s;obtain ⟨ln,co,hC⟩:∃ (ln:Nat->Nat) (co:Nat->Nat->Int),C=λu=>(ln u,co u):=⟨λu=>(C u).1,λu=>(C u).2,rfl⟩;subst hC;have hA:Bj [v1,iV y] [.agg (shL a n g m x t k p r q ln co),iV y]:=λS w cs hv=>by
   obtain ⟨c,l,rfl,q1,q2⟩:=hv;exact ⟨c,_,rfl,a1 S w c q1,q2⟩
  have hn:Af n=true∧Af m=true∧Af p=true∧Af q=true∧(A4 q λi=>Af (ln i))=true:=by simpa [BG,Ao] using hn
  obtain ⟨n1,n2,n3,n4,n5⟩:=hn;obtain ⟨hy,h⟩:=Ad h;have:=Ab h;simp only [Prod.mk.injEq] at this;obtain ⟨rfl,rfl⟩:=this;have hy:=BX hy;subst hy;have hx:=AH Aen [] (G:=Gl);refine ⟨_,AA Gl AaO [],_,hA,rfl,hx.1,hx.2,?_,Av.refl _⟩;show _=some (iV (B1 a n g m x t k p r q ln co),_);unfold B1;cases hc:ieq (B2 a n g m x t k p r q ln co) 0 with
  | false=>exact Ao1 _ a n g m x t k p r q ln co (CN () ()) hf n1 n2 n3 n4 n5 hc
  | true =>
   cases ha:ieq a 1 with
   | false=>exact Ao2 _ a n g m x t k p r q ln co (CN () ()) hf n1 n2 n3 n4 n5 hc ha
   | true=>exact Ao0 _ a n g m x t k p r q ln co (CN () ()) hf n1 n2 n3 n4 n5 hc ha
 ·cases h
theorem Ao3 (L:LT) (a:Int) (n:Nat) (g:Nat->E6) (m:Nat) (x:Nat->Ev5) (t k:Int) (p:Nat) (r:Nat->Int) (q:Nat) (ln:Nat->Nat) (co:Nat->Nat->Int) (b:Nat) (h0:ilt 0 (ofNat b)=true) (h23:Ao (ile 0 (ofNat b)) (ilt (ofNat b) (ofNat m))=true) (h1:ilt 0 (x b).pl=true) (h25:Ao (ile 0 (wr .i64 (AC (ofNat b) 1))) (ilt (wr .i64 (AC (ofNat b) 1)) (ofNat n))=true):(Ay (Ai tab ⟨Am tb0,L,Gl⟩ Tryz.f44 [.agg (shL a n g m x t k p r q ln co),nV b] [])).sem=some ((bV (ieq (g (toN (wr .i64 (AC (ofNat b) 1)))).kind 5)),[]):=by
 exact Ac (ks:=[kn h0,kn h0,kn h0,kn h0,kn h23,kn h0,kn h0,kn h0,kn h0,kn h1,kn h1,kn h1,kn h1,kn h1,kn h25,kn h1,kn h1,kn h1,kn h1]) (by kernel_rfl)
theorem p76:Ax Tryz.prog Gl 44 Aks:=by
 refine Aj A7 mixed Tryz.func44 (by kernel_rfl) (by kernel_rfl) λvs v h' h=>?_;unfold Aks at h;split at h
 ·rename_i v1 y
  obtain ⟨s,a1,h⟩:=apS_some h;obtain ⟨a,n,g,m,x,t,k,p,r,q,C⟩:=s;obtain ⟨ln,co,hC⟩:∃ (ln:Nat->Nat) (co:Nat->Nat->Int),C=λu=>(ln u,co u):=⟨λu=>(C u).1,λu=>(C u).2,rfl⟩;subst hC;have hA:Bj [v1,iV y] [.agg (shL a n g m x t k p r q ln co),iV y]:=λS w cs hv=>by
   obtain ⟨c,l,rfl,q1,q2⟩:=hv;exact ⟨c,_,rfl,a1 S w c q1,q2⟩
  obtain ⟨hk,h⟩:=Ad h;have:=Ab h;simp only [Prod.mk.injEq] at this;obtain ⟨rfl,rfl⟩:=this;obtain ⟨h1,hk⟩:=AO hk;obtain ⟨h2,hk⟩:=AO hk;obtain ⟨h3,h4⟩:=AO hk;have h4:m <= 4611686018427387904:=Nat.le_of_ble_eq_true h4;have hy:=Qa h1;generalize toN y=b at hy h2;subst hy;have hb:b<m:=of_decide_eq_true h2;have hmn:m <= n:=Nat.le_of_ble_eq_true h3;have hin:=Ag hb;have hx:=AH CS [] (G:=Gl);refine ⟨_,AA Gl tb0 [],_,hA,rfl,hx.1,hx.2,?_,Av.refl _⟩;show _=some (bV (KY g x b),_);unfold KY;cases hz:ilt 0 (ofNat b) with
  | false=>exact Ac (ks:=[kn hz,kn hz,kn hz,kn hz,kn hz,kn hz,kn hz,kn hz,kF,kF,kF,kF,kF,kF,kF,kF,kF]) (by kernel_rfl)/-W:w76z-/
  | true =>
   cases hp:ilt 0 (x b).pl with
   | false=>exact Ac (ks:=[kn hz,kn hz,kn hz,kn hz,kn hin,kn hz,kn hz,kn hz,kn hz,kn hp,kn hp,kn hp,kn hp,kn hp,kn hp,kn hp,kn hp,kn hp]) (by kernel_rfl)/-W:w76p-/
   | true =>
    obtain ⟨c,rfl⟩:∃ c,b=c+1:=by
     cases b with
     | zero=>cases hz
     | succ c=>exact ⟨c,rfl⟩
    by_cases hcc:c<4611686018427387904
    ·have hK:wr .i64 (AC (ofNat (c+1)) 1)=ofNat c:=Nz hcc
     refine Eq.trans (Ao3 _ a n g m x t k p r q ln co (c+1) hz hin hp (by rw [hK]; exact Ag (by omega))) ?_;rw [hK];rfl
    ·exact absurd (show c<4611686018427387904 by omega) hcc
 ·cases h
noncomputable def tb46:AK:=(46,AhY)::[]
theorem tb46_ok:Aq Tryz.prog Gl tb46:=.cons p77 .nil
theorem Al4 (L:LT) (a:Int) (n:Nat) (g:Nat->E6) (m:Nat) (x:Nat->Ev5) (t k:Int) (p:Nat) (r:Nat->Int) (q:Nat) (ln:Nat->Nat) (co:Nat->Nat->Int) (h21:A4 q (λi=>A4 (ln i) (λ_=>true))=true) (h22:BC n=true) (h23:Af n=true) (h24:Af m=true) (h25:Af p=true) (h26:Af q=true) (h27:A4 q (λi=>Af (ln i))=true) (h28:ieq (B1 a n g m x t k p r q ln (λi i_1=>co i i_1)) 0=false):(Ay (Ai tab ⟨Am tb46,L,Gl⟩ Tryz.f23 [.agg (shL a n g m x t k p r q ln co)] [])).sem=some ((.tup [.ref 0,iV (B1 a n g m x t k p r q ln (λi i_1=>co i i_1))]),[.row 3 1 0 Aa]):=by
 exact Ac (ks:=[kL n,kL m,kL p,kn h21,kn h22,kA (kn h23) (kA (kn h24) (kA (kn h25) (kA (kn h26) (kn h27)))),kI 1,kN (kn h28)]) (by kernel_rfl)
def ent46 (a:Int) (n:Nat) (g:Nat->E6) (m:Nat) (x:Nat->Ev5) (t k:Int) (p:Nat) (r:Nat->Int) (q:Nat) (ln:Nat->Nat) (co:Nat->Nat->Int) :St:=⟨jsV 62 0 (λ_=>A9) [(0,.agg (shL a n g m x t k p r q ln co)),(1,.ptr 0 0),(2,.ref 1),(3,iV 0),(4,iV (B1 a n g m x t k p r q ln (λi i_1=>co i i_1))),(5,.ref 2),(6,iV 0),(9,.agg (shL a n g m x t k p r q ln co)),(10,iV (B1 a n g m x t k p r q ln (λi i_1=>co i i_1))),(11,iV (B1 a n g m x t k p r q ln (λi i_1=>co i i_1))),(12,bV (A5 (ieq (B1 a n g m x t k p r q ln (λi i_1=>co i i_1)) 0)))],[.cells (shL a n g m x t k p r q ln co),.row 3 1 0 Aa,.row 3 1 0 Aa]⟩
def J9 (a:Int) (n:Nat) (g:Nat->E6) (m:Nat) (x:Nat->Ev5) (t k:Int) (p:Nat) (r:Nat->Int) (q:Nat) (ln:Nat->Nat) (co:Nat->Nat->Int):Lp:=⟨bmK 62 0 [1,5,6],3,bmK 62 0 [1,5],3,m+1⟩
def VL (a:Int) (n:Nat) (g:Nat->E6) (m:Nat) (x:Nat->Ev5) (t k:Int) (p:Nat) (r:Nat->Int) (q:Nat) (ln:Nat->Nat) (co:Nat->Nat->Int) (b:Nat) (y:Nat->V) (j:Nat->V):St:=⟨jsV 62 0 j [(1,.ptr 0 0),(5,.ref 2),(6,nV b)],[.cells (shL a n g m x t k p r q ln co),.row 3 1 0 Aa,.row 3 1 b y]⟩
def Va (a:Int) (n:Nat) (g:Nat->E6) (m:Nat) (x:Nat->Ev5) (t k:Int) (p:Nat) (r:Nat->Int) (q:Nat) (ln:Nat->Nat) (co:Nat->Nat->Int) (b:Nat) (y:Nat->V):Ex×St:=(.ex 0,⟨jsV 62 0 Aa [(1,.ptr 0 0),(5,.ref 2)],[.cells (shL a n g m x t k p r q ln co),.row 3 1 0 Aa,.row 3 1 b y]⟩)
noncomputable def M4 (L:LT):St->T (Ex×St):=λst=>AD tab ⟨Am tb46,L,Gl⟩ (Au Tryz.f23 0) 0 st
section
variable (L:LT) (a:Int) (n:Nat) (g:Nat->E6) (m:Nat) (x:Nat->Ev5) (t k:Int) (p:Nat) (r:Nat->Int) (q:Nat) (ln:Nat->Nat) (co:Nat->Nat->Int) (b:Nat) (y:Nat->V)  (j:Nat->V)
include L a n g m x t k p r q ln co b y j
theorem AlY (h0:ilt (ofNat b) (ofNat m)=false):Al (M4 L) (J9 a n g m x t k p r q ln co) (VL a n g m x t k p r q ln co b y j)=some ((.ex 0),⟨jsV 62 0 Aa [(1,.ptr 0 0),(5,.ref 2)],[.cells (shL a n g m x t k p r q ln co),.row 3 1 0 Aa,.row 3 1 b y]⟩):=by
 exact Ac (ks:=[kn h0]) (by kernel_rfl)
theorem AlW (h0:ilt (ofNat b) (ofNat m)=true) (h24:ile 0 (ofNat b)=true) (h1:ieq (x b).dir 1=false) (h25:Bn b 1 8=true):Al (M4 L) (J9 a n g m x t k p r q ln co) (VL a n g m x t k p r q ln co b y j)=some (.nm,⟨jsV 62 0 Aa [(1,.ptr 0 0),(5,.ref 2),(6,iV (wr .i64 (Ak (ofNat b) 1)))],[.cells (shL a n g m x t k p r q ln co),.row 3 1 0 Aa,.row 3 1 (AV b 1) (As b y (iV (-1)))]⟩):=by
 exact Ac (ks:=[kn h0,kA (kn h24) (kn h0),kn h1,kn h25]) (by kernel_rfl)
end
def E0 (a:Int) (n:Nat) (g:Nat->E6) (m:Nat) (x:Nat->Ev5) (t k:Int) (p:Nat) (r:Nat->Int) (q:Nat) (ln:Nat->Nat) (co:Nat->Nat->Int):Lp:=⟨bmK 62 0 [1,5,6,7,8],3,bmK 62 0 [1,5,6,7],3,m+1⟩
def LR (a:Int) (n:Nat) (g:Nat->E6) (m:Nat) (x:Nat->Ev5) (t k:Int) (p:Nat) (r:Nat->Int) (q:Nat) (ln:Nat->Nat) (co:Nat->Nat->Int) (b:Nat) (y:Nat->V) (c i:Nat) (j:Nat->V):St:=⟨jsV 62 0 j [(1,.ptr 0 0),(5,.ref 2),(6,nV b),(7,nV c),(8,nV i)],[.cells (shL a n g m x t k p r q ln co),.row 3 1 0 Aa,.row 3 1 b y]⟩
def NI (a:Int) (n:Nat) (g:Nat->E6) (m:Nat) (x:Nat->Ev5) (t k:Int) (p:Nat) (r:Nat->Int) (q:Nat) (ln:Nat->Nat) (co:Nat->Nat->Int) (b:Nat) (y:Nat->V) (c i:Nat):Ex×St:=(.ex 2,⟨jsV 62 0 Aa [(1,.ptr 0 0),(5,.ref 2),(6,nV b),(7,nV c)],[.cells (shL a n g m x t k p r q ln co),.row 3 1 0 Aa,.row 3 1 b y]⟩)
noncomputable def Gg (L:LT):St->T (Ex×St):=λst=>AD tab ⟨Am tb46,L,Gl⟩ (Au Tryz.f23 2) 2 st
section
variable (L:LT) (a:Int) (n:Nat) (g:Nat->E6) (m:Nat) (x:Nat->Ev5) (t k:Int) (p:Nat) (r:Nat->Int) (q:Nat) (ln:Nat->Nat) (co:Nat->Nat->Int) (b:Nat) (y:Nat->V) (c i:Nat)  (j:Nat->V)
include L a n g m x t k p r q ln co b y c i j
theorem AlJ (h0:ilt (ofNat i) (ofNat b)=false):Al (Gg L) (E0 a n g m x t k p r q ln co) (LR a n g m x t k p r q ln co b y c i j)=some ((.ex 2),⟨jsV 62 0 Aa [(1,.ptr 0 0),(5,.ref 2),(6,nV b),(7,nV c)],[.cells (shL a n g m x t k p r q ln co),.row 3 1 0 Aa,.row 3 1 b y]⟩):=by
 exact Ac (ks:=[kn h0]) (by kernel_rfl)
theorem AlI (h0:ilt (ofNat i) (ofNat b)=true) (h25:Ao (ile 0 (ofNat i)) (ilt (ofNat i) (ofNat m))=true) (h27:Ao (ile 0 (ofNat b)) (ilt (ofNat b) (ofNat m))=true) (h1:ieq (x i).th (x b).th=false):Al (Gg L) (E0 a n g m x t k p r q ln co) (LR a n g m x t k p r q ln co b y c i j)=some (.nm,⟨jsV 62 0 Aa [(1,.ptr 0 0),(5,.ref 2),(6,nV b),(7,nV c),(8,iV (wr .i64 (Ak (ofNat i) 1)))],[.cells (shL a n g m x t k p r q ln co),.row 3 1 0 Aa,.row 3 1 b y]⟩):=by
 exact Ac (ks:=[kn h0,kn h25,kn h27,kn h1,kn h1,kn h1,kn h1,kn h1,kn h1,kn h1,kn h1,kF]) (by kernel_rfl)
theorem AlK (h0:ilt (ofNat i) (ofNat b)=true) (h26:Ao (ile 0 (ofNat i)) (ilt (ofNat i) (ofNat m))=true) (h28:Ao (ile 0 (ofNat b)) (ilt (ofNat b) (ofNat m))=true) (h1:ieq (x i).th (x b).th=true) (h2:ieq (x i).dir 1=false):Al (Gg L) (E0 a n g m x t k p r q ln co) (LR a n g m x t k p r q ln co b y c i j)=some (.nm,⟨jsV 62 0 Aa [(1,.ptr 0 0),(5,.ref 2),(6,nV b),(7,nV c),(8,iV (wr .i64 (Ak (ofNat i) 1)))],[.cells (shL a n g m x t k p r q ln co),.row 3 1 0 Aa,.row 3 1 b y]⟩):=by
 exact Ac (ks:=[kn h0,kn h26,kn h28,kn h1,kn h1,kn h1,kn h1,kn h26,kn h1,kn h1,kn h1,kn h1,kn h2]) (by kernel_rfl)
theorem AlH (h0:ilt (ofNat i) (ofNat b)=true) (h26:Ao (ile 0 (ofNat i)) (ilt (ofNat i) (ofNat m))=true) (h28:Ao (ile 0 (ofNat b)) (ilt (ofNat b) (ofNat m))=true) (h1:ieq (x i).th (x b).th=true) (h2:ieq (x i).dir 1=true):Al (Gg L) (E0 a n g m x t k p r q ln co) (LR a n g m x t k p r q ln co b y c i j)=some (.nm,⟨jsV 62 0 Aa [(1,.ptr 0 0),(5,.ref 2),(6,nV b),(7,iV (wr .i64 (Ak (ofNat c) 1))),(8,iV (wr .i64 (Ak (ofNat i) 1)))],[.cells (shL a n g m x t k p r q ln co),.row 3 1 0 Aa,.row 3 1 b y]⟩):=by
 exact Ac (ks:=[kn h0,kn h26,kn h28,kn h1,kn h1,kn h1,kn h1,kn h26,kn h1,kn h1,kn h1,kn h1,kn h2]) (by kernel_rfl)
end
def ND (a:Int) (n:Nat) (g:Nat->E6) (m:Nat) (x:Nat->Ev5) (t k:Int) (p:Nat) (r:Nat->Int) (q:Nat) (ln:Nat->Nat) (co:Nat->Nat->Int) (b:Nat) (y:Nat->V) (j:Nat->V):St:=⟨jsV 62 0 j [(1,.ptr 0 0),(5,.ref 2),(6,nV b),(7,iV 0),(8,iV 0),(14,nV b),(15,.ptr 0 2),(16,.sl 5 m (λi=>evV (x i))),(17,nV m),(18,bV (ilt (ofNat b) (ofNat m))),(21,.ptr 0 2),(22,.sl 5 m (λi=>evV (x i))),(23,nV b),(24,.pp (evV (x b))),(25,.pp (iV (x b).dir)),(26,iV (x b).dir),(27,bV (ieq (x b).dir 1))],[.cells (shL a n g m x t k p r q ln co),.row 3 1 0 Aa,.row 3 1 b y]⟩
theorem AlX (L:LT) (p2:PT) (a:Int) (n:Nat) (g:Nat->E6) (m:Nat) (x:Nat->Ev5) (t k:Int) (p:Nat) (r:Nat->Int) (q:Nat) (ln:Nat->Nat) (co:Nat->Nat->Int) (b:Nat) (y:Nat->V) (e:Nat) (j:Nat->V) (h0:ilt (ofNat b) (ofNat m)=true) (h24:ile 0 (ofNat b)=true) (h1:ieq (x b).dir 1=true) (h25:Bn b 1 8=true) (hp2:p2 (Gg (onP 2 p2 (NI a n g m x t k p r q ln co b y e 0) L)) (ND a n g m x t k p r q ln co b y j)=true):Al (M4 (onP 2 p2 (NI a n g m x t k p r q ln co b y e 0) L)) (J9 a n g m x t k p r q ln co) (VL a n g m x t k p r q ln co b y j)=some (.nm,⟨jsV 62 0 Aa [(1,.ptr 0 0),(5,.ref 2),(6,iV (wr .i64 (Ak (ofNat b) 1)))],[.cells (shL a n g m x t k p r q ln co),.row 3 1 0 Aa,.row 3 1 (AV b 1) (As b y (nV e))]⟩):=by
 exact Ac (ks:=[kn h0,kA (kn h24) (kn h0),kn h1,kn hp2,kn h25]) (by kernel_rfl)
theorem w46o (L:LT) (p0:PT) (a:Int) (n:Nat) (g:Nat->E6) (m:Nat) (x:Nat->Ev5) (t k:Int) (p:Nat) (r:Nat->Int) (q:Nat) (ln:Nat->Nat) (co:Nat->Nat->Int) (y:Nat->V) (h22:A4 q (λi=>A4 (ln i) (λ_=>true))=true) (h23:BC n=true) (h24:Af n=true) (h25:Af m=true) (h26:Af p=true) (h27:Af q=true) (h28:A4 q (λi=>Af (ln i))=true) (h29:ieq (B1 a n g m x t k p r q ln (λi i_1=>co i i_1)) 0=true) (hp0:p0 (M4 (onP 0 p0 (Va a n g m x t k p r q ln co m y) L)) (ent46 a n g m x t k p r q ln co)=true):(Ay (Ai tab ⟨Am tb46,onP 0 p0 (Va a n g m x t k p r q ln co m y) L,Gl⟩ Tryz.f23 [.agg (shL a n g m x t k p r q ln co)] [])).sem=some ((.tup [.ref 0,iV 0]),[.row 3 1 m y]):=by
 exact Ac (ks:=[kL n,kL m,kL p,kn h22,kn h23,kA (kn h24) (kA (kn h25) (kA (kn h26) (kA (kn h27) (kn h28)))),kI 1,kN (kn h29),kn hp0]) (by kernel_rfl)
def yG (x:Nat->Ev5):Nat->Nat->V
 | 0=>λ_=>.und
 | b+1=>As b (yG x b) (iV (rgI x b))
theorem Aat (x:Nat->Ev5):∀ b i,i<b->yG x b i=iV (rgI x i)
 | b+1,i,h=>by
  show As b (yG x b) (iV (rgI x b)) i=_;rw [Bo];cases hb:Nat.beq i b with
  | true=>rw [Nat.eq_of_beq_eq_true hb]; rfl
  | false=>exact Aat x b i (by have:=Nat.ne_of_beq_eq_false hb; omega)
theorem WX (a:Int) (n:Nat) (g:Nat->E6) (m:Nat) (x:Nat->Ev5) (t k:Int) (p:Nat) (r:Nat->Int) (q:Nat) (ln:Nat->Nat) (co:Nat->Nat->Int) (b:Nat) (y j:Nat->V):ND a n g m x t k p r q ln co b y j=LR a n g m x t k p r q ln co b y 0 0 (λi=>nth (ND a n g m x t k p r q ln co b y j).t i):=by kernel_rfl
theorem ent46_eq (a:Int) (n:Nat) (g:Nat->E6) (m:Nat) (x:Nat->Ev5) (t k:Int) (p:Nat) (r:Nat->Int) (q:Nat) (ln:Nat->Nat) (co:Nat->Nat->Int):ent46 a n g m x t k p r q ln co=VL a n g m x t k p r q ln co 0 Aa (λi=>nth (ent46 a n g m x t k p r q ln co).t i):=by kernel_rfl
theorem Ab0 (L:LT) (a:Int) (n:Nat) (g:Nat->E6) (m:Nat) (x:Nat->Ev5) (t k:Int) (p:Nat) (r:Nat->Int) (q:Nat) (ln:Nat->Nat) (co:Nat->Nat->Int) (m16:m <= 16) {b:Nat} (hb:b<m) (y:Nat->V):∀ (e i:Nat) (j:Nat->V) (u:Nat),b=i+e->e<u ->
  (A3 (Gg L) (E0 a n g m x t k p r q ln co) u (LR a n g m x t k p r q ln co b y (An (rgP x b) i) i j)).sem=some (NI a n g m x t k p r q ln co b y (An (rgP x b) b) 0)
 | 0,i,j,u+1,h,_=>by
  have:b=i:=by omega
  subst this;exact Ae (AlJ L a n g m x t k p r q ln co b y (An (rgP x b) b) b j (Aw (Nat.le_refl _)))
 | e+1,i,j,u+1,h,h2=>by
  have hi:i<b:=by omega
  have him:i<m:=by omega
  have next:=Ab0 L a n g m x t k p r q ln co m16 hb y e (i+1) Aa u (by omega) (by omega)
  have hle:An (rgP x b) i <= i:=Bm _ _;cases h1:ieq (x i).th (x b).th with
  | false =>
   rw [Cc (p:=rgP x b) (show rgP x b i=false by unfold rgP; rw [h1]; rfl)] at next
   rw [Ae (AlI L a n g m x t k p r q ln co b y (An (rgP x b) i) i j (ofNat_lt hi) (Ag him) (Ag hb) h1),A6,Ap hi (by omega)];exact next
  | true =>
   cases h3:ieq (x i).dir 1 with
   | false =>
    rw [Cc (p:=rgP x b) (show rgP x b i=false by unfold rgP; rw [h1]; exact h3)] at next
    rw [Ae (AlK L a n g m x t k p r q ln co b y (An (rgP x b) i) i j (ofNat_lt hi) (Ag him) (Ag hb) h1 h3),A6,Ap hi (by omega)];exact next
   | true =>
    rw [B7 (p:=rgP x b) (show rgP x b i=true by unfold rgP; rw [h1]; exact h3)] at next
    rw [Ae (AlH L a n g m x t k p r q ln co b y (An (rgP x b) i) i j (ofNat_lt hi) (Ag him) (Ag hb) h1 h3),A6,Ap hi (by omega),Ap (n:=16) (show An (rgP x b) i<16 by omega) (by omega)];exact next
theorem run46 (M:LT) (hMM:LLe M M) (a:Int) (n:Nat) (g:Nat->E6) (m:Nat) (x:Nat->Ev5) (t k:Int) (p:Nat) (r:Nat->Int) (q:Nat) (ln:Nat->Nat) (co:Nat->Nat->Int) (m2:∀ g' st,M 2 g' st=A3 g' (E0 a n g m x t k p r q ln co) (m+1) st) (m16:m <= 16):∀ (e b:Nat) (j:Nat->V) (u:Nat),m=b+e->e<u ->
  (A3 (M4 M) (J9 a n g m x t k p r q ln co) u (VL a n g m x t k p r q ln co b (yG x b) j)).sem=some (Va a n g m x t k p r q ln co m (yG x m))
 | 0,b,j,u+1,h,_=>by
  have:m=b:=by omega
  subst this;exact Ae (AlY M a n g m x t k p r q ln co m (yG x m) j (Aw (Nat.le_refl _)))
 | e+1,b,j,u+1,h,h2=>by
  have hb:b<m:=by omega
  have hap:Bn b 1 8=true:=C0 (by omega);have next:=run46 M hMM a n g m x t k p r q ln co m2 m16 e (b+1) Aa u (by omega) (by omega)
  rw [show yG x (b+1)=As b (yG x b) (iV (rgI x b)) from rfl] at next
  unfold rgI at next
  cases hd:ieq (x b).dir 1 with
  | false =>
   rw [hd] at next
   rw [Ae (AlW M a n g m x t k p r q ln co b (yG x b) j (ofNat_lt hb) (AX _) hd hap),A6,Ap hb (by omega)];exact next
  | true =>
   rw [hd] at next
   have hi:∀ M',(M 2 (Gg M') (ND a n g m x t k p r q ln co b (yG x b) j)).sem=some (NI a n g m x t k p r q ln co b (yG x b) (An (rgP x b) b) 0):=λM'=>by
    rw [m2,WX];exact Ab0 M' a n g m x t k p r q ln co m16 hb (yG x b) b 0 _ (m+1) (by omega) (by omega)
   have h3:=AlX M _ a n g m x t k p r q ln co b (yG x b) (An (rgP x b) b) j (ofNat_lt hb) (AX _) hd hap (Az (hi _));have h4:Al (M4 M) (J9 a n g m x t k p r q ln co) (VL a n g m x t k p r q ln co b (yG x b) j)=_:=Hi (l:=J9 a n g m x t k p r q ln co) (Gd (Γ:=⟨Am tb46,M,Gl⟩) (AI hMM hMM) (Au Tryz.f23 0) 0 (VL a n g m x t k p r q ln co b (yG x b) j)) h3;rw [Ae h4,A6,Ap hb (by omega)];exact next
structure IsSh (s:Sh7):Prop where
 arch:s.arch=1
 cyc:IsCycle s.arch s.ne s.E
 nx:s.nx=s.ne
 tt:s.tt=ofNat (ttN s.ne (shG s.ne s.E))
 E:∀ i,i<s.ne->s.E i=shG s.ne s.E i
 X:∀ i,i<s.ne->s.X i=evF s.ne (shG s.ne s.E) (λ_=>true) i
theorem K5 (a:Int) (n:Nat) (g:Nat->E6) (m:Nat) (x:Nat->Ev5) (t k:Int) (p:Nat) (r:Nat->Int) (q:Nat) (ln:Nat->Nat) (co:Nat->Nat->Int) (h:ieq (B1 a n g m x t k p r q ln co) 0=true):IsSh ⟨a,n,g,m,x,t,k,p,r,q,λu=>(ln u,co u)⟩:=by
 unfold B1 at h;cases h1:ieq (B2 a n g m x t k p r q ln co) 0 with
 | false=>rw [h1] at h; cases h
 | true =>
  rw [h1] at h;cases h2:ieq a 1 with
  | false=>rw [h2] at h; cases h
  | true =>
   unfold B2 at h1;cases h3:Cj ⟨a,n,g,m,x,t,k,p,r,q,λu=>(ln u,co u)⟩ with
   | false=>rw [h3] at h1; cases h1
   | true =>
    unfold Cj at h3;obtain ⟨c1,c2⟩:=AO h3;unfold Fv at c2;obtain ⟨_,c2⟩:=AO c2;obtain ⟨c3,c2⟩:=AO c2;obtain ⟨_,c2⟩:=AO c2;obtain ⟨c4,c2⟩:=AO c2;obtain ⟨c5,c2⟩:=AO c2;obtain ⟨_,c2⟩:=AO c2;obtain ⟨_,c6⟩:=AO c2;have hnx:m=n:=Int.ofNat.inj (BX c5);subst hnx;refine ⟨BX h2,Bl c1,rfl,BX c3,(I7.1 c4).2,λi hi=>?_⟩;have:=A0.1 c6 i hi;unfold FM at this;obtain ⟨d1,this⟩:=AO this;obtain ⟨d2,this⟩:=AO this;obtain ⟨d3,this⟩:=AO this;obtain ⟨d4,this⟩:=AO this;obtain ⟨d5,_⟩:=AO this;have d1:=BX d1;have d2:=BX d2;have d3:=BX d3;have d4:=BX d4;have d5:=BX d5;revert d1 d2 d3 d4 d5;show (x i).th=(evF m (shG m g) (λ_=>true) i).th->(x i).pl=(evF m (shG m g) (λ_=>true) i).pl->(x i).dir=(evF m (shG m g) (λ_=>true) i).dir->(x i).loc=(evF m (shG m g) (λ_=>true) i).loc->(x i).val=(evF m (shG m g) (λ_=>true) i).val->x i=evF m (shG m g) (λ_=>true) i;cases x i;cases evF m (shG m g) (λ_=>true) i
    rintro rfl rfl rfl rfl rfl
    rfl
theorem p46:Ax Tryz.prog Gl 23 Wm:=by
 refine Aj A7 mixed Tryz.func23 (by kernel_rfl) (by kernel_rfl) λvs v h' h=>?_;unfold Wm at h;split at h
 ·rename_i v1
  obtain ⟨s,a1,h⟩:=apS_some h;obtain ⟨hf,h⟩:=Ad h;obtain ⟨hn,h⟩:=Ad h;obtain ⟨a,n,g,m,x,t,k,p,r,q,C⟩:=s;obtain ⟨ln,co,hC⟩:∃ (ln:Nat->Nat) (co:Nat->Nat->Int),C=λu=>(ln u,co u):=⟨λu=>(C u).1,λu=>(C u).2,rfl⟩;subst hC;have hA:Bj [v1] [.agg (shL a n g m x t k p r q ln co)]:=λS w cs hv=>by
   obtain ⟨c,l,rfl,q1,q2⟩:=hv;exact ⟨c,_,rfl,a1 S w c q1,q2⟩
  have hn:Af n=true∧Af m=true∧Af p=true∧Af q=true∧(A4 q λi=>Af (ln i))=true:=by simpa [BG,Ao] using hn
  obtain ⟨n1,n2,n3,n4,n5⟩:=hn;have hx:=AH tb46_ok [(0,J9 a n g m x t k p r q ln co),(2,E0 a n g m x t k p r q ln co)] (G:=Gl);have hL:=AQ [(0,J9 a n g m x t k p r q ln co),(2,E0 a n g m x t k p r q ln co)];cases hc:ieq (B1 a n g m x t k p r q ln co) 0 with
  | false =>simp only [hc,T.sem,sel,cond_false,Option.some.injEq,Prod.mk.injEq] at h;obtain ⟨rfl,rfl⟩:=h;exact ⟨_,AA Gl tb46 [(0,J9 a n g m x t k p r q ln co),(2,E0 a n g m x t k p r q ln co)],_,hA,rfl,hx.1,hx.2,Al4 _ a n g m x t k p r q ln co (CN () ()) hf n1 n2 n3 n4 n5 hc,Av.refl _⟩
  | true =>
   simp only [hc] at h;have:=Ab h;simp only [Prod.mk.injEq] at this;obtain ⟨rfl,rfl⟩:=this;have hs:=K5 a n g m x t k p r q ln co hc;have hm:m=n:=hs.nx;have m16:m <= 16:=by rw [hm]; exact hs.cyc.hi
   refine ⟨_,AA Gl tb46 [(0,J9 a n g m x t k p r q ln co),(2,E0 a n g m x t k p r q ln co)],[.row 3 1 m (yG x m)],hA,rfl,hx.1,hx.2,?_,?_⟩
   ·have hQ:=AI (k:=0) (r:=Va a n g m x t k p r q ln co m (yG x m)) hL hL
    refine AP hQ _ (w46o _ _ a n g m x t k p r q ln co (yG x m) (CN () ()) hf n1 n2 n3 n4 n5 hc (Az ?_));show (A3 _ (J9 a n g m x t k p r q ln co) (m+1) (ent46 a n g m x t k p r q ln co)).sem=_;rw [ent46_eq];exact run46 _ (Sw hL hL 0 _) a n g m x t k p r q ln co (λg st=>rfl) m16 m 0 _ (m+1) (by omega) (by omega)
   ·exact .one λi hi=>(Aat x m i hi).symm
 ·cases h
end Go.Proofs.YtkgdhhieomndeaaGreatDoor.Sh
namespace Go.Proofs.YtkgdhhieomndeaaGreatDoor.Sh
open Go.Sy Ed
set_option maxHeartbeats 1000000
set_option maxRecDepth 4000
end Go.Proofs.YtkgdhhieomndeaaGreatDoor.Sh
namespace Go.Proofs.YtkgdhhieomndeaaGreatDoor.Sh
open Go.Sy Ed
set_option maxHeartbeats 1000000
set_option maxRecDepth 4000
theorem Aku (fe:Bool) (x:Ev5) (b:Nat) (W:Wr4) (i:Nat):(evW fe x b W).nx i=bif ieq x.dir 2 then W.nx i else sel (AW i (toN x.th)) (wr .i64 (Ak (W.nx (toN x.th)) 1)) (W.nx i):=by
 unfold evW; cases fe <;> cases ieq x.dir 2 <;> rfl
theorem AhE (fe:Bool) (x:Ev5) (b:Nat) (W:Wr4) (i:Nat):(evW fe x b W).y i=bif AW i b then yvW x W else W.y i:=by
 unfold evW; cases fe <;> cases ieq x.dir 2 <;> rfl
theorem AkV (fe:Nat->Bool) (x:Nat->Ev5) {c:Nat}:∀ e,(wsF fe x (c+1+e)).y c=yvW (x c) (wsF fe x c)
 | 0=>by
  refine (AhE _ _ _ _ _).trans ?_;rw [Go.Sy.nbeq_self];rfl
 | e+1=>by
  refine (AhE (fe (c+1+e)) (x (c+1+e)) (c+1+e) (wsF fe x (c+1+e)) c).trans ?_;rw [Go.Sy.nbeq_ne (show c ≠ c+1+e by omega)];exact AkV fe x e
theorem AkN {x:Ev5} {W:Wr4} {k:Nat} (hk:k<16) (h:W.nx (toN x.th)=Int.ofNat k):yvW x W=bif ieq x.dir 2 then -1 else Int.ofNat k:=by
 unfold yvW;rw [Go.Sy.nbeq_self,h];cases ieq x.dir 2 with
 | true=>rfl
 | false =>show wr .i64 (AC (wr .i64 (Ak (Int.ofNat k) 1)) 1)=Int.ofNat k;rw [Ap (n:=16) hk (by omega)];exact Nz (by omega)
end Go.Proofs.YtkgdhhieomndeaaGreatDoor.Sh
