/-
  Layer 11: the document's registers and code of a shape (functions 77, 76, 46, 44). No conditions.
-/
import Derived.Test.YtkgdhhieomndeaaGreatDoorShVc
import Derived.Test.YtkgdhhieomndeaaGreatDoorShJ
namespace Go.Proofs.YtkgdhhieomndeaaGreatDoor.Sh
open Go.Sy Ed
open Int (ofNat)
set_option maxHeartbeats 1000000
set_option maxRecDepth 4000
def AgT:List V->AR
 | [v,.val (.int .i64 y)]=>apS v λs=>.br (BF s.ne) (.br (BM s) (.br (ieq y 1) (.leaf (iV (BA s.arch s.ne s.E s.nx s.X s.tt s.kk s.nr s.R s.nc (λi=>(s.C i).1) (λi=>(s.C i).2)),[])) .fail) .fail) .fail
 | _=>.fail
def OC (n m:Nat) (y:Int):Bool:=Al (ile 0 y) (Al (nlt (toN y) m) (Al (Nat.ble m n) (Nat.ble m 4611686018427387904)))
def KC (g:Nat->E6) (x:Nat->Ev5) (i:Nat):Bool:=bif ilt 0 (ofNat i) then (bif ilt 0 (x i).pl then ieq (g (i-1)).kind 5 else false) else false
def Ajt:List V->AR
 | [v,.val (.int .i64 y)]=>apS v λs=>.br (OC s.ne s.nx y) (.leaf (bV (KC s.E s.X (toN y)),[])) .fail
 | _=>.fail
def rgP (x:Nat->Ev5) (i k:Nat):Bool:=Al (ieq (x k).th (x i).th) (ieq (x k).dir 1)
def rgI (x:Nat->Ev5) (i:Nat):Int:=bif ieq (x i).dir 1 then ofNat (An (rgP x i) i) else -1
def Vs:List V->AR
 | [v]=>apS v λs=>.br (BF s.ne) (.br (BM s) (.br (ieq (BA s.arch s.ne s.E s.nx s.X s.tt s.kk s.nr s.R s.nc (λi=>(s.C i).1) (λi=>(s.C i).2)) 0) (.leaf (.tup [.ref 0,iV 0],[.row 3 1 s.nx λi=>iV (rgI s.X i)]))
  (.leaf (.tup [.ref 0,iV (BA s.arch s.ne s.E s.nx s.X s.tt s.kk s.nr s.R s.nc (λi=>(s.C i).1) (λi=>(s.C i).2))],[.row 3 1 0 λ_=>.und]))) .fail) .fail
 | _=>.fail
noncomputable def Ak1:AP:=(67,Gt)::[]
theorem Adr:Av Tryz.prog Gl Ak1:=.cons Aox .nil
theorem p77:Ax Tryz.prog Gl 46 AgT:=by
 refine Am A8 mixed Tryz.func46 (by kernel_rfl) (by kernel_rfl) λvs v h' h=>?_;unfold AgT at h;split at h
 ·rename_i v1 y
  obtain ⟨s,a1,h⟩:=apS_some h;obtain ⟨hf,h⟩:=Ad h;obtain ⟨hn,h⟩:=Ad h;obtain ⟨a,n,g,m,x,t,k,p,r,q,C⟩:=s;obtain ⟨ln,co,hC⟩:∃ (ln:Nat->Nat) (co:Nat->Nat->Int),C=λu=>(ln u,co u):=⟨λu=>(C u).1,λu=>(C u).2,rfl⟩;subst hC;have hA:Bf [v1,iV y] [.agg (shL a n g m x t k p r q ln co),iV y]:=λS w cs hv=>by
   obtain ⟨c,l,rfl,q1,q2⟩:=hv;exact ⟨c,_,rfl,a1 S w c q1,q2⟩
  have hn:Aj n=true∧Aj m=true∧Aj p=true∧Aj q=true∧(AB q λi=>Aj (ln i))=true:=by simpa [BM,Al] using hn
  obtain ⟨n1,n2,n3,n4,n5⟩:=hn;obtain ⟨hy,h⟩:=Ad h;have:=Ac h;simp only [Prod.mk.injEq] at this;obtain ⟨rfl,rfl⟩:=this;have hy:=BN hy;subst hy;have hx:=AI Adr [] (G:=Gl);refine ⟨_,AC Gl Ak1 [],_,hA,rfl,hx.1,hx.2,?_,Aw.refl _⟩;show _=some (iV (BA a n g m x t k p r q ln co),_);unfold BA;cases hc:ieq (By a n g m x t k p r q ln co) 0 with
  | false=>exact Ab (ks:=[kL n,kL m,kL p,kn (CG (q:=q) (ln:=ln) () ()),kn hf,kA (kn n1) (kA (kn n2) (kA (kn n3) (kA (kn n4) (kn n5)))),kN (kn hc)]) (by kernel_rfl)
  | true =>
   cases ha:ieq a 1 with
   | false=>exact Ab (ks:=[kL n,kL m,kL p,kn (CG (q:=q) (ln:=ln) () ()),kn hf,kA (kn n1) (kA (kn n2) (kA (kn n3) (kA (kn n4) (kn n5)))),kN (kn hc),kN (kn ha)]) (by kernel_rfl)
   | true=>exact Ab (ks:=[kL n,kL m,kL p,kn (CG (q:=q) (ln:=ln) () ()),kn hf,kA (kn n1) (kA (kn n2) (kA (kn n3) (kA (kn n4) (kn n5)))),kN (kn hc),kN (kn ha)]) (by kernel_rfl)
 ·cases h
theorem Anw (L:LT) (a:Int) (n:Nat) (g:Nat->E6) (m:Nat) (x:Nat->Ev5) (t k:Int) (p:Nat) (r:Nat->Int) (q:Nat) (ln:Nat->Nat) (co:Nat->Nat->Int) (b:Nat) (h0:ilt 0 (ofNat b)=true) (h23:Al (ile 0 (ofNat b)) (ilt (ofNat b) (ofNat m))=true) (h1:ilt 0 (x b).pl=true) (h25:Al (ile 0 (wr .i64 (A5 (ofNat b) 1))) (ilt (wr .i64 (A5 (ofNat b) 1)) (ofNat n))=true):(Az (Ak tab ⟨Ap tb0,L,Gl⟩ Tryz.f44 [.agg (shL a n g m x t k p r q ln co),nV b] [])).sem=some ((bV (ieq (g (toN (wr .i64 (A5 (ofNat b) 1)))).kind 5)),[]):=by
 exact Ab (ks:=[kn h0,kn h0,kn h0,kn h0,kn h23,kn h0,kn h0,kn h0,kn h0,kn h1,kn h1,kn h1,kn h1,kn h1,kn h25,kn h1,kn h1,kn h1,kn h1]) (by kernel_rfl)
theorem p76:Ax Tryz.prog Gl 44 Ajt:=by
 refine Am A8 mixed Tryz.func44 (by kernel_rfl) (by kernel_rfl) λvs v h' h=>?_;unfold Ajt at h;split at h
 ·rename_i v1 y
  obtain ⟨s,a1,h⟩:=apS_some h;obtain ⟨a,n,g,m,x,t,k,p,r,q,C⟩:=s;obtain ⟨ln,co,hC⟩:∃ (ln:Nat->Nat) (co:Nat->Nat->Int),C=λu=>(ln u,co u):=⟨λu=>(C u).1,λu=>(C u).2,rfl⟩;subst hC;have hA:Bf [v1,iV y] [.agg (shL a n g m x t k p r q ln co),iV y]:=λS w cs hv=>by
   obtain ⟨c,l,rfl,q1,q2⟩:=hv;exact ⟨c,_,rfl,a1 S w c q1,q2⟩
  obtain ⟨hk,h⟩:=Ad h;have:=Ac h;simp only [Prod.mk.injEq] at this;obtain ⟨rfl,rfl⟩:=this;obtain ⟨h1,hk⟩:=AO hk;obtain ⟨h2,hk⟩:=AO hk;obtain ⟨h3,h4⟩:=AO hk;have h4:m <= 4611686018427387904:=Nat.le_of_ble_eq_true h4;have hy:=P4 h1;generalize toN y=b at hy h2;subst hy;have hb:b<m:=of_decide_eq_true h2;have hmn:m <= n:=Nat.le_of_ble_eq_true h3;have hin:=Ao hb;have hx:=AI C8 [] (G:=Gl);refine ⟨_,AC Gl tb0 [],_,hA,rfl,hx.1,hx.2,?_,Aw.refl _⟩;show _=some (bV (KC g x b),_);unfold KC;cases hz:ilt 0 (ofNat b) with
  | false=>exact Ab (ks:=[kn hz,kn hz,kn hz,kn hz,kn hz,kn hz,kn hz,kn hz,kF,kF,kF,kF,kF,kF,kF,kF,kF]) (by kernel_rfl)
  | true =>
   cases hp:ilt 0 (x b).pl with
   | false=>exact Ab (ks:=[kn hz,kn hz,kn hz,kn hz,kn hin,kn hz,kn hz,kn hz,kn hz,kn hp,kn hp,kn hp,kn hp,kn hp,kn hp,kn hp,kn hp,kn hp]) (by kernel_rfl)
   | true =>
    obtain ⟨c,rfl⟩:∃ c,b=c+1:=by
     cases b with
     | zero=>cases hz
     | succ c=>exact ⟨c,rfl⟩
    by_cases hcc:c<4611686018427387904
    ·have hK:wr .i64 (A5 (ofNat (c+1)) 1)=ofNat c:=MX hcc
     refine Eq.trans (Anw _ a n g m x t k p r q ln co (c+1) hz hin hp (by rw [hK]; exact Ao (by omega))) ?_;rw [hK];rfl
    ·exact absurd (show c<4611686018427387904 by omega) hcc
 ·cases h
noncomputable def tb46:AP:=(46,AgT)::[]
theorem tb46_ok:Av Tryz.prog Gl tb46:=.cons p77 .nil
theorem Akz (L:LT) (a:Int) (n:Nat) (g:Nat->E6) (m:Nat) (x:Nat->Ev5) (t k:Int) (p:Nat) (r:Nat->Int) (q:Nat) (ln:Nat->Nat) (co:Nat->Nat->Int) (h21:AB q (λi=>AB (ln i) (λ_=>true))=true) (h22:BF n=true) (h23:Aj n=true) (h24:Aj m=true) (h25:Aj p=true) (h26:Aj q=true) (h27:AB q (λi=>Aj (ln i))=true) (h28:ieq (BA a n g m x t k p r q ln (λi i_1=>co i i_1)) 0=false):(Az (Ak tab ⟨Ap tb46,L,Gl⟩ Tryz.f23 [.agg (shL a n g m x t k p r q ln co)] [])).sem=some ((.tup [.ref 0,iV (BA a n g m x t k p r q ln (λi i_1=>co i i_1))]),[.row 3 1 0 Aa]):=by
 exact Ab (ks:=[kL n,kL m,kL p,kn h21,kn h22,kA (kn h23) (kA (kn h24) (kA (kn h25) (kA (kn h26) (kn h27)))),kI 1,kN (kn h28)]) (by kernel_rfl)
def ent46 (a:Int) (n:Nat) (g:Nat->E6) (m:Nat) (x:Nat->Ev5) (t k:Int) (p:Nat) (r:Nat->Int) (q:Nat) (ln:Nat->Nat) (co:Nat->Nat->Int) :St:=⟨jsV 62 0 (λ_=>A9) [(0,.agg (shL a n g m x t k p r q ln co)),(1,.ptr 0 0),(2,.ref 1),(3,iV 0),(4,iV (BA a n g m x t k p r q ln (λi i_1=>co i i_1))),(5,.ref 2),(6,iV 0),(9,.agg (shL a n g m x t k p r q ln co)),(10,iV (BA a n g m x t k p r q ln (λi i_1=>co i i_1))),(11,iV (BA a n g m x t k p r q ln (λi i_1=>co i i_1))),(12,bV (A6 (ieq (BA a n g m x t k p r q ln (λi i_1=>co i i_1)) 0)))],[.cells (shL a n g m x t k p r q ln co),.row 3 1 0 Aa,.row 3 1 0 Aa]⟩
def Jh (a:Int) (n:Nat) (g:Nat->E6) (m:Nat) (x:Nat->Ev5) (t k:Int) (p:Nat) (r:Nat->Int) (q:Nat) (ln:Nat->Nat) (co:Nat->Nat->Int):Lp:=⟨bmK 62 0 [1,5,6],3,bmK 62 0 [1,5],3,m+1⟩
def UQ (a:Int) (n:Nat) (g:Nat->E6) (m:Nat) (x:Nat->Ev5) (t k:Int) (p:Nat) (r:Nat->Int) (q:Nat) (ln:Nat->Nat) (co:Nat->Nat->Int) (b:Nat) (y:Nat->V) (j:Nat->V):St:=⟨jsV 62 0 j [(1,.ptr 0 0),(5,.ref 2),(6,nV b)],[.cells (shL a n g m x t k p r q ln co),.row 3 1 0 Aa,.row 3 1 b y]⟩
def Ue (a:Int) (n:Nat) (g:Nat->E6) (m:Nat) (x:Nat->Ev5) (t k:Int) (p:Nat) (r:Nat->Int) (q:Nat) (ln:Nat->Nat) (co:Nat->Nat->Int) (b:Nat) (y:Nat->V):Ex×St:=(.ex 0,⟨jsV 62 0 Aa [(1,.ptr 0 0),(5,.ref 2)],[.cells (shL a n g m x t k p r q ln co),.row 3 1 0 Aa,.row 3 1 b y]⟩)
noncomputable def Mf (L:LT):St->T (Ex×St):=λst=>A7 tab ⟨Ap tb46,L,Gl⟩ (Ar Tryz.f23 0) 0 st
section
variable (L:LT) (a:Int) (n:Nat) (g:Nat->E6) (m:Nat) (x:Nat->Ev5) (t k:Int) (p:Nat) (r:Nat->Int) (q:Nat) (ln:Nat->Nat) (co:Nat->Nat->Int) (b:Nat) (y:Nat->V)  (j:Nat->V)
include L a n g m x t k p r q ln co b y j
theorem Ala (h0:ilt (ofNat b) (ofNat m)=false):Ah (Mf L) (Jh a n g m x t k p r q ln co) (UQ a n g m x t k p r q ln co b y j)=some ((.ex 0),⟨jsV 62 0 Aa [(1,.ptr 0 0),(5,.ref 2)],[.cells (shL a n g m x t k p r q ln co),.row 3 1 0 Aa,.row 3 1 b y]⟩):=by
 exact Ab (ks:=[kn h0]) (by kernel_rfl)
theorem AkY (h0:ilt (ofNat b) (ofNat m)=true) (h24:ile 0 (ofNat b)=true) (h1:ieq (x b).dir 1=false) (h25:Ba b 1 8=true):Ah (Mf L) (Jh a n g m x t k p r q ln co) (UQ a n g m x t k p r q ln co b y j)=some (.nm,⟨jsV 62 0 Aa [(1,.ptr 0 0),(5,.ref 2),(6,iV (wr .i64 (Af (ofNat b) 1)))],[.cells (shL a n g m x t k p r q ln co),.row 3 1 0 Aa,.row 3 1 (AS b 1) (As b y (iV (-1)))]⟩):=by
 exact Ab (ks:=[kn h0,kA (kn h24) (kn h0),kn h1,kn h25]) (by kernel_rfl)
end
def DX (a:Int) (n:Nat) (g:Nat->E6) (m:Nat) (x:Nat->Ev5) (t k:Int) (p:Nat) (r:Nat->Int) (q:Nat) (ln:Nat->Nat) (co:Nat->Nat->Int):Lp:=⟨bmK 62 0 [1,5,6,7,8],3,bmK 62 0 [1,5,6,7],3,m+1⟩
def L0 (a:Int) (n:Nat) (g:Nat->E6) (m:Nat) (x:Nat->Ev5) (t k:Int) (p:Nat) (r:Nat->Int) (q:Nat) (ln:Nat->Nat) (co:Nat->Nat->Int) (b:Nat) (y:Nat->V) (c i:Nat) (j:Nat->V):St:=⟨jsV 62 0 j [(1,.ptr 0 0),(5,.ref 2),(6,nV b),(7,nV c),(8,nV i)],[.cells (shL a n g m x t k p r q ln co),.row 3 1 0 Aa,.row 3 1 b y]⟩
def Nr (a:Int) (n:Nat) (g:Nat->E6) (m:Nat) (x:Nat->Ev5) (t k:Int) (p:Nat) (r:Nat->Int) (q:Nat) (ln:Nat->Nat) (co:Nat->Nat->Int) (b:Nat) (y:Nat->V) (c i:Nat):Ex×St:=(.ex 2,⟨jsV 62 0 Aa [(1,.ptr 0 0),(5,.ref 2),(6,nV b),(7,nV c)],[.cells (shL a n g m x t k p r q ln co),.row 3 1 0 Aa,.row 3 1 b y]⟩)
noncomputable def FL (L:LT):St->T (Ex×St):=λst=>A7 tab ⟨Ap tb46,L,Gl⟩ (Ar Tryz.f23 2) 2 st
section
variable (L:LT) (a:Int) (n:Nat) (g:Nat->E6) (m:Nat) (x:Nat->Ev5) (t k:Int) (p:Nat) (r:Nat->Int) (q:Nat) (ln:Nat->Nat) (co:Nat->Nat->Int) (b:Nat) (y:Nat->V) (c i:Nat)  (j:Nat->V)
include L a n g m x t k p r q ln co b y c i j
theorem AkJ (h0:ilt (ofNat i) (ofNat b)=false):Ah (FL L) (DX a n g m x t k p r q ln co) (L0 a n g m x t k p r q ln co b y c i j)=some ((.ex 2),⟨jsV 62 0 Aa [(1,.ptr 0 0),(5,.ref 2),(6,nV b),(7,nV c)],[.cells (shL a n g m x t k p r q ln co),.row 3 1 0 Aa,.row 3 1 b y]⟩):=by
 exact Ab (ks:=[kn h0]) (by kernel_rfl)
theorem AkI (h0:ilt (ofNat i) (ofNat b)=true) (h25:Al (ile 0 (ofNat i)) (ilt (ofNat i) (ofNat m))=true) (h27:Al (ile 0 (ofNat b)) (ilt (ofNat b) (ofNat m))=true) (h1:ieq (x i).th (x b).th=false):Ah (FL L) (DX a n g m x t k p r q ln co) (L0 a n g m x t k p r q ln co b y c i j)=some (.nm,⟨jsV 62 0 Aa [(1,.ptr 0 0),(5,.ref 2),(6,nV b),(7,nV c),(8,iV (wr .i64 (Af (ofNat i) 1)))],[.cells (shL a n g m x t k p r q ln co),.row 3 1 0 Aa,.row 3 1 b y]⟩):=by
 exact Ab (ks:=[kn h0,kn h25,kn h27,kn h1,kn h1,kn h1,kn h1,kn h1,kn h1,kn h1,kn h1,kF]) (by kernel_rfl)
theorem AkK (h0:ilt (ofNat i) (ofNat b)=true) (h26:Al (ile 0 (ofNat i)) (ilt (ofNat i) (ofNat m))=true) (h28:Al (ile 0 (ofNat b)) (ilt (ofNat b) (ofNat m))=true) (h1:ieq (x i).th (x b).th=true) (h2:ieq (x i).dir 1=false):Ah (FL L) (DX a n g m x t k p r q ln co) (L0 a n g m x t k p r q ln co b y c i j)=some (.nm,⟨jsV 62 0 Aa [(1,.ptr 0 0),(5,.ref 2),(6,nV b),(7,nV c),(8,iV (wr .i64 (Af (ofNat i) 1)))],[.cells (shL a n g m x t k p r q ln co),.row 3 1 0 Aa,.row 3 1 b y]⟩):=by
 exact Ab (ks:=[kn h0,kn h26,kn h28,kn h1,kn h1,kn h1,kn h1,kn h26,kn h1,kn h1,kn h1,kn h1,kn h2]) (by kernel_rfl)
theorem AkH (h0:ilt (ofNat i) (ofNat b)=true) (h26:Al (ile 0 (ofNat i)) (ilt (ofNat i) (ofNat m))=true) (h28:Al (ile 0 (ofNat b)) (ilt (ofNat b) (ofNat m))=true) (h1:ieq (x i).th (x b).th=true) (h2:ieq (x i).dir 1=true):Ah (FL L) (DX a n g m x t k p r q ln co) (L0 a n g m x t k p r q ln co b y c i j)=some (.nm,⟨jsV 62 0 Aa [(1,.ptr 0 0),(5,.ref 2),(6,nV b),(7,iV (wr .i64 (Af (ofNat c) 1))),(8,iV (wr .i64 (Af (ofNat i) 1)))],[.cells (shL a n g m x t k p r q ln co),.row 3 1 0 Aa,.row 3 1 b y]⟩):=by
 exact Ab (ks:=[kn h0,kn h26,kn h28,kn h1,kn h1,kn h1,kn h1,kn h26,kn h1,kn h1,kn h1,kn h1,kn h2]) (by kernel_rfl)
end
def Nl (a:Int) (n:Nat) (g:Nat->E6) (m:Nat) (x:Nat->Ev5) (t k:Int) (p:Nat) (r:Nat->Int) (q:Nat) (ln:Nat->Nat) (co:Nat->Nat->Int) (b:Nat) (y:Nat->V) (j:Nat->V):St:=⟨jsV 62 0 j [(1,.ptr 0 0),(5,.ref 2),(6,nV b),(7,iV 0),(8,iV 0),(14,nV b),(15,.ptr 0 2),(16,.sl 5 m (λi=>evV (x i))),(17,nV m),(18,bV (ilt (ofNat b) (ofNat m))),(21,.ptr 0 2),(22,.sl 5 m (λi=>evV (x i))),(23,nV b),(24,.pp (evV (x b))),(25,.pp (iV (x b).dir)),(26,iV (x b).dir),(27,bV (ieq (x b).dir 1))],[.cells (shL a n g m x t k p r q ln co),.row 3 1 0 Aa,.row 3 1 b y]⟩
theorem AkZ (L:LT) (p2:PT) (a:Int) (n:Nat) (g:Nat->E6) (m:Nat) (x:Nat->Ev5) (t k:Int) (p:Nat) (r:Nat->Int) (q:Nat) (ln:Nat->Nat) (co:Nat->Nat->Int) (b:Nat) (y:Nat->V) (e:Nat) (j:Nat->V) (h0:ilt (ofNat b) (ofNat m)=true) (h24:ile 0 (ofNat b)=true) (h1:ieq (x b).dir 1=true) (h25:Ba b 1 8=true) (hp2:p2 (FL (onP 2 p2 (Nr a n g m x t k p r q ln co b y e 0) L)) (Nl a n g m x t k p r q ln co b y j)=true):Ah (Mf (onP 2 p2 (Nr a n g m x t k p r q ln co b y e 0) L)) (Jh a n g m x t k p r q ln co) (UQ a n g m x t k p r q ln co b y j)=some (.nm,⟨jsV 62 0 Aa [(1,.ptr 0 0),(5,.ref 2),(6,iV (wr .i64 (Af (ofNat b) 1)))],[.cells (shL a n g m x t k p r q ln co),.row 3 1 0 Aa,.row 3 1 (AS b 1) (As b y (nV e))]⟩):=by
 exact Ab (ks:=[kn h0,kA (kn h24) (kn h0),kn h1,kn hp2,kn h25]) (by kernel_rfl)
theorem w46o (L:LT) (p0:PT) (a:Int) (n:Nat) (g:Nat->E6) (m:Nat) (x:Nat->Ev5) (t k:Int) (p:Nat) (r:Nat->Int) (q:Nat) (ln:Nat->Nat) (co:Nat->Nat->Int) (y:Nat->V) (h22:AB q (λi=>AB (ln i) (λ_=>true))=true) (h23:BF n=true) (h24:Aj n=true) (h25:Aj m=true) (h26:Aj p=true) (h27:Aj q=true) (h28:AB q (λi=>Aj (ln i))=true) (h29:ieq (BA a n g m x t k p r q ln (λi i_1=>co i i_1)) 0=true) (hp0:p0 (Mf (onP 0 p0 (Ue a n g m x t k p r q ln co m y) L)) (ent46 a n g m x t k p r q ln co)=true):(Az (Ak tab ⟨Ap tb46,onP 0 p0 (Ue a n g m x t k p r q ln co m y) L,Gl⟩ Tryz.f23 [.agg (shL a n g m x t k p r q ln co)] [])).sem=some ((.tup [.ref 0,iV 0]),[.row 3 1 m y]):=by
 exact Ab (ks:=[kL n,kL m,kL p,kn h22,kn h23,kA (kn h24) (kA (kn h25) (kA (kn h26) (kA (kn h27) (kn h28)))),kI 1,kN (kn h29),kn hp0]) (by kernel_rfl)
def yG (x:Nat->Ev5):Nat->Nat->V
 | 0=>λ_=>.und
 | b+1=>As b (yG x b) (iV (rgI x b))
theorem Zv (x:Nat->Ev5):∀ b i,i<b->yG x b i=iV (rgI x i)
 | b+1,i,h=>by
  show As b (yG x b) (iV (rgI x b)) i=_;rw [Bi];cases hb:Nat.beq i b with
  | true=>rw [Nat.eq_of_beq_eq_true hb]; rfl
  | false=>exact Zv x b i (by have:=Nat.ne_of_beq_eq_false hb; omega)
theorem VY (a:Int) (n:Nat) (g:Nat->E6) (m:Nat) (x:Nat->Ev5) (t k:Int) (p:Nat) (r:Nat->Int) (q:Nat) (ln:Nat->Nat) (co:Nat->Nat->Int) (b:Nat) (y j:Nat->V):Nl a n g m x t k p r q ln co b y j=L0 a n g m x t k p r q ln co b y 0 0 (λi=>nth (Nl a n g m x t k p r q ln co b y j).t i):=by kernel_rfl
theorem ent46_eq (a:Int) (n:Nat) (g:Nat->E6) (m:Nat) (x:Nat->Ev5) (t k:Int) (p:Nat) (r:Nat->Int) (q:Nat) (ln:Nat->Nat) (co:Nat->Nat->Int):ent46 a n g m x t k p r q ln co=UQ a n g m x t k p r q ln co 0 Aa (λi=>nth (ent46 a n g m x t k p r q ln co).t i):=by kernel_rfl
theorem Aaz (L:LT) (a:Int) (n:Nat) (g:Nat->E6) (m:Nat) (x:Nat->Ev5) (t k:Int) (p:Nat) (r:Nat->Int) (q:Nat) (ln:Nat->Nat) (co:Nat->Nat->Int) (m16:m <= 16) {b:Nat} (hb:b<m) (y:Nat->V):∀ (e i:Nat) (j:Nat->V) (u:Nat),b=i+e->e<u ->
  (A3 (FL L) (DX a n g m x t k p r q ln co) u (L0 a n g m x t k p r q ln co b y (An (rgP x b) i) i j)).sem=some (Nr a n g m x t k p r q ln co b y (An (rgP x b) b) 0)
 | 0,i,j,u+1,h,_=>by
  have:b=i:=by omega
  subst this;exact Ae (AkJ L a n g m x t k p r q ln co b y (An (rgP x b) b) b j (A1 (Nat.le_refl _)))
 | e+1,i,j,u+1,h,h2=>by
  have hi:i<b:=by omega
  have him:i<m:=by omega
  have next:=Aaz L a n g m x t k p r q ln co m16 hb y e (i+1) Aa u (by omega) (by omega)
  have hle:An (rgP x b) i <= i:=Be _ _;cases h1:ieq (x i).th (x b).th with
  | false =>
   rw [BU (p:=rgP x b) (show rgP x b i=false by unfold rgP; rw [h1]; rfl)] at next
   rw [Ae (AkI L a n g m x t k p r q ln co b y (An (rgP x b) i) i j (ofNat_lt hi) (Ao him) (Ao hb) h1),Ay,Aq hi (by omega)];exact next
  | true =>
   cases h3:ieq (x i).dir 1 with
   | false =>
    rw [BU (p:=rgP x b) (show rgP x b i=false by unfold rgP; rw [h1]; exact h3)] at next
    rw [Ae (AkK L a n g m x t k p r q ln co b y (An (rgP x b) i) i j (ofNat_lt hi) (Ao him) (Ao hb) h1 h3),Ay,Aq hi (by omega)];exact next
   | true =>
    rw [Bx (p:=rgP x b) (show rgP x b i=true by unfold rgP; rw [h1]; exact h3)] at next
    rw [Ae (AkH L a n g m x t k p r q ln co b y (An (rgP x b) i) i j (ofNat_lt hi) (Ao him) (Ao hb) h1 h3),Ay,Aq hi (by omega),Aq (n:=16) (show An (rgP x b) i<16 by omega) (by omega)];exact next
theorem run46 (M:LT) (hMM:LLe M M) (a:Int) (n:Nat) (g:Nat->E6) (m:Nat) (x:Nat->Ev5) (t k:Int) (p:Nat) (r:Nat->Int) (q:Nat) (ln:Nat->Nat) (co:Nat->Nat->Int) (m2:∀ g' st,M 2 g' st=A3 g' (DX a n g m x t k p r q ln co) (m+1) st) (m16:m <= 16):∀ (e b:Nat) (j:Nat->V) (u:Nat),m=b+e->e<u ->
  (A3 (Mf M) (Jh a n g m x t k p r q ln co) u (UQ a n g m x t k p r q ln co b (yG x b) j)).sem=some (Ue a n g m x t k p r q ln co m (yG x m))
 | 0,b,j,u+1,h,_=>by
  have:m=b:=by omega
  subst this;exact Ae (Ala M a n g m x t k p r q ln co m (yG x m) j (A1 (Nat.le_refl _)))
 | e+1,b,j,u+1,h,h2=>by
  have hb:b<m:=by omega
  have hap:Ba b 1 8=true:=BS (by omega);have next:=run46 M hMM a n g m x t k p r q ln co m2 m16 e (b+1) Aa u (by omega) (by omega)
  rw [show yG x (b+1)=As b (yG x b) (iV (rgI x b)) from rfl] at next
  unfold rgI at next
  cases hd:ieq (x b).dir 1 with
  | false =>
   rw [hd] at next
   rw [Ae (AkY M a n g m x t k p r q ln co b (yG x b) j (ofNat_lt hb) (AF _) hd hap),Ay,Aq hb (by omega)];exact next
  | true =>
   rw [hd] at next
   have hi:∀ M',(M 2 (FL M') (Nl a n g m x t k p r q ln co b (yG x b) j)).sem=some (Nr a n g m x t k p r q ln co b (yG x b) (An (rgP x b) b) 0):=λM'=>by
    rw [m2,VY];exact Aaz M' a n g m x t k p r q ln co m16 hb (yG x b) b 0 _ (m+1) (by omega) (by omega)
   have h3:=AkZ M _ a n g m x t k p r q ln co b (yG x b) (An (rgP x b) b) j (ofNat_lt hb) (AF _) hd hap (Au (hi _));have h4:Ah (Mf M) (Jh a n g m x t k p r q ln co) (UQ a n g m x t k p r q ln co b (yG x b) j)=_:=CB (l:=Jh a n g m x t k p r q ln co) (D2 (Γ:=⟨Ap tb46,M,Gl⟩) (AA hMM hMM) (Ar Tryz.f23 0) 0 (UQ a n g m x t k p r q ln co b (yG x b) j)) h3;rw [Ae h4,Ay,Aq hb (by omega)];exact next
structure IsSh (s:Sh7):Prop where
 arch:s.arch=1
 cyc:IsCycle s.arch s.ne s.E
 nx:s.nx=s.ne
 tt:s.tt=ofNat (ttN s.ne (shG s.ne s.E))
 E:∀ i,i<s.ne->s.E i=shG s.ne s.E i
 X:∀ i,i<s.ne->s.X i=evF s.ne (shG s.ne s.E) (λ_=>true) i
theorem Km (a:Int) (n:Nat) (g:Nat->E6) (m:Nat) (x:Nat->Ev5) (t k:Int) (p:Nat) (r:Nat->Int) (q:Nat) (ln:Nat->Nat) (co:Nat->Nat->Int) (h:ieq (BA a n g m x t k p r q ln co) 0=true):IsSh ⟨a,n,g,m,x,t,k,p,r,q,λu=>(ln u,co u)⟩:=by
 unfold BA at h;cases h1:ieq (By a n g m x t k p r q ln co) 0 with
 | false=>rw [h1] at h; cases h
 | true =>
  rw [h1] at h;cases h2:ieq a 1 with
  | false=>rw [h2] at h; cases h
  | true =>
   unfold By at h1;cases h3:Cp ⟨a,n,g,m,x,t,k,p,r,q,λu=>(ln u,co u)⟩ with
   | false=>rw [h3] at h1; cases h1
   | true =>
    unfold Cp at h3;obtain ⟨c1,c2⟩:=AO h3;unfold FZ at c2;obtain ⟨_,c2⟩:=AO c2;obtain ⟨c3,c2⟩:=AO c2;obtain ⟨_,c2⟩:=AO c2;obtain ⟨c4,c2⟩:=AO c2;obtain ⟨c5,c2⟩:=AO c2;obtain ⟨_,c2⟩:=AO c2;obtain ⟨_,c6⟩:=AO c2;have hnx:m=n:=Int.ofNat.inj (BN c5);subst hnx;refine ⟨BN h2,Et c1,rfl,BN c3,(HZ.1 c4).2,λi hi=>?_⟩;have:=A0.1 c6 i hi;unfold F6 at this;obtain ⟨d1,this⟩:=AO this;obtain ⟨d2,this⟩:=AO this;obtain ⟨d3,this⟩:=AO this;obtain ⟨d4,this⟩:=AO this;obtain ⟨d5,_⟩:=AO this;have d1:=BN d1;have d2:=BN d2;have d3:=BN d3;have d4:=BN d4;have d5:=BN d5;revert d1 d2 d3 d4 d5;show (x i).th=(evF m (shG m g) (λ_=>true) i).th->(x i).pl=(evF m (shG m g) (λ_=>true) i).pl->(x i).dir=(evF m (shG m g) (λ_=>true) i).dir->(x i).loc=(evF m (shG m g) (λ_=>true) i).loc->(x i).val=(evF m (shG m g) (λ_=>true) i).val->x i=evF m (shG m g) (λ_=>true) i;cases x i;cases evF m (shG m g) (λ_=>true) i
    rintro rfl rfl rfl rfl rfl
    rfl
theorem p46:Ax Tryz.prog Gl 23 Vs:=by
 refine Am A8 mixed Tryz.func23 (by kernel_rfl) (by kernel_rfl) λvs v h' h=>?_;unfold Vs at h;split at h
 ·rename_i v1
  obtain ⟨s,a1,h⟩:=apS_some h;obtain ⟨hf,h⟩:=Ad h;obtain ⟨hn,h⟩:=Ad h;obtain ⟨a,n,g,m,x,t,k,p,r,q,C⟩:=s;obtain ⟨ln,co,hC⟩:∃ (ln:Nat->Nat) (co:Nat->Nat->Int),C=λu=>(ln u,co u):=⟨λu=>(C u).1,λu=>(C u).2,rfl⟩;subst hC;have hA:Bf [v1] [.agg (shL a n g m x t k p r q ln co)]:=λS w cs hv=>by
   obtain ⟨c,l,rfl,q1,q2⟩:=hv;exact ⟨c,_,rfl,a1 S w c q1,q2⟩
  have hn:Aj n=true∧Aj m=true∧Aj p=true∧Aj q=true∧(AB q λi=>Aj (ln i))=true:=by simpa [BM,Al] using hn
  obtain ⟨n1,n2,n3,n4,n5⟩:=hn;have hx:=AI tb46_ok [(0,Jh a n g m x t k p r q ln co),(2,DX a n g m x t k p r q ln co)] (G:=Gl);have hL:=AL [(0,Jh a n g m x t k p r q ln co),(2,DX a n g m x t k p r q ln co)];cases hc:ieq (BA a n g m x t k p r q ln co) 0 with
  | false =>simp only [hc,T.sem,sel,cond_false,Option.some.injEq,Prod.mk.injEq] at h;obtain ⟨rfl,rfl⟩:=h;exact ⟨_,AC Gl tb46 [(0,Jh a n g m x t k p r q ln co),(2,DX a n g m x t k p r q ln co)],_,hA,rfl,hx.1,hx.2,Akz _ a n g m x t k p r q ln co (CG () ()) hf n1 n2 n3 n4 n5 hc,Aw.refl _⟩
  | true =>
   simp only [hc] at h;have:=Ac h;simp only [Prod.mk.injEq] at this;obtain ⟨rfl,rfl⟩:=this;have hs:=Km a n g m x t k p r q ln co hc;have hm:m=n:=hs.nx;have m16:m <= 16:=by rw [hm]; exact hs.cyc.hi
   refine ⟨_,AC Gl tb46 [(0,Jh a n g m x t k p r q ln co),(2,DX a n g m x t k p r q ln co)],[.row 3 1 m (yG x m)],hA,rfl,hx.1,hx.2,?_,?_⟩
   ·have hQ:=AA (k:=0) (r:=Ue a n g m x t k p r q ln co m (yG x m)) hL hL
    refine AH hQ _ (w46o _ _ a n g m x t k p r q ln co (yG x m) (CG () ()) hf n1 n2 n3 n4 n5 hc (Au ?_));show (A3 _ (Jh a n g m x t k p r q ln co) (m+1) (ent46 a n g m x t k p r q ln co)).sem=_;rw [ent46_eq];exact run46 _ (LO hL hL 0 _) a n g m x t k p r q ln co (λg st=>rfl) m16 m 0 _ (m+1) (by omega) (by omega)
   ·exact .one λi hi=>(Zv x m i hi).symm
 ·cases h
end Go.Proofs.YtkgdhhieomndeaaGreatDoor.Sh
namespace Go.Proofs.YtkgdhhieomndeaaGreatDoor.Sh
open Go.Sy Ed
set_option maxHeartbeats 1000000
set_option maxRecDepth 4000
end Go.Proofs.YtkgdhhieomndeaaGreatDoor.Sh
namespace Go.Proofs.YtkgdhhieomndeaaGreatDoor.Sh
open Go.Sy Ed
set_option maxHeartbeats 1000000
set_option maxRecDepth 4000
theorem Ajv (fe:Bool) (x:Ev5) (b:Nat) (W:Wr4) (i:Nat):(evW fe x b W).nx i=bif ieq x.dir 2 then W.nx i else sel (AE i (toN x.th)) (wr .i64 (Af (W.nx (toN x.th)) 1)) (W.nx i):=by
 unfold evW; cases fe <;> cases ieq x.dir 2 <;> rfl
theorem Ag8 (fe:Bool) (x:Ev5) (b:Nat) (W:Wr4) (i:Nat):(evW fe x b W).y i=bif AE i b then yvW x W else W.y i:=by
 unfold evW; cases fe <;> cases ieq x.dir 2 <;> rfl
theorem AjS (fe:Nat->Bool) (x:Nat->Ev5) {c:Nat}:∀ e,(wsF fe x (c+1+e)).y c=yvW (x c) (wsF fe x c)
 | 0=>by
  refine (Ag8 _ _ _ _ _).trans ?_;rw [Go.Sy.nbeq_self];rfl
 | e+1=>by
  refine (Ag8 (fe (c+1+e)) (x (c+1+e)) (c+1+e) (wsF fe x (c+1+e)) c).trans ?_;rw [Go.Sy.nbeq_ne (show c ≠ c+1+e by omega)];exact AjS fe x e
theorem AjL {x:Ev5} {W:Wr4} {k:Nat} (hk:k<16) (h:W.nx (toN x.th)=Int.ofNat k):yvW x W=bif ieq x.dir 2 then -1 else Int.ofNat k:=by
 unfold yvW;rw [Go.Sy.nbeq_self,h];cases ieq x.dir 2 with
 | true=>rfl
 | false =>show wr .i64 (A5 (wr .i64 (Af (Int.ofNat k) 1)) 1)=Int.ofNat k;rw [Aq (n:=16) hk (by omega)];exact MX (by omega)
end Go.Proofs.YtkgdhhieomndeaaGreatDoor.Sh
