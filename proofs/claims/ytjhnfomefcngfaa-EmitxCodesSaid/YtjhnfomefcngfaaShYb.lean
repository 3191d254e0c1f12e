/-
  Layer 11: the document's registers and code of a shape (functions 77, 76, 46, 44). No conditions.
-/
import Derived.Test.YtjhnfomefcngfaaShVc
import Derived.Test.YtjhnfomefcngfaaShZs
namespace Go.Proofs.Ytjhnfomefcngfaa.Sh
open Go.Sy Ed
open Int (ofNat)
set_option maxHeartbeats 1000000
set_option maxRecDepth 4000
def AeK:List V->T (V × List Blk)
 | [v,.val (.int .i64 y)]=>apS v λs=>.br (Bj s.ne) (.br (CH s) (.br (ieq y 1) (.leaf (iV (Bf s.arch s.ne s.E s.nx s.X s.tt s.kk s.nr s.R s.nc (λi=>(s.C i).1) (λi=>(s.C i).2)),[])) .fail) .fail) .fail
 | _=>.fail
def Ox (n m:Nat) (y:Int):Bool:=Ak (ile 0 y) (Ak (nlt (toN y) m) (Ak (Nat.ble m n) (Nat.ble m 4611686018427387904)))
def K7 (g:Nat->E6) (x:Nat->Ev5) (i:Nat):Bool:=bif ilt 0 (ofNat i) then (bif ilt 0 (x i).pl then ieq (g (i - 1)).kind 5 else false) else false
def Aie:List V->T (V × List Blk)
 | [v,.val (.int .i64 y)]=>apS v λs=>.br (Ox s.ne s.nx y) (.leaf (bV (K7 s.E s.X (toN y)),[])) .fail
 | _=>.fail
def rgP (x:Nat->Ev5) (i k:Nat):Bool:=Ak (ieq (x k).th (x i).th) (ieq (x k).dir 1)
def rgI (x:Nat->Ev5) (i:Nat):Int:=bif ieq (x i).dir 1 then ofNat (Al (rgP x i) i) else -1
def U9:List V->T (V × List Blk)
 | [v]=>apS v λs=>.br (Bj s.ne) (.br (CH s) (.br (ieq (Bf s.arch s.ne s.E s.nx s.X s.tt s.kk s.nr s.R s.nc (λi=>(s.C i).1) (λi=>(s.C i).2)) 0) (.leaf (.tup [.ref 0,iV 0],[.row 3 1 s.nx λi=>iV (rgI s.X i)]))
  (.leaf (.tup [.ref 0,iV (Bf s.arch s.ne s.E s.nx s.X s.tt s.kk s.nr s.R s.nc (λi=>(s.C i).1) (λi=>(s.C i).2))],[.row 3 1 0 λ_=>.und]))) .fail) .fail
 | _=>.fail
noncomputable def YA:List (Nat × (List V->T (V × List Blk))):=[(39,KP)]
theorem AbN:AA Try.prog Gl YA:=.cons Ano .nil
section
variable (L:LT) (a:Int) (n:Nat) (g:Nat->E6) (m:Nat) (x:Nat->Ev5) (t k:Int) (p:Nat) (r:Nat->Int) (q:Nat) (ln:Nat->Nat) (co:Nat->Nat->Int)
include L a n g m x t k p r q ln co
theorem Ami (h21:A5 q (λi=>(A5 (ln i) (λ_=>true))) = true) (h22:Bj n = true) (h23:Ag n = true) (h24:Ag m = true) (h25:Ag p = true) (h26:Ag q = true) (h27:A5 q (λi=>(Ag (ln i))) = true) (h28:ieq (EU a n g m x t k p r q ln (λi i_1=>(co i i_1))) 0 = false):(Ar (Ai tab ⟨Am YA,L,Gl⟩ Try.f77 [.agg (shL a n g m x t k p r q ln co),iV 1] [])).sem = some ((iV 70),[]):=by
 exact Aa (ks:=[kL n,kL m,kL p,kn h21,kn h22,kA (kn h23) (kA (kn h24) (kA (kn h25) (kA (kn h26) (kn h27)))),kN (kn h28)]) (by kernel_rfl)
theorem Amj (h22:A5 q (λi=>(A5 (ln i) (λ_=>true))) = true) (h23:Bj n = true) (h24:Ag n = true) (h25:Ag m = true) (h26:Ag p = true) (h27:Ag q = true) (h28:A5 q (λi=>(Ag (ln i))) = true) (h29:ieq (EU a n g m x t k p r q ln (λi i_1=>(co i i_1))) 0 = true) (h0:ieq a 1 = false):(Ar (Ai tab ⟨Am YA,L,Gl⟩ Try.f77 [.agg (shL a n g m x t k p r q ln co),iV 1] [])).sem = some ((iV 5),[]):=by
 exact Aa (ks:=[kL n,kL m,kL p,kn h22,kn h23,kA (kn h24) (kA (kn h25) (kA (kn h26) (kA (kn h27) (kn h28)))),kN (kn h29),kN (kn h0)]) (by kernel_rfl)
theorem Amh (h22:A5 q (λi=>(A5 (ln i) (λ_=>true))) = true) (h23:Bj n = true) (h24:Ag n = true) (h25:Ag m = true) (h26:Ag p = true) (h27:Ag q = true) (h28:A5 q (λi=>(Ag (ln i))) = true) (h29:ieq (EU a n g m x t k p r q ln (λi i_1=>(co i i_1))) 0 = true) (h0:ieq a 1 = true):(Ar (Ai tab ⟨Am YA,L,Gl⟩ Try.f77 [.agg (shL a n g m x t k p r q ln co),iV 1] [])).sem = some ((iV 0),[]):=by
 exact Aa (ks:=[kL n,kL m,kL p,kn h22,kn h23,kA (kn h24) (kA (kn h25) (kA (kn h26) (kA (kn h27) (kn h28)))),kN (kn h29),kN (kn h0)]) (by kernel_rfl)
end
theorem p77:A7 Try.prog Gl 77 AeK:=by
 refine Av AL AN Try.func77 (by kernel_rfl) (by kernel_rfl) λvs v h' h=>?_
 unfold AeK at h
 split at h
 ·rename_i v1 y
  obtain ⟨s,a1,h⟩:=BI h
  obtain ⟨hf,h⟩:=Ad h
  obtain ⟨hn,h⟩:=Ad h
  obtain ⟨a,n,g,m,x,t,k,p,r,q,C⟩:=s
  obtain ⟨ln,co,hC⟩:∃ (ln:Nat->Nat) (co:Nat->Nat->Int),C = λu=>(ln u,co u):=⟨λu=>(C u).1,λu=>(C u).2,rfl⟩
  subst hC
  have hA:Bp [v1,iV y] [.agg (shL a n g m x t k p r q ln co),iV y]:=λS w cs hv=>by
   obtain ⟨c,l,rfl,q1,q2⟩:=hv
   exact ⟨c,_,rfl,a1 S w c q1,q2⟩
  have hn:Ag n = true ∧ Ag m = true ∧ Ag p = true ∧ Ag q = true ∧ (A5 q λi=>Ag (ln i)) = true:=by simpa [CH,Ak] using hn
  obtain ⟨n1,n2,n3,n4,n5⟩:=hn
  obtain ⟨hy,h⟩:=Ad h
  have:=Ac h
  simp only [Prod.mk.injEq] at this
  obtain ⟨rfl,rfl⟩:=this
  have hy:=BB hy
  subst hy
  have hx:=AO AbN [] (G:=Gl)
  refine ⟨_,AI Gl YA [],_,hA,rfl,hx.1,hx.2,?_,A8.refl _⟩
  show _ = some (iV (Bf a n g m x t k p r q ln co),_)
  unfold Bf
  cases hc:ieq (EU a n g m x t k p r q ln co) 0 with
  | false=>exact Ami _ a n g m x t k p r q ln co (C4 () ()) hf n1 n2 n3 n4 n5 hc
  | true =>
   cases ha:ieq a 1 with
   | false=>exact Amj _ a n g m x t k p r q ln co (C4 () ()) hf n1 n2 n3 n4 n5 hc ha
   | true=>exact Amh _ a n g m x t k p r q ln co (C4 () ()) hf n1 n2 n3 n4 n5 hc ha
 ·cases h
section
variable (L:LT) (a:Int) (n:Nat) (g:Nat->E6) (m:Nat) (x:Nat->Ev5) (t k:Int) (p:Nat) (r:Nat->Int) (q:Nat) (ln:Nat->Nat) (co:Nat->Nat->Int) (b:Nat)
include L a n g m x t k p r q ln co b
theorem Amk (h0:ilt 0 (ofNat b) = false):(Ar (Ai tab ⟨Am tb0,L,Gl⟩ Try.f76 [.agg (shL a n g m x t k p r q ln co),nV b] [])).sem = some ((bV false),[]):=by
 exact Aa (ks:=[kn h0,kn h0,kn h0,kn h0,kn h0,kn h0,kn h0,kn h0,kF,kF,kF,kF,kF,kF,kF,kF,kF]) (by kernel_rfl)
theorem Aml (h0:ilt 0 (ofNat b) = true) (h23:Ak (ile 0 (ofNat b)) (ilt (ofNat b) (ofNat m)) = true) (h1:ilt 0 ((x b)).pl = false):(Ar (Ai tab ⟨Am tb0,L,Gl⟩ Try.f76 [.agg (shL a n g m x t k p r q ln co),nV b] [])).sem = some ((bV false),[]):=by
 exact Aa (ks:=[kn h0,kn h0,kn h0,kn h0,kn h23,kn h0,kn h0,kn h0,kn h0,kn h1,kn h1,kn h1,kn h1,kn h1,kn h1,kn h1,kn h1,kn h1]) (by kernel_rfl)
theorem Amm (h0:ilt 0 (ofNat b) = true) (h23:Ak (ile 0 (ofNat b)) (ilt (ofNat b) (ofNat m)) = true) (h1:ilt 0 ((x b)).pl = true) (h25:Ak (ile 0 (wr .i64 (AK (ofNat b) 1))) (ilt (wr .i64 (AK (ofNat b) 1)) (ofNat n)) = true):(Ar (Ai tab ⟨Am tb0,L,Gl⟩ Try.f76 [.agg (shL a n g m x t k p r q ln co),nV b] [])).sem = some ((bV (ieq ((g (toN (wr .i64 (AK (ofNat b) 1))))).kind 5)),[]):=by
 exact Aa (ks:=[kn h0,kn h0,kn h0,kn h0,kn h23,kn h0,kn h0,kn h0,kn h0,kn h1,kn h1,kn h1,kn h1,kn h1,kn h25,kn h1,kn h1,kn h1,kn h1]) (by kernel_rfl)
end
theorem p76:A7 Try.prog Gl 76 Aie:=by
 refine Av AL AN Try.func76 (by kernel_rfl) (by kernel_rfl) λvs v h' h=>?_
 unfold Aie at h
 split at h
 ·rename_i v1 y
  obtain ⟨s,a1,h⟩:=BI h
  obtain ⟨a,n,g,m,x,t,k,p,r,q,C⟩:=s
  obtain ⟨ln,co,hC⟩:∃ (ln:Nat->Nat) (co:Nat->Nat->Int),C = λu=>(ln u,co u):=⟨λu=>(C u).1,λu=>(C u).2,rfl⟩
  subst hC
  have hA:Bp [v1,iV y] [.agg (shL a n g m x t k p r q ln co),iV y]:=λS w cs hv=>by
   obtain ⟨c,l,rfl,q1,q2⟩:=hv
   exact ⟨c,_,rfl,a1 S w c q1,q2⟩
  obtain ⟨hk,h⟩:=Ad h
  have:=Ac h
  simp only [Prod.mk.injEq] at this
  obtain ⟨rfl,rfl⟩:=this
  obtain ⟨h1,hk⟩:=AR hk
  obtain ⟨h2,hk⟩:=AR hk
  obtain ⟨h3,h4⟩:=AR hk
  have h4:m <= 4611686018427387904:=Nat.le_of_ble_eq_true h4
  have hy:=Pj h1
  generalize toN y = b at hy h2
  subst hy
  have hb:b < m:=of_decide_eq_true h2
  have hmn:m <= n:=Nat.le_of_ble_eq_true h3
  have hin:=Ap hb
  have hx:=AO C9 [] (G:=Gl)
  refine ⟨_,AI Gl tb0 [],_,hA,rfl,hx.1,hx.2,?_,A8.refl _⟩
  show _ = some (bV (K7 g x b),_)
  unfold K7
  cases hz:ilt 0 (ofNat b) with
  | false=>exact Amk _ a n g m x t k p r q ln co b hz
  | true =>
   cases hp:ilt 0 (x b).pl with
   | false=>exact Aml _ a n g m x t k p r q ln co b hz hin hp
   | true =>
    obtain ⟨c,rfl⟩:∃ c,b = c+1:=by
     cases b with
     | zero=>cases hz
     | succ c=>exact ⟨c,rfl⟩
    by_cases hcc:c < 4611686018427387904
    ·have hK:wr .i64 (AK (ofNat (c+1)) 1) = ofNat c:=QI hcc
     refine Eq.trans (Amm _ a n g m x t k p r q ln co (c+1) hz hin hp (by rw [hK]; exact Ap (by omega))) ?_
     rw [hK]
     rfl
    ·exact absurd (show c < 4611686018427387904 by omega) hcc
 ·cases h
noncomputable def OW:List (Nat × (List V->T (V × List Blk))):=[(77,AeK)]
theorem VM:AA Try.prog Gl OW:=.cons p77 .nil
theorem Ajl (L:LT) (a:Int) (n:Nat) (g:Nat->E6) (m:Nat) (x:Nat->Ev5) (t k:Int) (p:Nat) (r:Nat->Int) (q:Nat) (ln:Nat->Nat) (co:Nat->Nat->Int) (h21:A5 q (λi=>(A5 (ln i) (λ_=>true))) = true) (h22:Bj n = true) (h23:Ag n = true) (h24:Ag m = true) (h25:Ag p = true) (h26:Ag q = true) (h27:A5 q (λi=>(Ag (ln i))) = true) (h28:ieq (Bf a n g m x t k p r q ln (λi i_1=>(co i i_1))) 0 = false):(Ar (Ai tab ⟨Am OW,L,Gl⟩ Try.f46 [.agg (shL a n g m x t k p r q ln co)] [])).sem = some ((.tup [(.ref 0),(iV (Bf a n g m x t k p r q ln (λi i_1=>(co i i_1))))]),[r3Z]):=by
 exact Aa (ks:=[kL n,kL m,kL p,kn h21,kn h22,kA (kn h23) (kA (kn h24) (kA (kn h25) (kA (kn h26) (kn h27)))),kI 1,kN (kn h28)]) (by kernel_rfl)
def T1 (a:Int) (n:Nat) (g:Nat->E6) (m:Nat) (x:Nat->Ev5) (t k:Int) (p:Nat) (r:Nat->Int) (q:Nat) (ln:Nat->Nat) (co:Nat->Nat->Int) :St:=⟨(jsV 62 0 (λ_=>A9) [(0,(.agg (shL a n g m x t k p r q ln co))),(1,(.ptr 0 0)),(2,(.ref 1)),(3,(iV 0)),(4,(iV (Bf a n g m x t k p r q ln (λi i_1=>co i i_1)))),(5,(.ref 2)),(6,(iV 0)),(9,(.agg (shL a n g m x t k p r q ln co))),(10,(iV (Bf a n g m x t k p r q ln (λi i_1=>co i i_1)))),(11,(iV (Bf a n g m x t k p r q ln (λi i_1=>co i i_1)))),(12,(bV (AG (ieq (Bf a n g m x t k p r q ln (λi i_1=>co i i_1)) 0))))]),[.cells (shL a n g m x t k p r q ln co),r3Z,r3Z]⟩
def Jf (a:Int) (n:Nat) (g:Nat->E6) (m:Nat) (x:Nat->Ev5) (t k:Int) (p:Nat) (r:Nat->Int) (q:Nat) (ln:Nat->Nat) (co:Nat->Nat->Int):Lp:=⟨(bmK 62 0 [1,5,6]),3,bmK 62 0 [1,5],3,m+1⟩
def Uj (a:Int) (n:Nat) (g:Nat->E6) (m:Nat) (x:Nat->Ev5) (t k:Int) (p:Nat) (r:Nat->Int) (q:Nat) (ln:Nat->Nat) (co:Nat->Nat->Int) (b:Nat) (y:Nat->V) (j:Nat->V):St:=⟨(jsV 62 0 j [(1,.ptr 0 0),(5,.ref 2),(6,nV b)]),[.cells (shL a n g m x t k p r q ln co),r3Z,.row 3 1 b y]⟩
def T3 (a:Int) (n:Nat) (g:Nat->E6) (m:Nat) (x:Nat->Ev5) (t k:Int) (p:Nat) (r:Nat->Int) (q:Nat) (ln:Nat->Nat) (co:Nat->Nat->Int) (b:Nat) (y:Nat->V):Ex × St:=(.ex 0,⟨(jsV 62 0 (λ_=>.und) [(1,.ptr 0 0),(5,.ref 2)]),[.cells (shL a n g m x t k p r q ln co),r3Z,.row 3 1 b y]⟩)
noncomputable def LS (L:LT):St->T (Ex × St):=λst=>AC tab ⟨Am OW,L,Gl⟩ (Au Try.f46 0) 0 st
section
variable (L:LT) (a:Int) (n:Nat) (g:Nat->E6) (m:Nat) (x:Nat->Ev5) (t k:Int) (p:Nat) (r:Nat->Int) (q:Nat) (ln:Nat->Nat) (co:Nat->Nat->Int) (b:Nat) (y:Nat->V)  (j:Nat->V)
include L a n g m x t k p r q ln co b y j
theorem AjZ (h0:ilt (ofNat b) (ofNat m) = false):Ah (LS L) (Jf a n g m x t k p r q ln co) (Uj a n g m x t k p r q ln co b y j) = some ((.ex 0),⟨(jsV 62 0 (λ_=>.und) [(1,(.ptr 0 0)),(5,(.ref 2))]),[(.cells (shL a n g m x t k p r q ln co)),r3Z,(.row 3 1 b y)]⟩):=by
 exact Aa (ks:=[kn h0]) (by kernel_rfl)
theorem AjX (h0:ilt (ofNat b) (ofNat m) = true) (h24:ile 0 (ofNat b) = true) (h1:ieq ((x b)).dir 1 = false) (h25:AY b 1 8 = true):Ah (LS L) (Jf a n g m x t k p r q ln co) (Uj a n g m x t k p r q ln co b y j) = some (.nm,⟨(jsV 62 0 (λ_=>.und) [(1,(.ptr 0 0)),(5,(.ref 2)),(6,(iV (wr .i64 (Af (ofNat b) 1))))]),[(.cells (shL a n g m x t k p r q ln co)),r3Z,(.row 3 1 (AQ b 1) (A1 b y (iV (-1))))]⟩):=by
 exact Aa (ks:=[kn h0,kA (kn h24) (kn h0),kn h1,kn h25]) (by kernel_rfl)
end
def DS (a:Int) (n:Nat) (g:Nat->E6) (m:Nat) (x:Nat->Ev5) (t k:Int) (p:Nat) (r:Nat->Int) (q:Nat) (ln:Nat->Nat) (co:Nat->Nat->Int):Lp:=⟨(bmK 62 0 [1,5,6,7,8]),3,bmK 62 0 [1,5,6,7],3,m+1⟩
def Lr (a:Int) (n:Nat) (g:Nat->E6) (m:Nat) (x:Nat->Ev5) (t k:Int) (p:Nat) (r:Nat->Int) (q:Nat) (ln:Nat->Nat) (co:Nat->Nat->Int) (b:Nat) (y:Nat->V) (c i:Nat) (j:Nat->V):St:=⟨(jsV 62 0 j [(1,.ptr 0 0),(5,.ref 2),(6,nV b),(7,nV c),(8,nV i)]),[.cells (shL a n g m x t k p r q ln co),r3Z,.row 3 1 b y]⟩
def MW (a:Int) (n:Nat) (g:Nat->E6) (m:Nat) (x:Nat->Ev5) (t k:Int) (p:Nat) (r:Nat->Int) (q:Nat) (ln:Nat->Nat) (co:Nat->Nat->Int) (b:Nat) (y:Nat->V) (c i:Nat):Ex × St:=(.ex 2,⟨(jsV 62 0 (λ_=>.und) [(1,.ptr 0 0),(5,.ref 2),(6,nV b),(7,nV c)]),[.cells (shL a n g m x t k p r q ln co),r3Z,.row 3 1 b y]⟩)
noncomputable def FF (L:LT):St->T (Ex × St):=λst=>AC tab ⟨Am OW,L,Gl⟩ (Au Try.f46 2) 2 st
section
variable (L:LT) (a:Int) (n:Nat) (g:Nat->E6) (m:Nat) (x:Nat->Ev5) (t k:Int) (p:Nat) (r:Nat->Int) (q:Nat) (ln:Nat->Nat) (co:Nat->Nat->Int) (b:Nat) (y:Nat->V) (c i:Nat)  (j:Nat->V)
include L a n g m x t k p r q ln co b y c i j
theorem AjK (h0:ilt (ofNat i) (ofNat b) = false):Ah (FF L) (DS a n g m x t k p r q ln co) (Lr a n g m x t k p r q ln co b y c i j) = some ((.ex 2),⟨(jsV 62 0 (λ_=>.und) [(1,(.ptr 0 0)),(5,(.ref 2)),(6,(nV b)),(7,(nV c))]),[(.cells (shL a n g m x t k p r q ln co)),r3Z,(.row 3 1 b y)]⟩):=by
 exact Aa (ks:=[kn h0]) (by kernel_rfl)
theorem AjJ (h0:ilt (ofNat i) (ofNat b) = true) (h25:Ak (ile 0 (ofNat i)) (ilt (ofNat i) (ofNat m)) = true) (h27:Ak (ile 0 (ofNat b)) (ilt (ofNat b) (ofNat m)) = true) (h1:ieq ((x i)).th ((x b)).th = false):Ah (FF L) (DS a n g m x t k p r q ln co) (Lr a n g m x t k p r q ln co b y c i j) = some (.nm,⟨(jsV 62 0 (λ_=>.und) [(1,(.ptr 0 0)),(5,(.ref 2)),(6,(nV b)),(7,(nV c)),(8,(iV (wr .i64 (Af (ofNat i) 1))))]),[(.cells (shL a n g m x t k p r q ln co)),r3Z,(.row 3 1 b y)]⟩):=by
 exact Aa (ks:=[kn h0,kn h25,kn h27,kn h1,kn h1,kn h1,kn h1,kn h1,kn h1,kn h1,kn h1,kF]) (by kernel_rfl)
theorem AjL (h0:ilt (ofNat i) (ofNat b) = true) (h26:Ak (ile 0 (ofNat i)) (ilt (ofNat i) (ofNat m)) = true) (h28:Ak (ile 0 (ofNat b)) (ilt (ofNat b) (ofNat m)) = true) (h1:ieq ((x i)).th ((x b)).th = true) (h2:ieq ((x i)).dir 1 = false):Ah (FF L) (DS a n g m x t k p r q ln co) (Lr a n g m x t k p r q ln co b y c i j) = some (.nm,⟨(jsV 62 0 (λ_=>.und) [(1,(.ptr 0 0)),(5,(.ref 2)),(6,(nV b)),(7,(nV c)),(8,(iV (wr .i64 (Af (ofNat i) 1))))]),[(.cells (shL a n g m x t k p r q ln co)),r3Z,(.row 3 1 b y)]⟩):=by
 exact Aa (ks:=[kn h0,kn h26,kn h28,kn h1,kn h1,kn h1,kn h1,kn h26,kn h1,kn h1,kn h1,kn h1,kn h2]) (by kernel_rfl)
theorem AjI (h0:ilt (ofNat i) (ofNat b) = true) (h26:Ak (ile 0 (ofNat i)) (ilt (ofNat i) (ofNat m)) = true) (h28:Ak (ile 0 (ofNat b)) (ilt (ofNat b) (ofNat m)) = true) (h1:ieq ((x i)).th ((x b)).th = true) (h2:ieq ((x i)).dir 1 = true):Ah (FF L) (DS a n g m x t k p r q ln co) (Lr a n g m x t k p r q ln co b y c i j) = some (.nm,⟨(jsV 62 0 (λ_=>.und) [(1,(.ptr 0 0)),(5,(.ref 2)),(6,(nV b)),(7,(iV (wr .i64 (Af (ofNat c) 1)))),(8,(iV (wr .i64 (Af (ofNat i) 1))))]),[(.cells (shL a n g m x t k p r q ln co)),r3Z,(.row 3 1 b y)]⟩):=by
 exact Aa (ks:=[kn h0,kn h26,kn h28,kn h1,kn h1,kn h1,kn h1,kn h26,kn h1,kn h1,kn h1,kn h1,kn h2]) (by kernel_rfl)
end
def MR (a:Int) (n:Nat) (g:Nat->E6) (m:Nat) (x:Nat->Ev5) (t k:Int) (p:Nat) (r:Nat->Int) (q:Nat) (ln:Nat->Nat) (co:Nat->Nat->Int) (b:Nat) (y:Nat->V) (j:Nat->V):St:=⟨(jsV 62 0 j [(1,(.ptr 0 0)),(5,(.ref 2)),(6,(nV b)),(7,(iV 0)),(8,(iV 0)),(14,(nV b)),(15,(.ptr 0 2)),(16,(.sl 5 m (λi=>evV (x i)))),(17,(nV m)),(18,(bV (ilt (ofNat b) (ofNat m)))),(21,(.ptr 0 2)),(22,(.sl 5 m (λi=>evV (x i)))),(23,(nV b)),(24,(.pp (evV (x b)))),(25,(.pp (iV ((x b)).dir))),(26,(iV ((x b)).dir)),(27,(bV (ieq ((x b)).dir 1)))]),[.cells (shL a n g m x t k p r q ln co),r3Z,.row 3 1 b y]⟩
theorem AjY (L:LT) (p2:PT) (a:Int) (n:Nat) (g:Nat->E6) (m:Nat) (x:Nat->Ev5) (t k:Int) (p:Nat) (r:Nat->Int) (q:Nat) (ln:Nat->Nat) (co:Nat->Nat->Int) (b:Nat) (y:Nat->V) (e:Nat) (j:Nat->V) (h0:ilt (ofNat b) (ofNat m) = true) (h24:ile 0 (ofNat b) = true) (h1:ieq ((x b)).dir 1 = true) (h25:AY b 1 8 = true) (hp2:p2 (FF (onP 2 p2 (MW a n g m x t k p r q ln co b y e 0) L)) (MR a n g m x t k p r q ln co b y j) = true):Ah (LS (onP 2 p2 (MW a n g m x t k p r q ln co b y e 0) L)) (Jf a n g m x t k p r q ln co) (Uj a n g m x t k p r q ln co b y j) = some (.nm,⟨(jsV 62 0 (λ_=>.und) [(1,(.ptr 0 0)),(5,(.ref 2)),(6,(iV (wr .i64 (Af (ofNat b) 1))))]),[(.cells (shL a n g m x t k p r q ln co)),r3Z,(.row 3 1 (AQ b 1) (A1 b y (nV e)))]⟩):=by
 exact Aa (ks:=[kn h0,kA (kn h24) (kn h0),kn h1,kn hp2,kn h25]) (by kernel_rfl)
theorem Ajk (L:LT) (p0:PT) (a:Int) (n:Nat) (g:Nat->E6) (m:Nat) (x:Nat->Ev5) (t k:Int) (p:Nat) (r:Nat->Int) (q:Nat) (ln:Nat->Nat) (co:Nat->Nat->Int) (y:Nat->V) (h22:A5 q (λi=>(A5 (ln i) (λ_=>true))) = true) (h23:Bj n = true) (h24:Ag n = true) (h25:Ag m = true) (h26:Ag p = true) (h27:Ag q = true) (h28:A5 q (λi=>(Ag (ln i))) = true) (h29:ieq (Bf a n g m x t k p r q ln (λi i_1=>(co i i_1))) 0 = true) (hp0:p0 (LS (onP 0 p0 (T3 a n g m x t k p r q ln co m y) L)) (T1 a n g m x t k p r q ln co) = true):(Ar (Ai tab ⟨Am OW,(onP 0 p0 (T3 a n g m x t k p r q ln co m y) L),Gl⟩ Try.f46 [.agg (shL a n g m x t k p r q ln co)] [])).sem = some ((.tup [(.ref 0),(iV 0)]),[(.row 3 1 m y)]):=by
 exact Aa (ks:=[kL n,kL m,kL p,kn h22,kn h23,kA (kn h24) (kA (kn h25) (kA (kn h26) (kA (kn h27) (kn h28)))),kI 1,kN (kn h29),kn hp0]) (by kernel_rfl)
def yG (x:Nat->Ev5):Nat->Nat->V
 | 0=>λ_=>.und
 | b+1=>A1 b (yG x b) (iV (rgI x b))
theorem Yp (x:Nat->Ev5):∀ b i,i < b->yG x b i = iV (rgI x i)
 | b+1,i,h=>by
  show A1 b (yG x b) (iV (rgI x b)) i = _
  rw [Bq]
  cases hb:Nat.beq i b with
  | true=>rw [Nat.eq_of_beq_eq_true hb]; rfl
  | false=>exact Yp x b i (by have:=Nat.ne_of_beq_eq_false hb; omega)
theorem Ve (a:Int) (n:Nat) (g:Nat->E6) (m:Nat) (x:Nat->Ev5) (t k:Int) (p:Nat) (r:Nat->Int) (q:Nat) (ln:Nat->Nat) (co:Nat->Nat->Int) (b:Nat) (y j:Nat->V):MR a n g m x t k p r q ln co b y j = Lr a n g m x t k p r q ln co b y 0 0 (λi=>nth (MR a n g m x t k p r q ln co b y j).t i):=by kernel_rfl
theorem T0 (a:Int) (n:Nat) (g:Nat->E6) (m:Nat) (x:Nat->Ev5) (t k:Int) (p:Nat) (r:Nat->Int) (q:Nat) (ln:Nat->Nat) (co:Nat->Nat->Int):T1 a n g m x t k p r q ln co = Uj a n g m x t k p r q ln co 0 (λ_=>.und) (λi=>nth (T1 a n g m x t k p r q ln co).t i):=by kernel_rfl
theorem Zk (L:LT) (a:Int) (n:Nat) (g:Nat->E6) (m:Nat) (x:Nat->Ev5) (t k:Int) (p:Nat) (r:Nat->Int) (q:Nat) (ln:Nat->Nat) (co:Nat->Nat->Int) (m16:m <= 16) {b:Nat} (hb:b < m) (y:Nat->V):∀ (e i:Nat) (j:Nat->V) (u:Nat),b = i+e->e < u ->
  (A4 (FF L) (DS a n g m x t k p r q ln co) u (Lr a n g m x t k p r q ln co b y (Al (rgP x b) i) i j)).sem = some (MW a n g m x t k p r q ln co b y (Al (rgP x b) b) 0)
 | 0,i,j,u+1,h,_=>by
  have:b = i:=by omega
  subst this
  exact Ab (AjK L a n g m x t k p r q ln co b y (Al (rgP x b) b) b j (A6 (Nat.le_refl _)))
 | e+1,i,j,u+1,h,h2=>by
  have hi:i < b:=by omega
  have him:i < m:=by omega
  have next:=Zk L a n g m x t k p r q ln co m16 hb y e (i+1) (λ_=>.und) u (by omega) (by omega)
  have hle:Al (rgP x b) i <= i:=Be _ _
  cases h1:ieq (x i).th (x b).th with
  | false =>
   rw [By (p:=rgP x b) (show rgP x b i = false by unfold rgP; rw [h1]; rfl)] at next
   rw [Ab (AjJ L a n g m x t k p r q ln co b y (Al (rgP x b) i) i j (ofNat_lt hi) (Ap him) (Ap hb) h1),Aq,Ao hi (by omega)]
   exact next
  | true =>
   cases h3:ieq (x i).dir 1 with
   | false =>
    rw [By (p:=rgP x b) (show rgP x b i = false by unfold rgP; rw [h1]; exact h3)] at next
    rw [Ab (AjL L a n g m x t k p r q ln co b y (Al (rgP x b) i) i j (ofNat_lt hi) (Ap him) (Ap hb) h1 h3),Aq,Ao hi (by omega)]
    exact next
   | true =>
    rw [Bl (p:=rgP x b) (show rgP x b i = true by unfold rgP; rw [h1]; exact h3)] at next
    rw [Ab (AjI L a n g m x t k p r q ln co b y (Al (rgP x b) i) i j (ofNat_lt hi) (Ap him) (Ap hb) h1 h3),Aq,Ao hi (by omega),Ao (n:=16) (show Al (rgP x b) i < 16 by omega) (by omega)]
    exact next
theorem Zl (M:LT) (hMM:LLe M M) (a:Int) (n:Nat) (g:Nat->E6) (m:Nat) (x:Nat->Ev5) (t k:Int) (p:Nat) (r:Nat->Int) (q:Nat) (ln:Nat->Nat) (co:Nat->Nat->Int) (m2:∀ g' st,M 2 g' st = A4 g' (DS a n g m x t k p r q ln co) (m+1) st) (m16:m <= 16):∀ (e b:Nat) (j:Nat->V) (u:Nat),m = b+e->e < u ->
  (A4 (LS M) (Jf a n g m x t k p r q ln co) u (Uj a n g m x t k p r q ln co b (yG x b) j)).sem = some (T3 a n g m x t k p r q ln co m (yG x m))
 | 0,b,j,u+1,h,_=>by
  have:m = b:=by omega
  subst this
  exact Ab (AjZ M a n g m x t k p r q ln co m (yG x m) j (A6 (Nat.le_refl _)))
 | e+1,b,j,u+1,h,h2=>by
  have hb:b < m:=by omega
  have hap:AY b 1 8 = true:=BH (by omega)
  have next:=Zl M hMM a n g m x t k p r q ln co m2 m16 e (b+1) (λ_=>.und) u (by omega) (by omega)
  rw [show yG x (b+1) = A1 b (yG x b) (iV (rgI x b)) from rfl] at next
  unfold rgI at next
  cases hd:ieq (x b).dir 1 with
  | false =>
   rw [hd] at next
   rw [Ab (AjX M a n g m x t k p r q ln co b (yG x b) j (ofNat_lt hb) (AF _) hd hap),Aq,Ao hb (by omega)]
   exact next
  | true =>
   rw [hd] at next
   have hi:∀ M',(M 2 (FF M') (MR a n g m x t k p r q ln co b (yG x b) j)).sem = some (MW a n g m x t k p r q ln co b (yG x b) (Al (rgP x b) b) 0):=λM'=>by
    rw [m2,Ve]
    exact Zk M' a n g m x t k p r q ln co m16 hb (yG x b) b 0 _ (m+1) (by omega) (by omega)
   have h3:=AjY M _ a n g m x t k p r q ln co b (yG x b) (Al (rgP x b) b) j (ofNat_lt hb) (AF _) hd hap (Aj (hi _))
   have h4:Ah (LS M) (Jf a n g m x t k p r q ln co) (Uj a n g m x t k p r q ln co b (yG x b) j) = _:=CB (l:=Jf a n g m x t k p r q ln co) (D5 (Γ:=⟨Am OW,M,Gl⟩) (As hMM hMM) (Au Try.f46 0) 0 (Uj a n g m x t k p r q ln co b (yG x b) j)) h3
   rw [Ab h4,Aq,Ao hb (by omega)]
   exact next
structure IsSh (s:Sh7):Prop where
 arch:s.arch = 1
 cyc:IsCycle s.arch s.ne s.E
 nx:s.nx = s.ne
 tt:s.tt = ofNat (ttN s.ne (shG s.ne s.E))
 E:∀ i,i < s.ne->s.E i = shG s.ne s.E i
 X:∀ i,i < s.ne->s.X i = evF s.ne (shG s.ne s.E) (λ_=>true) i
theorem Kc (a:Int) (n:Nat) (g:Nat->E6) (m:Nat) (x:Nat->Ev5) (t k:Int) (p:Nat) (r:Nat->Int) (q:Nat) (ln:Nat->Nat) (co:Nat->Nat->Int) (h:ieq (Bf a n g m x t k p r q ln co) 0 = true):IsSh ⟨a,n,g,m,x,t,k,p,r,q,λu=>(ln u,co u)⟩:=by
 unfold Bf at h
 cases h1:ieq (EU a n g m x t k p r q ln co) 0 with
 | false=>rw [h1] at h; cases h
 | true =>
  rw [h1] at h
  cases h2:ieq a 1 with
  | false=>rw [h2] at h; cases h
  | true =>
   unfold EU at h1
   cases h3:FC ⟨a,n,g,m,x,t,k,p,r,q,λu=>(ln u,co u)⟩ with
   | false=>rw [h3] at h1; cases h1
   | true =>
    unfold FC at h3
    obtain ⟨c1,c2⟩:=AR h3
    unfold N4 at c2
    obtain ⟨_,c2⟩:=AR c2
    obtain ⟨c3,c2⟩:=AR c2
    obtain ⟨_,c2⟩:=AR c2
    obtain ⟨c4,c2⟩:=AR c2
    obtain ⟨c5,c2⟩:=AR c2
    obtain ⟨_,c2⟩:=AR c2
    obtain ⟨_,c6⟩:=AR c2
    have hnx:m = n:=Int.ofNat.inj (BB c5)
    subst hnx
    refine ⟨BB h2,Ek c1,rfl,BB c3,(Ka.1 c4).2,λi hi=>?_⟩
    have:=A3.1 c6 i hi
    unfold CR at this
    obtain ⟨d1,this⟩:=AR this
    obtain ⟨d2,this⟩:=AR this
    obtain ⟨d3,this⟩:=AR this
    obtain ⟨d4,this⟩:=AR this
    obtain ⟨d5,_⟩:=AR this
    have d1:=BB d1
    have d2:=BB d2
    have d3:=BB d3
    have d4:=BB d4
    have d5:=BB d5
    revert d1 d2 d3 d4 d5
    show (x i).th = (evF m (shG m g) (λ_=>true) i).th->(x i).pl = (evF m (shG m g) (λ_=>true) i).pl->(x i).dir = (evF m (shG m g) (λ_=>true) i).dir->(x i).loc = (evF m (shG m g) (λ_=>true) i).loc->(x i).val = (evF m (shG m g) (λ_=>true) i).val->x i = evF m (shG m g) (λ_=>true) i
    cases x i
    cases evF m (shG m g) (λ_=>true) i
    rintro rfl rfl rfl rfl rfl
    rfl
theorem p46:A7 Try.prog Gl 46 U9:=by
 refine Av AL AN Try.func46 (by kernel_rfl) (by kernel_rfl) λvs v h' h=>?_
 unfold U9 at h
 split at h
 ·rename_i v1
  obtain ⟨s,a1,h⟩:=BI h
  obtain ⟨hf,h⟩:=Ad h
  obtain ⟨hn,h⟩:=Ad h
  obtain ⟨a,n,g,m,x,t,k,p,r,q,C⟩:=s
  obtain ⟨ln,co,hC⟩:∃ (ln:Nat->Nat) (co:Nat->Nat->Int),C = λu=>(ln u,co u):=⟨λu=>(C u).1,λu=>(C u).2,rfl⟩
  subst hC
  have hA:Bp [v1] [.agg (shL a n g m x t k p r q ln co)]:=λS w cs hv=>by
   obtain ⟨c,l,rfl,q1,q2⟩:=hv
   exact ⟨c,_,rfl,a1 S w c q1,q2⟩
  have hn:Ag n = true ∧ Ag m = true ∧ Ag p = true ∧ Ag q = true ∧ (A5 q λi=>Ag (ln i)) = true:=by simpa [CH,Ak] using hn
  obtain ⟨n1,n2,n3,n4,n5⟩:=hn
  have hx:=AO VM [(0,Jf a n g m x t k p r q ln co),(2,DS a n g m x t k p r q ln co)] (G:=Gl)
  have hL:=AE [(0,Jf a n g m x t k p r q ln co),(2,DS a n g m x t k p r q ln co)]
  cases hc:ieq (Bf a n g m x t k p r q ln co) 0 with
  | false =>
   simp only [hc,T.sem,sel,cond_false,Option.some.injEq,Prod.mk.injEq] at h
   obtain ⟨rfl,rfl⟩:=h
   exact ⟨_,AI Gl OW [(0,Jf a n g m x t k p r q ln co),(2,DS a n g m x t k p r q ln co)],_,hA,rfl,hx.1,hx.2,Ajl _ a n g m x t k p r q ln co (C4 () ()) hf n1 n2 n3 n4 n5 hc,A8.refl _⟩
  | true =>
   simp only [hc] at h
   have:=Ac h
   simp only [Prod.mk.injEq] at this
   obtain ⟨rfl,rfl⟩:=this
   have hs:=Kc a n g m x t k p r q ln co hc
   have hm:m = n:=hs.nx
   have m16:m <= 16:=by rw [hm]; exact hs.cyc.hi
   refine ⟨_,AI Gl OW [(0,Jf a n g m x t k p r q ln co),(2,DS a n g m x t k p r q ln co)],[.row 3 1 m (yG x m)],hA,rfl,hx.1,hx.2,?_,?_⟩
   ·have hQ:=As (k:=0) (r:=T3 a n g m x t k p r q ln co m (yG x m)) hL hL
    refine A2 hQ _ (Ajk _ _ a n g m x t k p r q ln co (yG x m) (C4 () ()) hf n1 n2 n3 n4 n5 hc (Aj ?_))
    show (A4 _ (Jf a n g m x t k p r q ln co) (m+1) (T1 a n g m x t k p r q ln co)).sem = _
    rw [T0]
    exact Zl _ (LD hL hL 0 _) a n g m x t k p r q ln co (λg st=>rfl) m16 m 0 _ (m+1) (by omega) (by omega)
   ·exact .one λi hi=>(Yp x m i hi).symm
 ·cases h
end Go.Proofs.Ytjhnfomefcngfaa.Sh
namespace Go.Proofs.Ytjhnfomefcngfaa.Sh
open Go.Sy Ed
set_option maxHeartbeats 1000000
set_option maxRecDepth 4000
end Go.Proofs.Ytjhnfomefcngfaa.Sh
namespace Go.Proofs.Ytjhnfomefcngfaa.Sh
open Go.Sy Ed
set_option maxHeartbeats 1000000
set_option maxRecDepth 4000
theorem Aig (fe:Bool) (x:Ev5) (b:Nat) (W:Wr4) (i:Nat):(evW fe x b W).nx i = bif ieq x.dir 2 then W.nx i else sel (AD i (toN x.th)) (wr .i64 (Af (W.nx (toN x.th)) 1)) (W.nx i):=by
 unfold evW; cases fe <;> cases ieq x.dir 2 <;> rfl
theorem AeB (fe:Bool) (x:Ev5) (b:Nat) (W:Wr4) (i:Nat):(evW fe x b W).y i = bif AD i b then yvW x W else W.y i:=by
 unfold evW; cases fe <;> cases ieq x.dir 2 <;> rfl
theorem Ai2 (fe:Nat->Bool) (x:Nat->Ev5) {c:Nat}:∀ e,(wsF fe x (c+1+e)).y c = yvW (x c) (wsF fe x c)
 | 0=>by
  refine (AeB _ _ _ _ _).trans ?_
  rw [Go.Sy.nbeq_self]
  rfl
 | e+1=>by
  refine (AeB (fe (c+1+e)) (x (c+1+e)) (c+1+e) (wsF fe x (c+1+e)) c).trans ?_
  rw [Go.Sy.nbeq_ne (show c ≠ c+1+e by omega)]
  exact Ai2 fe x e
theorem Ai0 {x:Ev5} {W:Wr4} {k:Nat} (hk:k < 16) (h:W.nx (toN x.th) = Int.ofNat k):yvW x W = bif ieq x.dir 2 then -1 else Int.ofNat k:=by
 unfold yvW
 rw [Go.Sy.nbeq_self,h]
 cases ieq x.dir 2 with
 | true=>rfl
 | false =>
  show wr .i64 (AK (wr .i64 (Af (Int.ofNat k) 1)) 1) = Int.ofNat k
  rw [Ao (n:=16) hk (by omega)]
  exact QI (by omega)
theorem AdF {n:Nat} {y:Nat->Int}:Bn [.row 3 1 n (λi=>iV (y i))] = true:=by simp [Bn]; exact λ_ _=>rfl
end Go.Proofs.Ytjhnfomefcngfaa.Sh
