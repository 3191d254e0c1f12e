/-
  Layer 7: a shape's threads, its last values, the locations that are asked for: the program's, the document's. No conditions.
-/
import Derived.Test.YtkbafjceglhjhaaGreatDoorErA
namespace Go.Proofs.YtkbafjceglhjhaaGreatDoor.Sh
open Go.Sy Ed
open Int (ofNat)
set_option maxHeartbeats 1000000
set_option maxRecDepth 4000
def E8 (P:Nat->Bool) (v:Nat->Int):Nat->Nat->V
 | 0=>λ_=>.und
 | b+1=>bif P b then AD (Ak P b) (E8 P v b) (iV (v b)) else E8 P v b
theorem Sq {P:Nat->Bool} {v:Nat->Int} {b:Nat} (h:P b=true):E8 P v (b+1)=AD (Ak P b) (E8 P v b) (iV (v b)):=by rw [E8,h]; rfl
theorem Yq {P:Nat->Bool} {v:Nat->Int} {b:Nat} (h:P b=false):E8 P v (b+1)=E8 P v b:=by rw [E8,h]; rfl
def Wu (P:Nat->Bool) (n m:Nat):Nat:=Cu (λi=>P i && decide (Ak P i=m)) n
theorem Sc {P:Nat->Bool} {n i:Nat} (hi:i<n) (h:P i=true):Wu P n (Ak P i)=i:=NC hi (by simp [h]) λk hk=>by
 cases hp:P k with
 | false=>rfl
 | true =>have h1:=By hp;have h2:=Bc P (show k+1 <= i by omega);simp;omega
theorem HA {P:Nat->Bool}:∀ {n m:Nat},m<Ak P n->Wu P n m<n∧P (Wu P n m)=true∧Ak P (Wu P n m)=m
 | 0,m,h=>by simp [Ak] at h
 | n+1,m,h=>by
  have:∃ i,i<n+1∧P i=true∧Ak P i=m:=by
   cases hp:P n with
   | true =>
    rw [By hp] at h;by_cases hm:m=Ak P n
    ·exact ⟨n,by omega,hp,hm.symm⟩
    ·obtain ⟨a,b,c⟩:=HA (P:=P) (n:=n) (m:=m) (by omega)
     exact ⟨_,by omega,b,c⟩
   | false =>rw [BQ hp] at h;obtain ⟨a,b,c⟩:=HA (n:=n) (m:=m) h;exact ⟨_,by omega,b,c⟩
  obtain ⟨i,h1,h2,h3⟩:=this;rw [<- h3,Sc h1 h2];exact ⟨h1,h2,rfl⟩
theorem U4 (P:Nat->Bool) (v:Nat->Int) {n:Nat}:∀ m,m<Ak P n->E8 P v n m=iV (v (Wu P n m)):=by
 have key:∀ b,b <= n->∀ i,i<b->P i=true->E8 P v b (Ak P i)=iV (v i):=λb=>by
  induction b with
  | zero=>intro _ i hi; omega
  | succ b ih =>
   intro hb i hi hp;cases hpb:P b with
   | true =>
    rw [Sq hpb,Br];by_cases he:i=b
    ·rw [he,Nat.beq_refl]; rfl
    ·have h1:=By hp
     have h2:=Bc P (show i+1 <= b by omega);rw [nbeq_ne (by omega)];exact ih (by omega) i (by omega) hp
   | false =>
    have he:i ≠ b:=λhe=>by rw [he,hpb] at hp; cases hp
    rw [Yq hpb];exact ih (by omega) i (by omega) hp
 intro m hm;obtain ⟨h1,h2,h3⟩:=HA hm;have:=key n (Nat.le_refl _) _ h1 h2;rw [h3] at this;exact this
theorem LG:∀ n,Ak (λ_=>true) n=n
 | 0=>rfl
 | n+1=>by rw [By rfl,LG n]
theorem ZW (v:Nat->Int) {n:Nat} (m:Nat) (h:m<n):E8 (λ_=>true) v n m=iV (v m):=by
 have h1:=U4 (λ_=>true) v (n:=n) m (by rw [LG]; exact h);have h2:=Sc (P:=λ_=>true) h rfl;rw [LG] at h2;rw [h1,h2]
def Cg (a:Int) (n:Nat) (g:Nat->E6) (m:Nat) (x:Nat->Ev5) (t k:Int) (p:Nat) (r:Nat->Int) (q:Nat) (ln:Nat->Nat) (co:Nat->Nat->Int):Int:=sel (BU ⟨a,n,g,m,x,t,k,p,r,q,λu=>(ln u,co u)⟩) 0 70
def I1:List V->A5
 | [v]=>apS v λs=>.br (Ct s.ne) (.br (D7 s) (.leaf (iV (Cg s.arch s.ne s.E s.nx s.X s.tt s.kk s.nr s.R s.nc (λi=>(s.C i).1) (λi=>(s.C i).2)),[])) .fail) .fail
 | _=>.fail
theorem AlM:Ap Tryz.prog Gl 60 I1:=p25
theorem Api:Ap Tryz.prog Gl 64 I1:=p39
def noI (e:Int):V×List Blk:=(.tup [.ref 0,iV e],[.row 3 1 0 λ_=>.und])
def Ad0:List V->A5
 | [v]=>apS v λs=>.br (Ct s.ne) (.br (Fa s.nc) (.br (D7 s) (.br (BU s) (.leaf (.tup [.ref 0,iV 0],[.row 3 1 s.nc λk=>iV (ofNat (s.C k).1)])) (.leaf (noI 70))) .fail) .fail) .fail
 | _=>.fail
def XH:List V->A5
 | [v]=>apS v λs=>.br (Ct s.ne) (.br (Fa s.nc) (.br (D7 s) (.br (BU s) (.leaf (.tup [.ref 0,iV 0],[.row 3 1 (Ak (λk=>ieq (ofNat (s.C k).1) 2) s.nc) λk=>iV (ofNat (Wu (λk=>ieq (ofNat (s.C k).1) 2) s.nc k))])) (.leaf (noI 70))) .fail) .fail) .fail
 | _=>.fail
noncomputable def tb26:A7:=(60,I1)::[]
theorem tb26_ok:Ao Tryz.prog Gl tb26:=.cons AlM .nil
def lp26 (a:Int) (n:Nat) (g:Nat->E6) (m:Nat) (x:Nat->Ev5) (t k:Int) (p:Nat) (r:Nat->Int) (q:Nat) (ln:Nat->Nat) (co:Nat->Nat->Int) (z:Int):Lp:=⟨bmK 41 0 [1,7,24,25,26],3,bmK 41 0 [7],3,m+1⟩
noncomputable def tb36:A7:=(64,I1)::[]
theorem tb36_ok:Ao Tryz.prog Gl tb36:=.cons Api .nil
def lp36 (a:Int) (n:Nat) (g:Nat->E6) (m:Nat) (x:Nat->Ev5) (t k:Int) (p:Nat) (r:Nat->Int) (q:Nat) (ln:Nat->Nat) (co:Nat->Nat->Int) (z:Int):Lp:=⟨bmK 39 0 [1,2,6,7],3,bmK 39 0 [6],3,m+1⟩
def st36 (a:Int) (n:Nat) (g:Nat->E6) (m:Nat) (x:Nat->Ev5) (t k:Int) (p:Nat) (r:Nat->Int) (q:Nat) (ln:Nat->Nat) (co:Nat->Nat->Int) (z:Int) (b c:Nat) (y:Nat->V) (j:Nat->V):St:=⟨jsV 39 0 j [(1,iV z),(2,.ptr 0 0),(6,.ref 2),(7,nV b)],[.cells (shL a n g m x t k p r q ln co),.row 3 1 0 Aa,.row 3 1 c y]⟩
def jk36 (a:Int) (n:Nat) (g:Nat->E6) (m:Nat) (x:Nat->Ev5) (t k:Int) (p:Nat) (r:Nat->Int) (q:Nat) (ln:Nat->Nat) (co:Nat->Nat->Int) (z:Int) :Nat->V:=lkV AK [(0,.agg (shL a n g m x t k p r q ln co)),(4,.ref 1),(5,iV 0),(8,.agg (shL a n g m x t k p r q ln co)),(9,iV (Cg a n g m x t k p r q ln (λi i_1=>co i i_1))),(10,bV (AQ (ieq (Cg a n g m x t k p r q ln (λi i_1=>co i i_1)) 0))),(11,iV z),(12,bV (ilt z 0)),(13,bV (ilt z 0)),(14,iV z),(15,.ptr 0 3),(16,iV t),(17,bV (ile t z)),(18,bV (ile t z))]
noncomputable def tb27:A7:=(60,I1)::[]
theorem tb27_ok:Ao Tryz.prog Gl tb27:=.cons AlM .nil
def lp27 (a:Int) (n:Nat) (g:Nat->E6) (m:Nat) (x:Nat->Ev5) (t k:Int) (p:Nat) (r:Nat->Int) (q:Nat) (ln:Nat->Nat) (co:Nat->Nat->Int):Lp:=⟨bmK 27 0 [5,14,15,16],3,bmK 27 0 [5],3,q+1⟩
def AfT (a:Int) (n:Nat) (g:Nat->E6) (m:Nat) (x:Nat->Ev5) (t k:Int) (p:Nat) (r:Nat->Int) (q:Nat) (ln:Nat->Nat) (co:Nat->Nat->Int) (b c:Nat) (y:Nat->V) (j:Nat->V):St:=⟨jsV 27 0 j [(5,.ref 2),(14,.sl 1 q (λu=>.sl 1 (ln u) (λi=>iV (co u i)))),(15,nV q),(16,nV b)],[.cells (shL a n g m x t k p r q ln co),.row 3 1 0 Aa,.row 3 1 c y]⟩
def Aej (a:Int) (n:Nat) (g:Nat->E6) (m:Nat) (x:Nat->Ev5) (t k:Int) (p:Nat) (r:Nat->Int) (q:Nat) (ln:Nat->Nat) (co:Nat->Nat->Int) (b c:Nat) (y:Nat->V):Ex×St:=(.ex 0,⟨jsV 27 0 Aa [(5,.ref 2)],[.cells (shL a n g m x t k p r q ln co),.row 3 1 0 Aa,.row 3 1 c y]⟩)
noncomputable def TF (L:LT):St->T (Ex×St):=λst=>AA tab ⟨Aw tb27,L,Gl⟩ (As Tryz.f69 0) 0 st
section
variable (L:LT) (a:Int) (n:Nat) (g:Nat->E6) (m:Nat) (x:Nat->Ev5) (t k:Int) (p:Nat) (r:Nat->Int) (q:Nat) (ln:Nat->Nat) (co:Nat->Nat->Int) (b c:Nat) (y:Nat->V)  (j:Nat->V)
include L a n g m x t k p r q ln co b c y j
theorem ArF (h0:ilt (ofNat b) (ofNat q)=false):Au (TF L) (lp27 a n g m x t k p r q ln co) (AfT a n g m x t k p r q ln co b c y j)=some ((.ex 0),⟨jsV 27 0 Aa [(5,.ref 2)],[.cells (shL a n g m x t k p r q ln co),.row 3 1 0 Aa,.row 3 1 c y]⟩):=by
 exact Ae (ks:=[kn h0]) (by kernel_rfl)
theorem ArE (h0:ilt (ofNat b) (ofNat q)=true) (h17:ile 0 (ofNat b)=true) (h18:Bs c 1 8=true):Au (TF L) (lp27 a n g m x t k p r q ln co) (AfT a n g m x t k p r q ln co b c y j)=some (.nm,⟨jsV 27 0 Aa [(5,.ref 2),(14,.sl 1 q (λu=>.sl 1 (ln u) (λi=>iV (co u i)))),(15,nV q),(16,iV (wr .i64 (Ai (ofNat b) 1)))],[.cells (shL a n g m x t k p r q ln co),.row 3 1 0 Aa,.row 3 1 (AE c 1) (AD c y (iV (ofNat (ln b))))]⟩):=by
 exact Ae (ks:=[kn h0,kA (kn h17) (kn h0),kn h18]) (by kernel_rfl)
end
def AsE (a:Int) (n:Nat) (g:Nat->E6) (m:Nat) (x:Nat->Ev5) (t k:Int) (p:Nat) (r:Nat->Int) (q:Nat) (ln:Nat->Nat) (co:Nat->Nat->Int) :Nat->V:=lkV AK [(0,.agg (shL a n g m x t k p r q ln co)),(1,.ptr 0 0),(2,.ref 1),(3,iV 0),(4,iV (Cg a n g m x t k p r q ln (λi i_1=>co i i_1))),(8,.agg (shL a n g m x t k p r q ln co)),(9,iV (Cg a n g m x t k p r q ln (λi i_1=>co i i_1))),(10,iV (Cg a n g m x t k p r q ln (λi i_1=>co i i_1))),(11,bV (AQ (ieq (Cg a n g m x t k p r q ln (λi i_1=>co i i_1)) 0))),(13,.ptr 0 6)]
theorem Art (L:LT) (a:Int) (n:Nat) (g:Nat->E6) (m:Nat) (x:Nat->Ev5) (t k:Int) (p:Nat) (r:Nat->Int) (q:Nat) (ln:Nat->Nat) (co:Nat->Nat->Int) (h17:AV q (λi=>AV (ln i) (λ_=>true))=true) (h18:Ct n=true) (h19:Aq n=true) (h20:Aq m=true) (h21:Aq p=true) (h22:Aq q=true) (h23:AV q (λi=>Aq (ln i))=true) (h0:ieq (Cg a n g m x t k p r q ln (λi i_1=>co i i_1)) 0=false):(A0 (Aj tab ⟨Aw tb27,L,Gl⟩ Tryz.f69 [.agg (shL a n g m x t k p r q ln co)] [])).sem=some ((.tup [.ref 0,iV (Cg a n g m x t k p r q ln (λi i_1=>co i i_1))]),[.row 3 1 0 Aa]):=by
 exact Ae (ks:=[kL n,kL m,kL p,kn h17,kn h18,kA (kn h19) (kA (kn h20) (kA (kn h21) (kA (kn h22) (kn h23)))),kN (kn h0)]) (by kernel_rfl)
theorem Ars (L:LT) (p0:PT) (a:Int) (n:Nat) (g:Nat->E6) (m:Nat) (x:Nat->Ev5) (t k:Int) (p:Nat) (r:Nat->Int) (q:Nat) (ln:Nat->Nat) (co:Nat->Nat->Int) (b c:Nat) (y:Nat->V) (h17:AV q (λi=>AV (ln i) (λ_=>true))=true) (h18:Ct n=true) (h19:Aq n=true) (h20:Aq m=true) (h21:Aq p=true) (h22:Aq q=true) (h23:AV q (λi=>Aq (ln i))=true) (h0:ieq (Cg a n g m x t k p r q ln (λi i_1=>co i i_1)) 0=true) (hp0:p0 (TF (onP 0 p0 (Aej a n g m x t k p r q ln co b c y) L)) (AfT a n g m x t k p r q ln co 0 0 Aa (AsE a n g m x t k p r q ln co ))=true):(A0 (Aj tab ⟨Aw tb27,onP 0 p0 (Aej a n g m x t k p r q ln co b c y) L,Gl⟩ Tryz.f69 [.agg (shL a n g m x t k p r q ln co)] [])).sem=some ((.tup [.ref 0,iV 0]),[.row 3 1 c y]):=by
 exact Ae (ks:=[kL n,kL m,kL p,kn h17,kn h18,kA (kn h19) (kA (kn h20) (kA (kn h21) (kA (kn h22) (kn h23)))),kN (kn h0),kn hp0]) (by kernel_rfl)
theorem Ai9 (L:LT) (a:Int) (n:Nat) (g:Nat->E6) (m:Nat) (x:Nat->Ev5) (t k:Int) (p:Nat) (r:Nat->Int) (q:Nat) (ln:Nat->Nat) (co:Nat->Nat->Int) (h8:q * 8 <= 140737488355328):∀ (e b:Nat) (j:Nat->V) (u:Nat),q=b+e->e<u ->
  (Av (TF L) (lp27 a n g m x t k p r q ln co) u (AfT a n g m x t k p r q ln co b (Ak (λ_=>true) b) (E8 (λ_=>true) (λi=>ofNat (ln i)) b) j)).sem=some (Aej a n g m x t k p r q ln co q (Ak (λ_=>true) q) (E8 (λ_=>true) (λi=>ofNat (ln i)) q))
 | 0,b,j,u+1,h,_=>by
  have:q=b:=by omega
  subst this;exact Af (ArF L a n g m x t k p r q ln co q _ _ j (A1 (Nat.le_refl _)))
 | e+1,b,j,u+1,h,h2=>by
  have hl:b<q:=by omega
  have hcl:=B2 (λ_=>true) b;have next:=Ai9 L a n g m x t k p r q ln co h8 e (b+1) Aa u (by omega) (by omega)
  cases hp:(λ_=>true) b with
  | true =>
   rw [Af (ArE L a n g m x t k p r q ln co b (Ak (λ_=>true) b) (E8 (λ_=>true) (λi=>ofNat (ln i)) b) j (ofNat_lt hl) (Cf b) (FT (by omega))),AT,A3 hl (by omega)];rw [Sq hp,By hp] at next
   exact next
  | false=>cases hp
theorem p27:Ap Tryz.prog Gl 69 Ad0:=by
 refine Ah A2 mixed Tryz.func69 (by kernel_rfl) (by kernel_rfl) λvs v h' h=>?_;unfold Ad0 at h;split at h
 ·rename_i v1
  obtain ⟨s,a1,h⟩:=apS_some h;obtain ⟨hf,h⟩:=Ac h;obtain ⟨h8,h⟩:=Ac h;obtain ⟨hn,h⟩:=Ac h;obtain ⟨a,n,g,m,x,t,k,p,r,q,C⟩:=s;have hA:Ba [v1] [.agg [iV a,.sl 6 n (λi=>eV (g i)),.sl 5 m (λi=>evV (x i)),iV t,iV k,.sl 1 p (λi=>iV (r i)),.sl 1 q (λu=>.sl 1 (C u).1 (λi=>iV ((C u).2 i)))]]:=λS w cs hv=>by
   obtain ⟨c,l,rfl,q1,q2⟩:=hv;exact ⟨c,_,rfl,a1 S w c q1,q2⟩
  have hn:Aq n=true∧Aq m=true∧Aq p=true∧Aq q=true∧(AV q λi=>Aq (C i).1)=true:=by simpa [D7,Al] using hn
  obtain ⟨n1,n2,n3,n4,n5⟩:=hn;have all2:∀ (q:Nat) (ln:Nat->Nat),(AV q λi=>AV (ln i) λ_=>true)=true:=λ_ _=>A8.2 λ_ _=>A8.2 λ_ _=>rfl;obtain ⟨ln,co,hC⟩:∃ (ln:Nat->Nat) (co:Nat->Nat->Int),C=λu=>(ln u,co u):=⟨λu=>(C u).1,λu=>(C u).2,rfl⟩;subst hC;have hx:=Bh tb27_ok [(0,lp27 a n g m x t k p r q ln co)] (G:=Gl);have hL:=Bb [(0,lp27 a n g m x t k p r q ln co)];cases hs:BU ⟨a,n,g,m,x,t,k,p,r,q,λu=>(ln u,co u)⟩ with
  | false =>
   rw [hs] at h;have:=Ab h;simp only [noI,Prod.mk.injEq] at this;obtain ⟨rfl,rfl⟩:=this;have hc:ieq (Cg a n g m x t k p r q ln co) 0=false:=by unfold Cg; rw [hs]; rfl
   have hv:Cg a n g m x t k p r q ln co=70:=by unfold Cg; rw [hs]; rfl
   refine ⟨_,AO Gl tb27 [(0,lp27 a n g m x t k p r q ln co)],_,hA,rfl,hx.1,hx.2,?_,Am.refl _⟩;have hw:=Art (BC [(0,lp27 a n g m x t k p r q ln co)]) a n g m x t k p r q ln co (all2 _ _) hf n1 n2 n3 n4 n5 hc;rw [hv] at hw;exact hw
  | true =>
   rw [hs] at h;have hc:ieq (Cg a n g m x t k p r q ln co) 0=true:=by unfold Cg; rw [hs]; rfl
   have:=Ab h;simp only [noI,Prod.mk.injEq] at this;obtain ⟨rfl,rfl⟩:=this;have h8':q * 8 <= 140737488355328:=of_decide_eq_true h8;have hrun:=λL j=>Ai9 L a n g m x t k p r q ln co h8' q 0 j (q+1) (by omega) (by omega);refine ⟨_,AO Gl tb27 [(0,lp27 a n g m x t k p r q ln co)],_,hA,rfl,hx.1,hx.2,AW (AX hL hL) _ (Ars _ _ a n g m x t k p r q ln co q (Ak (λ_=>true) q) (E8 (λ_=>true) (λi=>ofNat (ln i)) q) (all2 _ _) hf n1 n2 n3 n4 n5 hc (A4 (hrun _ _))),?_⟩;rw [LG];exact Am.one λi hi=>(ZW (λi=>ofNat (ln i)) i hi).symm
 ·cases h
noncomputable def tb33:A7:=(64,I1)::[]
theorem tb33_ok:Ao Tryz.prog Gl tb33:=.cons Api .nil
noncomputable def tb34:A7:=(60,I1)::[]
theorem tb34_ok:Ao Tryz.prog Gl tb34:=.cons AlM .nil
def lp34 (a:Int) (n:Nat) (g:Nat->E6) (m:Nat) (x:Nat->Ev5) (t k:Int) (p:Nat) (r:Nat->Int) (q:Nat) (ln:Nat->Nat) (co:Nat->Nat->Int):Lp:=⟨bmK 30 0 [5,14,15,16],3,bmK 30 0 [5],3,q+1⟩
def AbB (a:Int) (n:Nat) (g:Nat->E6) (m:Nat) (x:Nat->Ev5) (t k:Int) (p:Nat) (r:Nat->Int) (q:Nat) (ln:Nat->Nat) (co:Nat->Nat->Int) (b c:Nat) (y:Nat->V) (j:Nat->V):St:=⟨jsV 30 0 j [(5,.ref 2),(14,.sl 1 q (λu=>.sl 1 (ln u) (λi=>iV (co u i)))),(15,nV q),(16,nV b)],[.cells (shL a n g m x t k p r q ln co),.row 3 1 0 Aa,.row 3 1 c y]⟩
def Aei (a:Int) (n:Nat) (g:Nat->E6) (m:Nat) (x:Nat->Ev5) (t k:Int) (p:Nat) (r:Nat->Int) (q:Nat) (ln:Nat->Nat) (co:Nat->Nat->Int) (b c:Nat) (y:Nat->V):Ex×St:=(.ex 0,⟨jsV 30 0 Aa [(5,.ref 2)],[.cells (shL a n g m x t k p r q ln co),.row 3 1 0 Aa,.row 3 1 c y]⟩)
noncomputable def PM (L:LT):St->T (Ex×St):=λst=>AA tab ⟨Aw tb34,L,Gl⟩ (As Tryz.f70 0) 0 st
section
variable (L:LT) (a:Int) (n:Nat) (g:Nat->E6) (m:Nat) (x:Nat->Ev5) (t k:Int) (p:Nat) (r:Nat->Int) (q:Nat) (ln:Nat->Nat) (co:Nat->Nat->Int) (b c:Nat) (y:Nat->V)  (j:Nat->V)
include L a n g m x t k p r q ln co b c y j
theorem ArD (h0:ilt (ofNat b) (ofNat q)=false):Au (PM L) (lp34 a n g m x t k p r q ln co) (AbB a n g m x t k p r q ln co b c y j)=some ((.ex 0),⟨jsV 30 0 Aa [(5,.ref 2)],[.cells (shL a n g m x t k p r q ln co),.row 3 1 0 Aa,.row 3 1 c y]⟩):=by
 exact Ae (ks:=[kn h0]) (by kernel_rfl)
theorem ArB (h0:ilt (ofNat b) (ofNat q)=true) (h18:ile 0 (ofNat b)=true) (h1:ieq (ofNat (ln b)) 2=true) (h19:Bs c 1 8=true):Au (PM L) (lp34 a n g m x t k p r q ln co) (AbB a n g m x t k p r q ln co b c y j)=some (.nm,⟨jsV 30 0 Aa [(5,.ref 2),(14,.sl 1 q (λu=>.sl 1 (ln u) (λi=>iV (co u i)))),(15,nV q),(16,iV (wr .i64 (Ai (ofNat b) 1)))],[.cells (shL a n g m x t k p r q ln co),.row 3 1 0 Aa,.row 3 1 (AE c 1) (AD c y (nV b))]⟩):=by
 exact Ae (ks:=[kn h0,kA (kn h18) (kn h0),kn h1,kn h19]) (by kernel_rfl)
theorem ArC (h0:ilt (ofNat b) (ofNat q)=true) (h18:ile 0 (ofNat b)=true) (h1:ieq (ofNat (ln b)) 2=false):Au (PM L) (lp34 a n g m x t k p r q ln co) (AbB a n g m x t k p r q ln co b c y j)=some (.nm,⟨jsV 30 0 Aa [(5,.ref 2),(14,.sl 1 q (λu=>.sl 1 (ln u) (λi=>iV (co u i)))),(15,nV q),(16,iV (wr .i64 (Ai (ofNat b) 1)))],[.cells (shL a n g m x t k p r q ln co),.row 3 1 0 Aa,.row 3 1 c y]⟩):=by
 exact Ae (ks:=[kn h0,kA (kn h18) (kn h0),kn h1]) (by kernel_rfl)
end
def AsD (a:Int) (n:Nat) (g:Nat->E6) (m:Nat) (x:Nat->Ev5) (t k:Int) (p:Nat) (r:Nat->Int) (q:Nat) (ln:Nat->Nat) (co:Nat->Nat->Int) :Nat->V:=lkV AK [(0,.agg (shL a n g m x t k p r q ln co)),(1,.ptr 0 0),(2,.ref 1),(3,iV 0),(4,iV (Cg a n g m x t k p r q ln (λi i_1=>co i i_1))),(8,.agg (shL a n g m x t k p r q ln co)),(9,iV (Cg a n g m x t k p r q ln (λi i_1=>co i i_1))),(10,iV (Cg a n g m x t k p r q ln (λi i_1=>co i i_1))),(11,bV (AQ (ieq (Cg a n g m x t k p r q ln (λi i_1=>co i i_1)) 0))),(13,.ptr 0 6)]
theorem Arr (L:LT) (a:Int) (n:Nat) (g:Nat->E6) (m:Nat) (x:Nat->Ev5) (t k:Int) (p:Nat) (r:Nat->Int) (q:Nat) (ln:Nat->Nat) (co:Nat->Nat->Int) (h17:AV q (λi=>AV (ln i) (λ_=>true))=true) (h18:Ct n=true) (h19:Aq n=true) (h20:Aq m=true) (h21:Aq p=true) (h22:Aq q=true) (h23:AV q (λi=>Aq (ln i))=true) (h0:ieq (Cg a n g m x t k p r q ln (λi i_1=>co i i_1)) 0=false):(A0 (Aj tab ⟨Aw tb34,L,Gl⟩ Tryz.f70 [.agg (shL a n g m x t k p r q ln co)] [])).sem=some ((.tup [.ref 0,iV (Cg a n g m x t k p r q ln (λi i_1=>co i i_1))]),[.row 3 1 0 Aa]):=by
 exact Ae (ks:=[kL n,kL m,kL p,kn h17,kn h18,kA (kn h19) (kA (kn h20) (kA (kn h21) (kA (kn h22) (kn h23)))),kN (kn h0)]) (by kernel_rfl)
theorem Arq (L:LT) (p0:PT) (a:Int) (n:Nat) (g:Nat->E6) (m:Nat) (x:Nat->Ev5) (t k:Int) (p:Nat) (r:Nat->Int) (q:Nat) (ln:Nat->Nat) (co:Nat->Nat->Int) (b c:Nat) (y:Nat->V) (h17:AV q (λi=>AV (ln i) (λ_=>true))=true) (h18:Ct n=true) (h19:Aq n=true) (h20:Aq m=true) (h21:Aq p=true) (h22:Aq q=true) (h23:AV q (λi=>Aq (ln i))=true) (h0:ieq (Cg a n g m x t k p r q ln (λi i_1=>co i i_1)) 0=true) (hp0:p0 (PM (onP 0 p0 (Aei a n g m x t k p r q ln co b c y) L)) (AbB a n g m x t k p r q ln co 0 0 Aa (AsD a n g m x t k p r q ln co ))=true):(A0 (Aj tab ⟨Aw tb34,onP 0 p0 (Aei a n g m x t k p r q ln co b c y) L,Gl⟩ Tryz.f70 [.agg (shL a n g m x t k p r q ln co)] [])).sem=some ((.tup [.ref 0,iV 0]),[.row 3 1 c y]):=by
 exact Ae (ks:=[kL n,kL m,kL p,kn h17,kn h18,kA (kn h19) (kA (kn h20) (kA (kn h21) (kA (kn h22) (kn h23)))),kN (kn h0),kn hp0]) (by kernel_rfl)
theorem Ai8 (L:LT) (a:Int) (n:Nat) (g:Nat->E6) (m:Nat) (x:Nat->Ev5) (t k:Int) (p:Nat) (r:Nat->Int) (q:Nat) (ln:Nat->Nat) (co:Nat->Nat->Int) (h8:q * 8 <= 140737488355328):∀ (e b:Nat) (j:Nat->V) (u:Nat),q=b+e->e<u ->
  (Av (PM L) (lp34 a n g m x t k p r q ln co) u (AbB a n g m x t k p r q ln co b (Ak (λi=>ieq (ofNat (ln i)) 2) b) (E8 (λi=>ieq (ofNat (ln i)) 2) (λi=>ofNat i) b) j)).sem=some (Aei a n g m x t k p r q ln co q (Ak (λi=>ieq (ofNat (ln i)) 2) q) (E8 (λi=>ieq (ofNat (ln i)) 2) (λi=>ofNat i) q))
 | 0,b,j,u+1,h,_=>by
  have:q=b:=by omega
  subst this;exact Af (ArD L a n g m x t k p r q ln co q _ _ j (A1 (Nat.le_refl _)))
 | e+1,b,j,u+1,h,h2=>by
  have hl:b<q:=by omega
  have hcl:=B2 (λi=>ieq (ofNat (ln i)) 2) b;have next:=Ai8 L a n g m x t k p r q ln co h8 e (b+1) Aa u (by omega) (by omega)
  cases hp:(λi=>ieq (ofNat (ln i)) 2) b with
  | true =>
   rw [Af (ArB L a n g m x t k p r q ln co b (Ak (λi=>ieq (ofNat (ln i)) 2) b) (E8 (λi=>ieq (ofNat (ln i)) 2) (λi=>ofNat i) b) j (ofNat_lt hl) (Cf b) hp (FT (by omega))),AT,A3 hl (by omega)];rw [Sq hp,By hp] at next
   exact next
  | false=>
   rw [Af (ArC L a n g m x t k p r q ln co b (Ak (λi=>ieq (ofNat (ln i)) 2) b) (E8 (λi=>ieq (ofNat (ln i)) 2) (λi=>ofNat i) b) j (ofNat_lt hl) (Cf b) hp),AT,A3 hl (by omega)];rw [Yq hp,BQ hp] at next
   exact next
theorem p34:Ap Tryz.prog Gl 70 XH:=by
 refine Ah A2 mixed Tryz.func70 (by kernel_rfl) (by kernel_rfl) λvs v h' h=>?_;unfold XH at h;split at h
 ·rename_i v1
  obtain ⟨s,a1,h⟩:=apS_some h;obtain ⟨hf,h⟩:=Ac h;obtain ⟨h8,h⟩:=Ac h;obtain ⟨hn,h⟩:=Ac h;obtain ⟨a,n,g,m,x,t,k,p,r,q,C⟩:=s;have hA:Ba [v1] [.agg [iV a,.sl 6 n (λi=>eV (g i)),.sl 5 m (λi=>evV (x i)),iV t,iV k,.sl 1 p (λi=>iV (r i)),.sl 1 q (λu=>.sl 1 (C u).1 (λi=>iV ((C u).2 i)))]]:=λS w cs hv=>by
   obtain ⟨c,l,rfl,q1,q2⟩:=hv;exact ⟨c,_,rfl,a1 S w c q1,q2⟩
  have hn:Aq n=true∧Aq m=true∧Aq p=true∧Aq q=true∧(AV q λi=>Aq (C i).1)=true:=by simpa [D7,Al] using hn
  obtain ⟨n1,n2,n3,n4,n5⟩:=hn;have all2:∀ (q:Nat) (ln:Nat->Nat),(AV q λi=>AV (ln i) λ_=>true)=true:=λ_ _=>A8.2 λ_ _=>A8.2 λ_ _=>rfl;obtain ⟨ln,co,hC⟩:∃ (ln:Nat->Nat) (co:Nat->Nat->Int),C=λu=>(ln u,co u):=⟨λu=>(C u).1,λu=>(C u).2,rfl⟩;subst hC;have hx:=Bh tb34_ok [(0,lp34 a n g m x t k p r q ln co)] (G:=Gl);have hL:=Bb [(0,lp34 a n g m x t k p r q ln co)];cases hs:BU ⟨a,n,g,m,x,t,k,p,r,q,λu=>(ln u,co u)⟩ with
  | false =>
   rw [hs] at h;have:=Ab h;simp only [noI,Prod.mk.injEq] at this;obtain ⟨rfl,rfl⟩:=this;have hc:ieq (Cg a n g m x t k p r q ln co) 0=false:=by unfold Cg; rw [hs]; rfl
   have hv:Cg a n g m x t k p r q ln co=70:=by unfold Cg; rw [hs]; rfl
   refine ⟨_,AO Gl tb34 [(0,lp34 a n g m x t k p r q ln co)],_,hA,rfl,hx.1,hx.2,?_,Am.refl _⟩;have hw:=Arr (BC [(0,lp34 a n g m x t k p r q ln co)]) a n g m x t k p r q ln co (all2 _ _) hf n1 n2 n3 n4 n5 hc;rw [hv] at hw;exact hw
  | true =>
   rw [hs] at h;have hc:ieq (Cg a n g m x t k p r q ln co) 0=true:=by unfold Cg; rw [hs]; rfl
   have:=Ab h;simp only [noI,Prod.mk.injEq] at this;obtain ⟨rfl,rfl⟩:=this;have h8':q * 8 <= 140737488355328:=of_decide_eq_true h8;have hrun:=λL j=>Ai8 L a n g m x t k p r q ln co h8' q 0 j (q+1) (by omega) (by omega);refine ⟨_,AO Gl tb34 [(0,lp34 a n g m x t k p r q ln co)],_,hA,rfl,hx.1,hx.2,AW (AX hL hL) _ (Arq _ _ a n g m x t k p r q ln co q (Ak (λi=>ieq (ofNat (ln i)) 2) q) (E8 (λi=>ieq (ofNat (ln i)) 2) (λi=>ofNat i) q) (all2 _ _) hf n1 n2 n3 n4 n5 hc (A4 (hrun _ _))),?_⟩;exact Am.one λi hi=>(U4 _ _ i hi).symm
 ·cases h
end Go.Proofs.YtkbafjceglhjhaaGreatDoor.Sh
