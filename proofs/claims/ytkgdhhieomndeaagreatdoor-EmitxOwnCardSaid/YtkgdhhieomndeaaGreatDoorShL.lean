/-
  Layer 7: a shape's threads, its last values, the locations that are asked for: the program's, the document's. No conditions.
-/
import Derived.Test.YtkgdhhieomndeaaGreatDoorShK
namespace Go.Proofs.YtkgdhhieomndeaaGreatDoor.Sh
open Go.Sy Ed
open Int (ofNat)
set_option maxHeartbeats 1000000
set_option maxRecDepth 4000
def Eo (P:Nat->Bool) (v:Nat->Int):Nat->Nat->V
 | 0=>λ_=>.und
 | b+1=>bif P b then As (An P b) (Eo P v b) (iV (v b)) else Eo P v b
theorem RQ {P:Nat->Bool} {v:Nat->Int} {b:Nat} (h:P b=true):Eo P v (b+1)=As (An P b) (Eo P v b) (iV (v b)):=by rw [Eo,h]; rfl
theorem XS {P:Nat->Bool} {v:Nat->Int} {b:Nat} (h:P b=false):Eo P v (b+1)=Eo P v b:=by rw [Eo,h]; rfl
def TO (P:Nat->Bool) (n m:Nat):Nat:=Cq (λi=>P i && decide (An P i=m)) n
theorem Ny {P:Nat->Bool} {n i:Nat} (hi:i<n) (h:P i=true):TO P n (An P i)=i:=N5 hi (by simp [h]) λk hk=>by
 cases hp:P k with
 | false=>rfl
 | true =>have h1:=B7 hp;have h2:=Bg P (show k+1 <= i by omega);simp;omega
theorem EE {P:Nat->Bool}:∀ {n m:Nat},m<An P n->TO P n m<n∧P (TO P n m)=true∧An P (TO P n m)=m
 | 0,m,h=>by simp [An] at h
 | n+1,m,h=>by
  have:∃ i,i<n+1∧P i=true∧An P i=m:=by
   cases hp:P n with
   | true =>
    rw [B7 hp] at h;by_cases hm:m=An P n
    ·exact ⟨n,by omega,hp,hm.symm⟩
    ·obtain ⟨a,b,c⟩:=EE (P:=P) (n:=n) (m:=m) (by omega)
     exact ⟨_,by omega,b,c⟩
   | false =>rw [Cc hp] at h;obtain ⟨a,b,c⟩:=EE (n:=n) (m:=m) h;exact ⟨_,by omega,b,c⟩
  obtain ⟨i,h1,h2,h3⟩:=this;rw [<- h3,Ny h1 h2];exact ⟨h1,h2,rfl⟩
theorem Ue (P:Nat->Bool) (v:Nat->Int) {n:Nat}:∀ m,m<An P n->Eo P v n m=iV (v (TO P n m)):=by
 have key:∀ b,b <= n->∀ i,i<b->P i=true->Eo P v b (An P i)=iV (v i):=λb=>by
  induction b with
  | zero=>intro _ i hi; omega
  | succ b ih =>
   intro hb i hi hp;cases hpb:P b with
   | true =>
    rw [RQ hpb,Bo];by_cases he:i=b
    ·rw [he,Nat.beq_refl]; rfl
    ·have h1:=B7 hp
     have h2:=Bg P (show i+1 <= b by omega);rw [nbeq_ne (by omega)];exact ih (by omega) i (by omega) hp
   | false =>
    have he:i ≠ b:=λhe=>by rw [he,hpb] at hp; cases hp
    rw [XS hpb];exact ih (by omega) i (by omega) hp
 intro m hm;obtain ⟨h1,h2,h3⟩:=EE hm;have:=key n (Nat.le_refl _) _ h1 h2;rw [h3] at this;exact this
theorem Lr:∀ n,An (λ_=>true) n=n
 | 0=>rfl
 | n+1=>by rw [B7 rfl,Lr n]
theorem Z5 (v:Nat->Int) {n:Nat} (m:Nat) (h:m<n):Eo (λ_=>true) v n m=iV (v m):=by
 have h1:=Ue (λ_=>true) v (n:=n) m (by rw [Lr]; exact h);have h2:=Ny (P:=λ_=>true) h rfl;rw [Lr] at h2;rw [h1,h2]
def B2 (a:Int) (n:Nat) (g:Nat->E6) (m:Nat) (x:Nat->Ev5) (t k:Int) (p:Nat) (r:Nat->Int) (q:Nat) (ln:Nat->Nat) (co:Nat->Nat->Int):Int:=sel (Cj ⟨a,n,g,m,x,t,k,p,r,q,λu=>(ln u,co u)⟩) 0 70
def GE:List V->AE
 | [v]=>apS v λs=>.br (BC s.ne) (.br (BG s) (.leaf (iV (B2 s.arch s.ne s.E s.nx s.X s.tt s.kk s.nr s.R s.nc (λi=>(s.C i).1) (λi=>(s.C i).2)),[])) .fail) .fail
 | _=>.fail
theorem AbK:Ax Tryz.prog Gl 35 GE:=p25
theorem Ap6:Ax Tryz.prog Gl 67 GE:=p39
def noI (e:Int):V×List Blk:=(.tup [.ref 0,iV e],[.row 3 1 0 λ_=>.und])
def Ac2:List V->AE
 | [v]=>apS v λs=>.br (BC s.ne) (.br (E9 s.nc) (.br (BG s) (.br (Cj s) (.leaf (.tup [.ref 0,iV 0],[.row 3 1 s.nc λk=>iV (ofNat (s.C k).1)])) (.leaf (noI 70))) .fail) .fail) .fail
 | _=>.fail
def Xx:List V->AE
 | [v]=>apS v λs=>.br (BC s.ne) (.br (E9 s.nc) (.br (BG s) (.br (Cj s) (.leaf (.tup [.ref 0,iV 0],[.row 3 1 (An (λk=>ieq (ofNat (s.C k).1) 2) s.nc) λk=>iV (ofNat (TO (λk=>ieq (ofNat (s.C k).1) 2) s.nc k))])) (.leaf (noI 70))) .fail) .fail) .fail
 | _=>.fail
def lp26 (_:Int) (_:Nat) (_:Nat->E6) (m:Nat) (_:Nat->Ev5) (_ _:Int) (_:Nat) (_:Nat->Int) (_:Nat) (_:Nat->Nat) (_:Nat->Nat->Int) (_:Int):Lp:=⟨bmK 41 0 [1,7,24,25,26],3,bmK 41 0 [7],3,m+1⟩
def st26 (a:Int) (n:Nat) (g:Nat->E6) (m:Nat) (x:Nat->Ev5) (t k:Int) (p:Nat) (r:Nat->Int) (q:Nat) (ln:Nat->Nat) (co:Nat->Nat->Int) (z:Int) (b c:Nat) (y:Nat->V) (j:Nat->V):St:=⟨jsV 41 0 j [(1,iV z),(7,.ref 2),(24,.sl 5 m (λi=>evV (x i))),(25,nV m),(26,nV b)],[.cells (shL a n g m x t k p r q ln co),.row 3 1 0 Aa,.row 3 1 c y]⟩
def en26e (a:Int) (n:Nat) (g:Nat->E6) (m:Nat) (x:Nat->Ev5) (t k:Int) (p:Nat) (r:Nat->Int) (q:Nat) (ln:Nat->Nat) (co:Nat->Nat->Int) (_:Int) (_ c:Nat) (y:Nat->V):Ex×St:=(.ex 0,⟨jsV 41 0 Aa [(7,.ref 2)],[.cells (shL a n g m x t k p r q ln co),.row 3 1 0 Aa,.row 3 1 c y]⟩)
def lp36 (_:Int) (_:Nat) (_:Nat->E6) (m:Nat) (_:Nat->Ev5) (_ _:Int) (_:Nat) (_:Nat->Int) (_:Nat) (_:Nat->Nat) (_:Nat->Nat->Int) (_:Int):Lp:=⟨bmK 39 0 [1,2,6,7],3,bmK 39 0 [6],3,m+1⟩
def st36 (a:Int) (n:Nat) (g:Nat->E6) (m:Nat) (x:Nat->Ev5) (t k:Int) (p:Nat) (r:Nat->Int) (q:Nat) (ln:Nat->Nat) (co:Nat->Nat->Int) (z:Int) (b c:Nat) (y:Nat->V) (j:Nat->V):St:=⟨jsV 39 0 j [(1,iV z),(2,.ptr 0 0),(6,.ref 2),(7,nV b)],[.cells (shL a n g m x t k p r q ln co),.row 3 1 0 Aa,.row 3 1 c y]⟩
def jk36 (a:Int) (n:Nat) (g:Nat->E6) (m:Nat) (x:Nat->Ev5) (t k:Int) (p:Nat) (r:Nat->Int) (q:Nat) (ln:Nat->Nat) (co:Nat->Nat->Int) (z:Int) :Nat->V:=lkV A9 [(0,.agg (shL a n g m x t k p r q ln co)),(4,.ref 1),(5,iV 0),(8,.agg (shL a n g m x t k p r q ln co)),(9,iV (B2 a n g m x t k p r q ln (λi i_1=>co i i_1))),(10,bV (A5 (ieq (B2 a n g m x t k p r q ln (λi i_1=>co i i_1)) 0))),(11,iV z),(12,bV (ilt z 0)),(13,bV (ilt z 0)),(14,iV z),(15,.ptr 0 3),(16,iV t),(17,bV (ile t z)),(18,bV (ile t z))]
noncomputable def Zp:AK:=(35,GE)::[]
theorem Ae4:Aq Tryz.prog Gl Zp:=.cons AbK .nil
def lp27 (_:Int) (_:Nat) (_:Nat->E6) (_:Nat) (_:Nat->Ev5) (_ _:Int) (_:Nat) (_:Nat->Int) (q:Nat) (_:Nat->Nat) (_:Nat->Nat->Int):Lp:=⟨bmK 27 0 [5,14,15,16],3,bmK 27 0 [5],3,q+1⟩
def st27 (a:Int) (n:Nat) (g:Nat->E6) (m:Nat) (x:Nat->Ev5) (t k:Int) (p:Nat) (r:Nat->Int) (q:Nat) (ln:Nat->Nat) (co:Nat->Nat->Int) (b c:Nat) (y:Nat->V) (j:Nat->V):St:=⟨jsV 27 0 j [(5,.ref 2),(14,.sl 1 q (λu=>.sl 1 (ln u) (λi=>iV (co u i)))),(15,nV q),(16,nV b)],[.cells (shL a n g m x t k p r q ln co),.row 3 1 0 Aa,.row 3 1 c y]⟩
def en27e (a:Int) (n:Nat) (g:Nat->E6) (m:Nat) (x:Nat->Ev5) (t k:Int) (p:Nat) (r:Nat->Int) (q:Nat) (ln:Nat->Nat) (co:Nat->Nat->Int) (_ c:Nat) (y:Nat->V):Ex×St:=(.ex 0,⟨jsV 27 0 Aa [(5,.ref 2)],[.cells (shL a n g m x t k p r q ln co),.row 3 1 0 Aa,.row 3 1 c y]⟩)
noncomputable def body27 (L:LT):St->T (Ex×St):=λst=>AD tab ⟨Am Zp,L,Gl⟩ (Au Tryz.f42 0) 0 st
section
variable (L:LT) (a:Int) (n:Nat) (g:Nat->E6) (m:Nat) (x:Nat->Ev5) (t k:Int) (p:Nat) (r:Nat->Int) (q:Nat) (ln:Nat->Nat) (co:Nat->Nat->Int) (b c:Nat) (y:Nat->V)  (j:Nat->V)
include L a n g m x t k p r q ln co b c y j
theorem r27e (h0:ilt (ofNat b) (ofNat q)=false):Al (body27 L) (lp27 a n g m x t k p r q ln co) (st27 a n g m x t k p r q ln co b c y j)=some ((.ex 0),⟨jsV 27 0 Aa [(5,.ref 2)],[.cells (shL a n g m x t k p r q ln co),.row 3 1 0 Aa,.row 3 1 c y]⟩):=by
 exact Ac (ks:=[kn h0]) (by kernel_rfl)
theorem Apj (h0:ilt (ofNat b) (ofNat q)=true) (h17:ile 0 (ofNat b)=true) (h18:Bn c 1 8=true):Al (body27 L) (lp27 a n g m x t k p r q ln co) (st27 a n g m x t k p r q ln co b c y j)=some (.nm,⟨jsV 27 0 Aa [(5,.ref 2),(14,.sl 1 q (λu=>.sl 1 (ln u) (λi=>iV (co u i)))),(15,nV q),(16,iV (wr .i64 (Ak (ofNat b) 1)))],[.cells (shL a n g m x t k p r q ln co),.row 3 1 0 Aa,.row 3 1 (AV c 1) (As c y (iV (ofNat (ln b))))]⟩):=by
 exact Ac (ks:=[kn h0,kA (kn h17) (kn h0),kn h18]) (by kernel_rfl)
end
def ApM (a:Int) (n:Nat) (g:Nat->E6) (m:Nat) (x:Nat->Ev5) (t k:Int) (p:Nat) (r:Nat->Int) (q:Nat) (ln:Nat->Nat) (co:Nat->Nat->Int) :Nat->V:=lkV A9 [(0,.agg (shL a n g m x t k p r q ln co)),(1,.ptr 0 0),(2,.ref 1),(3,iV 0),(4,iV (B2 a n g m x t k p r q ln (λi i_1=>co i i_1))),(8,.agg (shL a n g m x t k p r q ln co)),(9,iV (B2 a n g m x t k p r q ln (λi i_1=>co i i_1))),(10,iV (B2 a n g m x t k p r q ln (λi i_1=>co i i_1))),(11,bV (A5 (ieq (B2 a n g m x t k p r q ln (λi i_1=>co i i_1)) 0))),(13,.ptr 0 6)]
theorem AoO (L:LT) (a:Int) (n:Nat) (g:Nat->E6) (m:Nat) (x:Nat->Ev5) (t k:Int) (p:Nat) (r:Nat->Int) (q:Nat) (ln:Nat->Nat) (co:Nat->Nat->Int) (h17:A4 q (λi=>A4 (ln i) (λ_=>true))=true) (h18:BC n=true) (h19:Af n=true) (h20:Af m=true) (h21:Af p=true) (h22:Af q=true) (h23:A4 q (λi=>Af (ln i))=true) (h0:ieq (B2 a n g m x t k p r q ln (λi i_1=>co i i_1)) 0=false):(Ay (Ai tab ⟨Am Zp,L,Gl⟩ Tryz.f42 [.agg (shL a n g m x t k p r q ln co)] [])).sem=some ((.tup [.ref 0,iV (B2 a n g m x t k p r q ln (λi i_1=>co i i_1))]),[.row 3 1 0 Aa]):=by
 exact Ac (ks:=[kL n,kL m,kL p,kn h17,kn h18,kA (kn h19) (kA (kn h20) (kA (kn h21) (kA (kn h22) (kn h23)))),kN (kn h0)]) (by kernel_rfl)
theorem AoN (L:LT) (p0:PT) (a:Int) (n:Nat) (g:Nat->E6) (m:Nat) (x:Nat->Ev5) (t k:Int) (p:Nat) (r:Nat->Int) (q:Nat) (ln:Nat->Nat) (co:Nat->Nat->Int) (b c:Nat) (y:Nat->V) (h17:A4 q (λi=>A4 (ln i) (λ_=>true))=true) (h18:BC n=true) (h19:Af n=true) (h20:Af m=true) (h21:Af p=true) (h22:Af q=true) (h23:A4 q (λi=>Af (ln i))=true) (h0:ieq (B2 a n g m x t k p r q ln (λi i_1=>co i i_1)) 0=true) (hp0:p0 (body27 (onP 0 p0 (en27e a n g m x t k p r q ln co b c y) L)) (st27 a n g m x t k p r q ln co 0 0 Aa (ApM a n g m x t k p r q ln co ))=true):(Ay (Ai tab ⟨Am Zp,onP 0 p0 (en27e a n g m x t k p r q ln co b c y) L,Gl⟩ Tryz.f42 [.agg (shL a n g m x t k p r q ln co)] [])).sem=some ((.tup [.ref 0,iV 0]),[.row 3 1 c y]):=by
 exact Ac (ks:=[kL n,kL m,kL p,kn h17,kn h18,kA (kn h19) (kA (kn h20) (kA (kn h21) (kA (kn h22) (kn h23)))),kN (kn h0),kn hp0]) (by kernel_rfl)
theorem run27 (L:LT) (a:Int) (n:Nat) (g:Nat->E6) (m:Nat) (x:Nat->Ev5) (t k:Int) (p:Nat) (r:Nat->Int) (q:Nat) (ln:Nat->Nat) (co:Nat->Nat->Int) (h8:q * 8 <= 140737488355328):∀ (e b:Nat) (j:Nat->V) (u:Nat),q=b+e->e<u ->
  (A3 (body27 L) (lp27 a n g m x t k p r q ln co) u (st27 a n g m x t k p r q ln co b (An (λ_=>true) b) (Eo (λ_=>true) (λi=>ofNat (ln i)) b) j)).sem=some (en27e a n g m x t k p r q ln co q (An (λ_=>true) q) (Eo (λ_=>true) (λi=>ofNat (ln i)) q))
 | 0,b,j,u+1,h,_=>by
  have:q=b:=by omega
  subst this;exact Ae (r27e L a n g m x t k p r q ln co q _ _ j (Aw (Nat.le_refl _)))
 | e+1,b,j,u+1,h,h2=>by
  have hl:b<q:=by omega
  have hcl:=Bm (λ_=>true) b;have next:=run27 L a n g m x t k p r q ln co h8 e (b+1) Aa u (by omega) (by omega)
  cases hp:(λ_=>true) b with
  | true =>
   rw [Ae (Apj L a n g m x t k p r q ln co b (An (λ_=>true) b) (Eo (λ_=>true) (λi=>ofNat (ln i)) b) j (ofNat_lt hl) (AX b) (C0 (by omega))),A6,Ap hl (by omega)];rw [RQ hp,B7 hp] at next
   exact next
  | false=>cases hp
theorem p27:Ax Tryz.prog Gl 42 Ac2:=by
 refine Aj A7 mixed Tryz.func42 (by kernel_rfl) (by kernel_rfl) λvs v h' h=>?_;unfold Ac2 at h;split at h
 ·rename_i v1
  obtain ⟨s,a1,h⟩:=apS_some h;obtain ⟨hf,h⟩:=Ad h;obtain ⟨h8,h⟩:=Ad h;obtain ⟨hn,h⟩:=Ad h;obtain ⟨a,n,g,m,x,t,k,p,r,q,C⟩:=s;have hA:Bj [v1] [.agg [iV a,.sl 6 n (λi=>eV (g i)),.sl 5 m (λi=>evV (x i)),iV t,iV k,.sl 1 p (λi=>iV (r i)),.sl 1 q (λu=>.sl 1 (C u).1 (λi=>iV ((C u).2 i)))]]:=λS w cs hv=>by
   obtain ⟨c,l,rfl,q1,q2⟩:=hv;exact ⟨c,_,rfl,a1 S w c q1,q2⟩
  have hn:Af n=true∧Af m=true∧Af p=true∧Af q=true∧(A4 q λi=>Af (C i).1)=true:=by simpa [BG,Ao] using hn
  obtain ⟨n1,n2,n3,n4,n5⟩:=hn;have CN:∀ (q:Nat) (ln:Nat->Nat),(A4 q λi=>A4 (ln i) λ_=>true)=true:=λ_ _=>A0.2 λ_ _=>A0.2 λ_ _=>rfl;obtain ⟨ln,co,hC⟩:∃ (ln:Nat->Nat) (co:Nat->Nat->Int),C=λu=>(ln u,co u):=⟨λu=>(C u).1,λu=>(C u).2,rfl⟩;subst hC;have hx:=AH Ae4 [(0,lp27 a n g m x t k p r q ln co)] (G:=Gl);have hL:=AQ [(0,lp27 a n g m x t k p r q ln co)];cases hs:Cj ⟨a,n,g,m,x,t,k,p,r,q,λu=>(ln u,co u)⟩ with
  | false =>
   rw [hs] at h;have:=Ab h;simp only [noI,Prod.mk.injEq] at this;obtain ⟨rfl,rfl⟩:=this;have hc:ieq (B2 a n g m x t k p r q ln co) 0=false:=by unfold B2; rw [hs]; rfl
   have hv:B2 a n g m x t k p r q ln co=70:=by unfold B2; rw [hs]; rfl
   refine ⟨_,AA Gl Zp [(0,lp27 a n g m x t k p r q ln co)],_,hA,rfl,hx.1,hx.2,?_,Av.refl _⟩;have hw:=AoO (Ba [(0,lp27 a n g m x t k p r q ln co)]) a n g m x t k p r q ln co (CN _ _) hf n1 n2 n3 n4 n5 hc;rw [hv] at hw;exact hw
  | true =>
   rw [hs] at h;have hc:ieq (B2 a n g m x t k p r q ln co) 0=true:=by unfold B2; rw [hs]; rfl
   have:=Ab h;simp only [noI,Prod.mk.injEq] at this;obtain ⟨rfl,rfl⟩:=this;have h8':q * 8 <= 140737488355328:=of_decide_eq_true h8;have hrun:=λL j=>run27 L a n g m x t k p r q ln co h8' q 0 j (q+1) (by omega) (by omega);refine ⟨_,AA Gl Zp [(0,lp27 a n g m x t k p r q ln co)],_,hA,rfl,hx.1,hx.2,AP (AI hL hL) _ (AoN _ _ a n g m x t k p r q ln co q (An (λ_=>true) q) (Eo (λ_=>true) (λi=>ofNat (ln i)) q) (CN _ _) hf n1 n2 n3 n4 n5 hc (Az (hrun _ _))),?_⟩;rw [Lr];exact Av.one λi hi=>(Z5 (λi=>ofNat (ln i)) i hi).symm
 ·cases h
noncomputable def Zo:AK:=(35,GE)::[]
theorem Ae3:Aq Tryz.prog Gl Zo:=.cons AbK .nil
def Sl (_:Int) (_:Nat) (_:Nat->E6) (_:Nat) (_:Nat->Ev5) (_ _:Int) (_:Nat) (_:Nat->Int) (q:Nat) (_:Nat->Nat) (_:Nat->Nat->Int):Lp:=⟨bmK 30 0 [5,14,15,16],3,bmK 30 0 [5],3,q+1⟩
def Abf (a:Int) (n:Nat) (g:Nat->E6) (m:Nat) (x:Nat->Ev5) (t k:Int) (p:Nat) (r:Nat->Int) (q:Nat) (ln:Nat->Nat) (co:Nat->Nat->Int) (b c:Nat) (y:Nat->V) (j:Nat->V):St:=⟨jsV 30 0 j [(5,.ref 2),(14,.sl 1 q (λu=>.sl 1 (ln u) (λi=>iV (co u i)))),(15,nV q),(16,nV b)],[.cells (shL a n g m x t k p r q ln co),.row 3 1 0 Aa,.row 3 1 c y]⟩
def Adl (a:Int) (n:Nat) (g:Nat->E6) (m:Nat) (x:Nat->Ev5) (t k:Int) (p:Nat) (r:Nat->Int) (q:Nat) (ln:Nat->Nat) (co:Nat->Nat->Int) (_ c:Nat) (y:Nat->V):Ex×St:=(.ex 0,⟨jsV 30 0 Aa [(5,.ref 2)],[.cells (shL a n g m x t k p r q ln co),.row 3 1 0 Aa,.row 3 1 c y]⟩)
noncomputable def P2 (L:LT):St->T (Ex×St):=λst=>AD tab ⟨Am Zo,L,Gl⟩ (Au Tryz.f41 0) 0 st
section
variable (L:LT) (a:Int) (n:Nat) (g:Nat->E6) (m:Nat) (x:Nat->Ev5) (t k:Int) (p:Nat) (r:Nat->Int) (q:Nat) (ln:Nat->Nat) (co:Nat->Nat->Int) (b c:Nat) (y:Nat->V)  (j:Nat->V)
include L a n g m x t k p r q ln co b c y j
theorem Api (h0:ilt (ofNat b) (ofNat q)=false):Al (P2 L) (Sl a n g m x t k p r q ln co) (Abf a n g m x t k p r q ln co b c y j)=some ((.ex 0),⟨jsV 30 0 Aa [(5,.ref 2)],[.cells (shL a n g m x t k p r q ln co),.row 3 1 0 Aa,.row 3 1 c y]⟩):=by
 exact Ac (ks:=[kn h0]) (by kernel_rfl)
theorem Apg (h0:ilt (ofNat b) (ofNat q)=true) (h18:ile 0 (ofNat b)=true) (h1:ieq (ofNat (ln b)) 2=true) (h19:Bn c 1 8=true):Al (P2 L) (Sl a n g m x t k p r q ln co) (Abf a n g m x t k p r q ln co b c y j)=some (.nm,⟨jsV 30 0 Aa [(5,.ref 2),(14,.sl 1 q (λu=>.sl 1 (ln u) (λi=>iV (co u i)))),(15,nV q),(16,iV (wr .i64 (Ak (ofNat b) 1)))],[.cells (shL a n g m x t k p r q ln co),.row 3 1 0 Aa,.row 3 1 (AV c 1) (As c y (nV b))]⟩):=by
 exact Ac (ks:=[kn h0,kA (kn h18) (kn h0),kn h1,kn h19]) (by kernel_rfl)
theorem Aph (h0:ilt (ofNat b) (ofNat q)=true) (h18:ile 0 (ofNat b)=true) (h1:ieq (ofNat (ln b)) 2=false):Al (P2 L) (Sl a n g m x t k p r q ln co) (Abf a n g m x t k p r q ln co b c y j)=some (.nm,⟨jsV 30 0 Aa [(5,.ref 2),(14,.sl 1 q (λu=>.sl 1 (ln u) (λi=>iV (co u i)))),(15,nV q),(16,iV (wr .i64 (Ak (ofNat b) 1)))],[.cells (shL a n g m x t k p r q ln co),.row 3 1 0 Aa,.row 3 1 c y]⟩):=by
 exact Ac (ks:=[kn h0,kA (kn h18) (kn h0),kn h1]) (by kernel_rfl)
end
def ApL (a:Int) (n:Nat) (g:Nat->E6) (m:Nat) (x:Nat->Ev5) (t k:Int) (p:Nat) (r:Nat->Int) (q:Nat) (ln:Nat->Nat) (co:Nat->Nat->Int) :Nat->V:=lkV A9 [(0,.agg (shL a n g m x t k p r q ln co)),(1,.ptr 0 0),(2,.ref 1),(3,iV 0),(4,iV (B2 a n g m x t k p r q ln (λi i_1=>co i i_1))),(8,.agg (shL a n g m x t k p r q ln co)),(9,iV (B2 a n g m x t k p r q ln (λi i_1=>co i i_1))),(10,iV (B2 a n g m x t k p r q ln (λi i_1=>co i i_1))),(11,bV (A5 (ieq (B2 a n g m x t k p r q ln (λi i_1=>co i i_1)) 0))),(13,.ptr 0 6)]
theorem AoL (L:LT) (a:Int) (n:Nat) (g:Nat->E6) (m:Nat) (x:Nat->Ev5) (t k:Int) (p:Nat) (r:Nat->Int) (q:Nat) (ln:Nat->Nat) (co:Nat->Nat->Int) (h17:A4 q (λi=>A4 (ln i) (λ_=>true))=true) (h18:BC n=true) (h19:Af n=true) (h20:Af m=true) (h21:Af p=true) (h22:Af q=true) (h23:A4 q (λi=>Af (ln i))=true) (h0:ieq (B2 a n g m x t k p r q ln (λi i_1=>co i i_1)) 0=false):(Ay (Ai tab ⟨Am Zo,L,Gl⟩ Tryz.f41 [.agg (shL a n g m x t k p r q ln co)] [])).sem=some ((.tup [.ref 0,iV (B2 a n g m x t k p r q ln (λi i_1=>co i i_1))]),[.row 3 1 0 Aa]):=by
 exact Ac (ks:=[kL n,kL m,kL p,kn h17,kn h18,kA (kn h19) (kA (kn h20) (kA (kn h21) (kA (kn h22) (kn h23)))),kN (kn h0)]) (by kernel_rfl)
theorem AoK (L:LT) (p0:PT) (a:Int) (n:Nat) (g:Nat->E6) (m:Nat) (x:Nat->Ev5) (t k:Int) (p:Nat) (r:Nat->Int) (q:Nat) (ln:Nat->Nat) (co:Nat->Nat->Int) (b c:Nat) (y:Nat->V) (h17:A4 q (λi=>A4 (ln i) (λ_=>true))=true) (h18:BC n=true) (h19:Af n=true) (h20:Af m=true) (h21:Af p=true) (h22:Af q=true) (h23:A4 q (λi=>Af (ln i))=true) (h0:ieq (B2 a n g m x t k p r q ln (λi i_1=>co i i_1)) 0=true) (hp0:p0 (P2 (onP 0 p0 (Adl a n g m x t k p r q ln co b c y) L)) (Abf a n g m x t k p r q ln co 0 0 Aa (ApL a n g m x t k p r q ln co ))=true):(Ay (Ai tab ⟨Am Zo,onP 0 p0 (Adl a n g m x t k p r q ln co b c y) L,Gl⟩ Tryz.f41 [.agg (shL a n g m x t k p r q ln co)] [])).sem=some ((.tup [.ref 0,iV 0]),[.row 3 1 c y]):=by
 exact Ac (ks:=[kL n,kL m,kL p,kn h17,kn h18,kA (kn h19) (kA (kn h20) (kA (kn h21) (kA (kn h22) (kn h23)))),kN (kn h0),kn hp0]) (by kernel_rfl)
theorem AgT (L:LT) (a:Int) (n:Nat) (g:Nat->E6) (m:Nat) (x:Nat->Ev5) (t k:Int) (p:Nat) (r:Nat->Int) (q:Nat) (ln:Nat->Nat) (co:Nat->Nat->Int) (h8:q * 8 <= 140737488355328):∀ (e b:Nat) (j:Nat->V) (u:Nat),q=b+e->e<u ->
  (A3 (P2 L) (Sl a n g m x t k p r q ln co) u (Abf a n g m x t k p r q ln co b (An (λi=>ieq (ofNat (ln i)) 2) b) (Eo (λi=>ieq (ofNat (ln i)) 2) (λi=>ofNat i) b) j)).sem=some (Adl a n g m x t k p r q ln co q (An (λi=>ieq (ofNat (ln i)) 2) q) (Eo (λi=>ieq (ofNat (ln i)) 2) (λi=>ofNat i) q))
 | 0,b,j,u+1,h,_=>by
  have:q=b:=by omega
  subst this;exact Ae (Api L a n g m x t k p r q ln co q _ _ j (Aw (Nat.le_refl _)))
 | e+1,b,j,u+1,h,h2=>by
  have hl:b<q:=by omega
  have hcl:=Bm (λi=>ieq (ofNat (ln i)) 2) b;have next:=AgT L a n g m x t k p r q ln co h8 e (b+1) Aa u (by omega) (by omega)
  cases hp:(λi=>ieq (ofNat (ln i)) 2) b with
  | true =>
   rw [Ae (Apg L a n g m x t k p r q ln co b (An (λi=>ieq (ofNat (ln i)) 2) b) (Eo (λi=>ieq (ofNat (ln i)) 2) (λi=>ofNat i) b) j (ofNat_lt hl) (AX b) hp (C0 (by omega))),A6,Ap hl (by omega)];rw [RQ hp,B7 hp] at next
   exact next
  | false=>
   rw [Ae (Aph L a n g m x t k p r q ln co b (An (λi=>ieq (ofNat (ln i)) 2) b) (Eo (λi=>ieq (ofNat (ln i)) 2) (λi=>ofNat i) b) j (ofNat_lt hl) (AX b) hp),A6,Ap hl (by omega)];rw [XS hp,Cc hp] at next
   exact next
theorem p34:Ax Tryz.prog Gl 41 Xx:=by
 refine Aj A7 mixed Tryz.func41 (by kernel_rfl) (by kernel_rfl) λvs v h' h=>?_;unfold Xx at h;split at h
 ·rename_i v1
  obtain ⟨s,a1,h⟩:=apS_some h;obtain ⟨hf,h⟩:=Ad h;obtain ⟨h8,h⟩:=Ad h;obtain ⟨hn,h⟩:=Ad h;obtain ⟨a,n,g,m,x,t,k,p,r,q,C⟩:=s;have hA:Bj [v1] [.agg [iV a,.sl 6 n (λi=>eV (g i)),.sl 5 m (λi=>evV (x i)),iV t,iV k,.sl 1 p (λi=>iV (r i)),.sl 1 q (λu=>.sl 1 (C u).1 (λi=>iV ((C u).2 i)))]]:=λS w cs hv=>by
   obtain ⟨c,l,rfl,q1,q2⟩:=hv;exact ⟨c,_,rfl,a1 S w c q1,q2⟩
  have hn:Af n=true∧Af m=true∧Af p=true∧Af q=true∧(A4 q λi=>Af (C i).1)=true:=by simpa [BG,Ao] using hn
  obtain ⟨n1,n2,n3,n4,n5⟩:=hn;have CN:∀ (q:Nat) (ln:Nat->Nat),(A4 q λi=>A4 (ln i) λ_=>true)=true:=λ_ _=>A0.2 λ_ _=>A0.2 λ_ _=>rfl;obtain ⟨ln,co,hC⟩:∃ (ln:Nat->Nat) (co:Nat->Nat->Int),C=λu=>(ln u,co u):=⟨λu=>(C u).1,λu=>(C u).2,rfl⟩;subst hC;have hx:=AH Ae3 [(0,Sl a n g m x t k p r q ln co)] (G:=Gl);have hL:=AQ [(0,Sl a n g m x t k p r q ln co)];cases hs:Cj ⟨a,n,g,m,x,t,k,p,r,q,λu=>(ln u,co u)⟩ with
  | false =>
   rw [hs] at h;have:=Ab h;simp only [noI,Prod.mk.injEq] at this;obtain ⟨rfl,rfl⟩:=this;have hc:ieq (B2 a n g m x t k p r q ln co) 0=false:=by unfold B2; rw [hs]; rfl
   have hv:B2 a n g m x t k p r q ln co=70:=by unfold B2; rw [hs]; rfl
   refine ⟨_,AA Gl Zo [(0,Sl a n g m x t k p r q ln co)],_,hA,rfl,hx.1,hx.2,?_,Av.refl _⟩;have hw:=AoL (Ba [(0,Sl a n g m x t k p r q ln co)]) a n g m x t k p r q ln co (CN _ _) hf n1 n2 n3 n4 n5 hc;rw [hv] at hw;exact hw
  | true =>
   rw [hs] at h;have hc:ieq (B2 a n g m x t k p r q ln co) 0=true:=by unfold B2; rw [hs]; rfl
   have:=Ab h;simp only [noI,Prod.mk.injEq] at this;obtain ⟨rfl,rfl⟩:=this;have h8':q * 8 <= 140737488355328:=of_decide_eq_true h8;have hrun:=λL j=>AgT L a n g m x t k p r q ln co h8' q 0 j (q+1) (by omega) (by omega);refine ⟨_,AA Gl Zo [(0,Sl a n g m x t k p r q ln co)],_,hA,rfl,hx.1,hx.2,AP (AI hL hL) _ (AoK _ _ a n g m x t k p r q ln co q (An (λi=>ieq (ofNat (ln i)) 2) q) (Eo (λi=>ieq (ofNat (ln i)) 2) (λi=>ofNat i) q) (CN _ _) hf n1 n2 n3 n4 n5 hc (Az (hrun _ _))),?_⟩;exact Av.one λi hi=>(Ue _ _ i hi).symm
 ·cases h
end Go.Proofs.YtkgdhhieomndeaaGreatDoor.Sh
