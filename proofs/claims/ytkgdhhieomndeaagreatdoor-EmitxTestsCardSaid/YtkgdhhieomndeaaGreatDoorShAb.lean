/-
  Layer 11: the document's code of a shape (function 44): what the program writes; the registers (46) likewise. No conditions.
-/
import Derived.Test.YtkgdhhieomndeaaGreatDoorShYb
namespace Go.Proofs.YtkgdhhieomndeaaGreatDoor.Sh
open Go.Sy Ed
open Int (ofNat)
set_option maxHeartbeats 1000000
set_option maxRecDepth 4000
theorem Xa {i:Nat} (h:0<i):ilt 0 (ofNat i)=true:=ofNat_lt h
theorem Aju {s:Sh7} (H:IsSh s) {i:Nat} (hi:i<s.nx):feF s.E s.nx i=KC s.E s.X i:=by
 have hnx:=H.nx;have hlo:=H.cyc.lo;have hl:=SR H.cyc;have hE:s.E=λi=>s.E i:=rfl;unfold feF KC;cases i with
 | zero =>rw [show (0+s.nx-1) % s.nx=s.ne-1 by rw [hnx,Nat.zero_add]; exact Nat.mod_eq_of_lt (by omega),H.E _ (by omega)];exact TU hl
 | succ k =>
  rw [show (k+1+s.nx-1) % s.nx=k by rw [show k+1+s.nx-1=k+s.nx by omega,Nat.add_mod_right]; exact Nat.mod_eq_of_lt (by omega),show k+1-1=k from rfl,Xa (Nat.succ_pos k),cond_true,H.E k (by omega),H.X (k+1) (by omega),Cg (show k+1<s.ne by omega)];cases hp:ilt 0 (ofNat (plF s.ne (shG s.ne s.E) (k+1))) with
  | true=>rfl
  | false =>
   cases hk:ieq (shG s.ne s.E k).kind 5 with
   | false=>rfl
   | true =>
    have ho:obF (shG s.ne s.E) k=false:=by
     cases ho:obF (shG s.ne s.E) k with
     | false=>rfl
     | true=>rw [TU ho] at hk; cases hk
    have hth:ieq (thF s.ne (shG s.ne s.E) (k+1)) (thF s.ne (shG s.ne s.E) k)=true:=by
     have h1:=ZI (d:=λ_=>true) hl (show k+1<s.ne by omega);have h2:=ZI (d:=λ_=>true) hl (show k<s.ne by omega);rw [Cg (show k+1<s.ne by omega)] at h1;rw [Cg (show k<s.ne by omega)] at h2;have h1:thF s.ne (shG s.ne s.E) (k+1)=_:=h1;have h2:thF s.ne (shG s.ne s.E) k=_:=h2;rw [h1,h2,BU ho];exact Hx _
    have h3:plF s.ne (shG s.ne s.E) (k+1)=An (λj=>ieq (thF s.ne (shG s.ne s.E) (k+1)) (thF s.ne (shG s.ne s.E) j)) k+1:=Bx (p:=λj=>ieq (thF s.ne (shG s.ne s.E) (k+1)) (thF s.ne (shG s.ne s.E) j)) hth;rw [h3,Xa (Nat.succ_pos _)] at hp;cases hp
theorem Acz {s:Sh7} (H:IsSh s) {i:Nat} (hi:i<s.nx):ieq (s.X i).dir 1=A6 (ieq (s.X i).dir 2):=by
 have hnx:=H.nx;have hg:=Fu H.cyc;rw [H.X i (by omega),Cg (show i<s.ne by omega)];have h:=AoV (EF.1 hg.may i (by omega));show ieq (shG s.ne s.E i).src 1=A6 (ieq (shG s.ne s.E i).src 2);unfold Ac0 at h;cases h2:ieq (shG s.ne s.E i).src 2 with
 | true=>rw [BN h2]; rfl
 | false =>rw [h2,Bool.or_false] at h;exact h
theorem UE {s:Sh7} (H:IsSh s) {i:Nat} (hi:i<s.nx):(s.X i).th=ofNat (toN (s.X i).th)∧toN (s.X i).th<ttN s.ne (shG s.ne s.E):=by
 have hnx:=H.nx;have hl:=SR H.cyc;rw [H.X i (by omega),ZI hl (show i<s.ne by omega)];exact ⟨rfl,before (by omega) hl⟩
def rdP (x:Nat->Ev5) (u k:Nat):Bool:=Al (AE (toN (x k).th) u) (A6 (ieq (x k).dir 2))
theorem Ny (fe:Nat->Bool) (x:Nat->Ev5) (u:Nat):∀ i,i <= 16->(wsF fe x i).nx u=ofNat (An (rdP x u) i)
 | 0,_=>rfl
 | i+1,h=>by
  have ih:=Ny fe x u i (by omega);have ih2:=Ny fe x (toN (x i).th) i (by omega);have hle:An (rdP x u) i <= i:=Be _ _;refine (Ajv (fe i) (x i) i (wsF fe x i) u).trans ?_;cases hd:ieq (x i).dir 2 with
  | true =>rw [BU (p:=rdP x u) (show rdP x u i=false by unfold rdP; rw [hd]; cases AE (toN (x i).th) u <;> rfl)];exact ih
  | false =>
   by_cases hu:u=toN (x i).th
   ·subst hu
    rw [Bx (p:=rdP x (toN (x i).th)) (show rdP x (toN (x i).th) i=true by unfold rdP; rw [hd,Go.Sy.nbeq_self]; rfl),Go.Sy.nbeq_self,ih2];exact Aq (n:=16) (by omega) (by omega)
   ·rw [BU (p:=rdP x u) (show rdP x u i=false by unfold rdP; rw [Go.Sy.nbeq_ne (λh=>hu h.symm)]; rfl),Go.Sy.nbeq_ne hu]
    exact ih
theorem Agc {s:Sh7} (H:IsSh s) (fe:Nat->Bool) {i:Nat} (hi:i<s.nx):rgI s.X i=bif ieq (s.X i).dir 2 then -1 else (wsF fe s.X i).nx (toN (s.X i).th):=by
 have hnx:=H.nx;have hhi:=H.cyc.hi;unfold rgI;rw [Acz H hi,Ny fe s.X _ i (by omega)];cases ieq (s.X i).dir 2 with
 | true=>rfl
 | false =>
  show ofNat _=ofNat _;rw [Dl i λk hk=>?_];unfold rdP rgP;have h1:=(UE H hi).1;have h2:=(UE H (show k<s.nx by omega)).1;rw [Acz H (show k<s.nx by omega)];by_cases he:toN (s.X k).th=toN (s.X i).th
  ·rw [h2.trans ((congrArg ofNat he).trans h1.symm),Go.Sy.nbeq_self,Hx]
  ·rw [Go.Sy.nbeq_ne he,show ieq (s.X k).th (s.X i).th=false by rw [h1,h2]; exact K6 he]
theorem AnK {s:Sh7} (H:IsSh s) {i:Nat} (hi:i<s.nx):rgI s.X i=(wsS s).y i:=by
 have hnx:=H.nx;have hhi:=H.cyc.hi;have hy:=AjS (feF s.E s.nx) s.X (c:=i) (s.nx-(i+1));rw [show i+1+(s.nx-(i+1))=s.nx by omega] at hy;show _=(wsF (feF s.E s.nx) s.X s.nx).y i;have hle:An (rdP s.X (toN (s.X i).th)) i <= i:=Be _ _;rw [hy,Agc H (feF s.E s.nx) hi,AjL (show An (rdP s.X (toN (s.X i).th)) i<16 by omega) (Ny _ _ _ i (by omega)),Ny _ _ _ i (by omega)]
theorem Aow:Ax Tryz.prog Gl 23 AaD:=by
 refine Am A8 mixed Tryz.func23 (by kernel_rfl) (by kernel_rfl) λvs v h' h=>?_;unfold AaD at h;split at h
 ·rename_i v1
  obtain ⟨s,a1,h⟩:=apS_some h;obtain ⟨hf,h⟩:=Ad h;obtain ⟨hn,h⟩:=Ad h;obtain ⟨a,n,g,m,x,t,k,p,r,q,C⟩:=s;obtain ⟨ln,co,hC⟩:∃ (ln:Nat->Nat) (co:Nat->Nat->Int),C=λu=>(ln u,co u):=⟨λu=>(C u).1,λu=>(C u).2,rfl⟩;subst hC;have hA:Bf [v1] [.agg (shL a n g m x t k p r q ln co)]:=λS w cs hv=>by
   obtain ⟨c,l,rfl,q1,q2⟩:=hv;exact ⟨c,_,rfl,a1 S w c q1,q2⟩
  have hn:Aj n=true∧Aj m=true∧Aj p=true∧Aj q=true∧(AB q λi=>Aj (ln i))=true:=by simpa [BM,Al] using hn
  obtain ⟨n1,n2,n3,n4,n5⟩:=hn;have hx:=AI tb46_ok [(0,Jh a n g m x t k p r q ln co),(2,DX a n g m x t k p r q ln co)] (G:=Gl);have hL:=AL [(0,Jh a n g m x t k p r q ln co),(2,DX a n g m x t k p r q ln co)];cases hc:ieq (BA a n g m x t k p r q ln co) 0 with
  | false =>simp only [hc,T.sem,sel,cond_false,Option.some.injEq,Prod.mk.injEq] at h;obtain ⟨rfl,rfl⟩:=h;exact ⟨_,AC Gl tb46 [(0,Jh a n g m x t k p r q ln co),(2,DX a n g m x t k p r q ln co)],_,hA,rfl,hx.1,hx.2,Akz _ a n g m x t k p r q ln co (CG () ()) hf n1 n2 n3 n4 n5 hc,Aw.refl _⟩
  | true =>
   simp only [hc] at h;obtain ⟨_,h⟩:=Ad h;have:=Ac h;simp only [Prod.mk.injEq] at this;obtain ⟨rfl,rfl⟩:=this;have hs:=Km a n g m x t k p r q ln co hc;have hm:m=n:=hs.nx;have m16:m <= 16:=by rw [hm]; exact hs.cyc.hi
   refine ⟨_,AC Gl tb46 [(0,Jh a n g m x t k p r q ln co),(2,DX a n g m x t k p r q ln co)],[.row 3 1 m (yG x m)],hA,rfl,hx.1,hx.2,?_,?_⟩
   ·have hQ:=AA (k:=0) (r:=Ue a n g m x t k p r q ln co m (yG x m)) hL hL
    refine AH hQ _ (w46o _ _ a n g m x t k p r q ln co (yG x m) (CG () ()) hf n1 n2 n3 n4 n5 hc (Au ?_));show (A3 _ (Jh a n g m x t k p r q ln co) (m+1) (ent46 a n g m x t k p r q ln co)).sem=_;rw [ent46_eq];exact run46 _ (LO hL hL 0 _) a n g m x t k p r q ln co (λg st=>rfl) m16 m 0 _ (m+1) (by omega) (by omega)
   ·refine .one λi hi=>?_
    rw [Zv x m i hi];exact congrArg iV (AnK hs hi).symm
 ·cases h
def TD (x:Nat->Ev5) (i:Nat):In4:=bif ieq (x i).dir 2 then Aab (x i) else Ags (rgI x i) (x i)
def cdL (g:Nat->E6) (x:Nat->Ev5) (u:Nat):Nat->Nat
 | 0=>0
 | i+1=>bif ieq (x i).th (ofNat u) then (bif KC g x i then AS (AS (cdL g x u i) 1) 1 else AS (cdL g x u i) 1) else cdL g x u i
def cdV (g:Nat->E6) (x:Nat->Ev5) (u:Nat):Nat->Nat->V
 | 0=>λ_=>.und
 | i+1=>bif ieq (x i).th (ofNat u) then (bif KC g x i then As (AS (cdL g x u i) 1) (As (cdL g x u i) (cdV g x u i) (inV FH)) (inV (TD x i)) else As (cdL g x u i) (cdV g x u i) (inV (TD x i))) else cdV g x u i
theorem Ajl {s:Sh7} (H:IsSh s) {i:Nat} (hi:i<s.nx) (fe:Nat->Bool):RH (s.X i) (wsF fe s.X i)=TD s.X i:=by
 unfold RH TD;cases hd:ieq (s.X i).dir 2 with
 | true=>rfl
 | false =>rw [Agc H fe hi,hd];rfl
theorem Rm {l:Nat} {c:Nat->V} {d:Nat->In4} (h:∀ j,j<l->c j=inV (d j)) (v:In4):∀ j,j<l+1->As l c (inV v) j=inV (bif AE j l then v else d j):=λj hj=>by
 rw [Bi];show (bif Nat.beq j l then _ else _)=inV (bif Nat.beq j l then _ else _);cases hb:Nat.beq j l with
 | true=>rfl
 | false=>exact h j (by have:=Nat.ne_of_beq_eq_false hb; omega)
theorem Aeb (lw:Nat->Nat) (cw:Nat->Nat->In4) (u:Nat) (v:In4) (j:Nat):J4 lw cw u v u j=bif AE j (lw u) then v else cw u j:=by
 unfold J4;rw [Go.Sy.nbeq_self];rfl
theorem Z1 {s:Sh7} (H:IsSh s) (u:Nat):∀ i,i <= s.nx->(wsF (feF s.E s.nx) s.X i).lw u=cdL s.E s.X u i∧∀ j,j<cdL s.E s.X u i->cdV s.E s.X u i j=inV ((wsF (feF s.E s.nx) s.X i).cw u j)
 | 0,_=>⟨rfl,λ_ h=>(by cases h)⟩
 | i+1,h=>by
  obtain ⟨ih1,ih2⟩:=Z1 H u i (by omega);have hi:i<s.nx:=by omega
  have hin:=Ajl H hi (feF s.E s.nx);have hfe:=Aju H hi;have hth:=(UE H hi).1;by_cases hu:toN (s.X i).th=u
  ·have ht:ieq (s.X i).th (ofNat u)=true:=by rw [hth,hu]; exact Hx _
   unfold cdL cdV;rw [ht];simp only [cond_true];have e1:=X7 (feF s.E s.nx i) (s.X i) i (wsF (feF s.E s.nx) s.X i);have e2:=X8 (feF s.E s.nx i) (s.X i) i (wsF (feF s.E s.nx) s.X i);rw [hu,hin] at e2;rw [hu] at e1;have e1:(wsF (feF s.E s.nx) s.X (i+1)).lw=_:=e1;have e2:(wsF (feF s.E s.nx) s.X (i+1)).cw=_:=e2;rw [e1,e2,hfe];cases KC s.E s.X i with
   | false =>
    refine ⟨?_,λj hj=>?_⟩
    ·show FS (wsF (feF s.E s.nx) s.X i).lw u u=_
     rw [IJ,ih1]; rfl
    ·show As _ _ _ j=inV (J4 (wsF (feF s.E s.nx) s.X i).lw (wsF (feF s.E s.nx) s.X i).cw u (TD s.X i) u j)
     unfold J4;rw [Go.Sy.nbeq_self,ih1];exact Rm ih2 _ j hj
   | true =>
    refine ⟨?_,λj hj=>?_⟩
    ·show FS (FS (wsF (feF s.E s.nx) s.X i).lw u) u u=_
     rw [IJ,IJ,ih1]; rfl
    ·show As _ _ _ j=inV (J4 (FS (wsF (feF s.E s.nx) s.X i).lw u) (J4 (wsF (feF s.E s.nx) s.X i).lw (wsF (feF s.E s.nx) s.X i).cw u FH) u (TD s.X i) u j)
     have h1:∀ j,j<cdL s.E s.X u i+1->As (cdL s.E s.X u i) (cdV s.E s.X u i) (inV FH) j=inV (J4 (wsF (feF s.E s.nx) s.X i).lw (wsF (feF s.E s.nx) s.X i).cw u FH u j):=λj hj=>by
      unfold J4;rw [Go.Sy.nbeq_self,ih1];exact Rm ih2 _ j hj
     refine (Rm h1 (TD s.X i) j hj).trans ?_;rw [Aeb (FS (wsF (feF s.E s.nx) s.X i).lw u),IJ,ih1]
  ·have ht:ieq (s.X i).th (ofNat u)=false:=by rw [hth]; exact K6 hu
   obtain ⟨h3,h4⟩:=AmF (fe:=feF s.E s.nx i) (b:=i) (W:=wsF (feF s.E s.nx) s.X i) hu;unfold cdL cdV;rw [ht];refine ⟨h3.trans ih1,λj hj=>?_⟩;rw [show (wsF (feF s.E s.nx) s.X (i+1)).cw u=(wsF (feF s.E s.nx) s.X i).cw u from h4];exact ih2 j hj
noncomputable def Yj:AP:=(23,Vs)::(44,Ajt)::(45,Ov)::[]
theorem WG:Av Tryz.prog Gl Yj:=.cons p46 <| .cons p76 <| .cons p38 .nil
def ent44 (a:Int) (n:Nat) (g:Nat->E6) (m:Nat) (x:Nat->Ev5) (t:Nat) (k:Int) (p:Nat) (r:Nat->Int) (q:Nat) (ln:Nat->Nat) (co:Nat->Nat->Int) :St:=⟨jsV 80 0 (λ_=>A9) [(0,.agg [iV a,.sl 6 n (λi=>eV (g i)),.sl 5 m (λi=>evV (x i)),nV t,iV k,.sl 1 p (λi=>iV (r i)),.sl 1 q (λu=>.sl 1 (ln u) (λi=>iV (co u i)))]),(1,.ptr 0 0),(2,.jref 1),(3,iV 0),(4,.ref 2),(5,iV 0),(6,.jref 3),(7,iV 0),(13,.tup [.ref 2,iV 0]),(14,.agg [iV a,.sl 6 n (λi=>eV (g i)),.sl 5 m (λi=>evV (x i)),nV t,iV k,.sl 1 p (λi=>iV (r i)),.sl 1 q (λu=>.sl 1 (ln u) (λi=>iV (co u i)))]),(15,.tup [.ref 2,iV 0]),(16,.ref 2),(17,iV 0),(18,iV 0),(19,bV (A6 (ieq 0 0)))],[.cells [iV a,.sl 6 n (λi=>eV (g i)),.sl 5 m (λi=>evV (x i)),nV t,iV k,.sl 1 p (λi=>iV (r i)),.sl 1 q (λu=>.sl 1 (ln u) (λi=>iV (co u i)))],.jag (Jag.mk 49 1 0 Aa 0 51 8 (λ_=>true) (λ_=>0) (λ_ _=>.und)),.row 3 1 m (λi=>iV (rgI x i)),.jag (Jag.mk 49 1 0 Aa 0 51 8 (λ_=>true) (λ_=>0) (λ_ _=>.und))]⟩
def lp44 (a:Int) (n:Nat) (g:Nat->E6) (m:Nat) (x:Nat->Ev5) (t:Nat) (k:Int) (p:Nat) (r:Nat->Int) (q:Nat) (ln:Nat->Nat) (co:Nat->Nat->Int):Lp:=⟨bmK 80 0 [1,4,6,7],4,bmK 80 0 [1,4,6],4,t+1⟩
def st44 (a:Int) (n:Nat) (g:Nat->E6) (m:Nat) (x:Nat->Ev5) (t:Nat) (k:Int) (p:Nat) (r:Nat->Int) (q:Nat) (ln:Nat->Nat) (co:Nat->Nat->Int) (b:Nat) (gz:Nat->V) (lo:Nat->Nat) (mo:Nat->Nat->V) (j:Nat->V):St:=⟨jsV 80 0 j [(1,.ptr 0 0),(4,.ref 2),(6,.jref 3),(7,nV b)],[.cells [iV a,.sl 6 n (λi=>eV (g i)),.sl 5 m (λi=>evV (x i)),nV t,iV k,.sl 1 p (λi=>iV (r i)),.sl 1 q (λu=>.sl 1 (ln u) (λi=>iV (co u i)))],.jag (Jag.mk 49 1 0 Aa 0 51 8 (λ_=>true) (λ_=>0) (λ_ _=>.und)),.row 3 1 m (λi=>iV (rgI x i)),.jag (Jag.mk 49 1 b gz 0 51 8 (λ_=>true) lo mo)]⟩
def en44e (a:Int) (n:Nat) (g:Nat->E6) (m:Nat) (x:Nat->Ev5) (t:Nat) (k:Int) (p:Nat) (r:Nat->Int) (q:Nat) (ln:Nat->Nat) (co:Nat->Nat->Int) (b:Nat) (gz:Nat->V) (lo:Nat->Nat) (mo:Nat->Nat->V):Ex×St:=(.ex 0,⟨jsV 80 0 Aa [(1,.ptr 0 0),(4,.ref 2),(6,.jref 3)],[.cells [iV a,.sl 6 n (λi=>eV (g i)),.sl 5 m (λi=>evV (x i)),nV t,iV k,.sl 1 p (λi=>iV (r i)),.sl 1 q (λu=>.sl 1 (ln u) (λi=>iV (co u i)))],.jag (Jag.mk 49 1 0 Aa 0 51 8 (λ_=>true) (λ_=>0) (λ_ _=>.und)),.row 3 1 m (λi=>iV (rgI x i)),.jag (Jag.mk 49 1 b gz 0 51 8 (λ_=>true) lo mo)]⟩)
noncomputable def Sk (L:LT):St->T (Ex×St):=λst=>A7 tab ⟨Ap Yj,L,Gl⟩ (Ar Tryz.f21 0) 0 st
theorem Alc (L:LT) (a:Int) (n:Nat) (g:Nat->E6) (m:Nat) (x:Nat->Ev5) (t:Nat) (k:Int) (p:Nat) (r:Nat->Int) (q:Nat) (ln:Nat->Nat) (co:Nat->Nat->Int) (b:Nat) (gz:Nat->V) (lo:Nat->Nat) (mo:Nat->Nat->V)  (j:Nat->V) (h0:ilt (ofNat b) (ofNat t)=false):Ah (Sk L) (lp44 a n g m x t k p r q ln co) (st44 a n g m x t k p r q ln co b gz lo mo j)=some ((.ex 0),⟨jsV 80 0 Aa [(1,.ptr 0 0),(4,.ref 2),(6,.jref 3)],[.cells [iV a,.sl 6 n (λi=>eV (g i)),.sl 5 m (λi=>evV (x i)),nV t,iV k,.sl 1 p (λi=>iV (r i)),.sl 1 q (λu=>.sl 1 (ln u) (λi=>iV (co u i)))],.jag (Jag.mk 49 1 0 Aa 0 51 8 (λ_=>true) (λ_=>0) (λ_ _=>.und)),.row 3 1 m (λi=>iV (rgI x i)),.jag (Jag.mk 49 1 b gz 0 51 8 (λ_=>true) lo (λi i_1=>mo i i_1))]⟩):=by
 exact Ab (ks:=[kn h0]) (by kernel_rfl)
def FC (a:Int) (n:Nat) (g:Nat->E6) (m:Nat) (x:Nat->Ev5) (t:Nat) (k:Int) (p:Nat) (r:Nat->Int) (q:Nat) (ln:Nat->Nat) (co:Nat->Nat->Int):Lp:=⟨bmK 80 0 [1,4,6,7,8,9],5,bmK 80 0 [1,4,6,7,8],5,m+1⟩
def HU (a:Int) (n:Nat) (g:Nat->E6) (m:Nat) (x:Nat->Ev5) (t:Nat) (k:Int) (p:Nat) (r:Nat->Int) (q:Nat) (ln:Nat->Nat) (co:Nat->Nat->Int) (b:Nat) (gz:Nat->V) (lo:Nat->Nat) (mo:Nat->Nat->V) (l:Nat) (c:Nat->V) (i:Nat) (j:Nat->V):St:=⟨jsV 80 0 j [(1,.ptr 0 0),(4,.ref 2),(6,.jref 3),(7,nV b),(8,.ref 4),(9,nV i)],[.cells [iV a,.sl 6 n (λi=>eV (g i)),.sl 5 m (λi=>evV (x i)),nV t,iV k,.sl 1 p (λi=>iV (r i)),.sl 1 q (λu=>.sl 1 (ln u) (λi=>iV (co u i)))],.jag (Jag.mk 49 1 0 Aa 0 51 8 (λ_=>true) (λ_=>0) (λ_ _=>.und)),.row 3 1 m (λi=>iV (rgI x i)),.jag (Jag.mk 49 1 b gz 0 51 8 (λ_=>true) lo mo),.row 51 8 l c]⟩
def Ns (a:Int) (n:Nat) (g:Nat->E6) (m:Nat) (x:Nat->Ev5) (t:Nat) (k:Int) (p:Nat) (r:Nat->Int) (q:Nat) (ln:Nat->Nat) (co:Nat->Nat->Int) (b:Nat) (gz:Nat->V) (lo:Nat->Nat) (mo:Nat->Nat->V) (l:Nat) (c:Nat->V) (i:Nat):Ex×St:=(.ex 2,⟨jsV 80 0 Aa [(1,.ptr 0 0),(4,.ref 2),(6,.jref 3),(7,nV b),(8,.ref 4)],[.cells [iV a,.sl 6 n (λi=>eV (g i)),.sl 5 m (λi=>evV (x i)),nV t,iV k,.sl 1 p (λi=>iV (r i)),.sl 1 q (λu=>.sl 1 (ln u) (λi=>iV (co u i)))],.jag (Jag.mk 49 1 0 Aa 0 51 8 (λ_=>true) (λ_=>0) (λ_ _=>.und)),.row 3 1 m (λi=>iV (rgI x i)),.jag (Jag.mk 49 1 b gz 0 51 8 (λ_=>true) lo mo),.row 51 8 l c]⟩)
noncomputable def Ee (L:LT):St->T (Ex×St):=λst=>A7 tab ⟨Ap Yj,L,Gl⟩ (Ar Tryz.f21 2) 2 st
section
variable (L:LT) (a:Int) (n:Nat) (g:Nat->E6) (m:Nat) (x:Nat->Ev5) (t:Nat) (k:Int) (p:Nat) (r:Nat->Int) (q:Nat) (ln:Nat->Nat) (co:Nat->Nat->Int) (b:Nat) (gz:Nat->V) (lo:Nat->Nat) (mo:Nat->Nat->V) (l:Nat) (c:Nat->V) (i:Nat)  (j:Nat->V)
include L a n g m x t k p r q ln co b gz lo mo l c i j
theorem AkO (h0:ilt (ofNat i) (ofNat m)=false):Ah (Ee L) (FC a n g m x t k p r q ln co) (HU a n g m x t k p r q ln co b gz lo mo l c i j)=some ((.ex 2),⟨jsV 80 0 Aa [(1,.ptr 0 0),(4,.ref 2),(6,.jref 3),(7,nV b),(8,.ref 4)],[.cells [iV a,.sl 6 n (λi=>eV (g i)),.sl 5 m (λi=>evV (x i)),nV t,iV k,.sl 1 p (λi=>iV (r i)),.sl 1 q (λu=>.sl 1 (ln u) (λi=>iV (co u i)))],.jag (Jag.mk 49 1 0 Aa 0 51 8 (λ_=>true) (λ_=>0) (λ_ _=>.und)),.row 3 1 m (λi=>iV (rgI x i)),.jag (Jag.mk 49 1 b gz 0 51 8 (λ_=>true) lo (λi_1 i_2=>mo i_1 i_2)),.row 51 8 l c]⟩):=by
 exact Ab (ks:=[kn h0]) (by kernel_rfl)
theorem AkN (h0:ilt (ofNat i) (ofNat m)=true) (h26:ile 0 (ofNat i)=true) (h1:ieq (x i).th (ofNat b)=false):Ah (Ee L) (FC a n g m x t k p r q ln co) (HU a n g m x t k p r q ln co b gz lo mo l c i j)=some (.nm,⟨jsV 80 0 Aa [(1,.ptr 0 0),(4,.ref 2),(6,.jref 3),(7,nV b),(8,.ref 4),(9,iV (wr .i64 (Af (ofNat i) 1)))],[.cells [iV a,.sl 6 n (λi=>eV (g i)),.sl 5 m (λi=>evV (x i)),nV t,iV k,.sl 1 p (λi=>iV (r i)),.sl 1 q (λu=>.sl 1 (ln u) (λi=>iV (co u i)))],.jag (Jag.mk 49 1 0 Aa 0 51 8 (λ_=>true) (λ_=>0) (λ_ _=>.und)),.row 3 1 m (λi=>iV (rgI x i)),.jag (Jag.mk 49 1 b gz 0 51 8 (λ_=>true) lo (λi_1 i_2=>mo i_1 i_2)),.row 51 8 l c]⟩):=by
 exact Ab (ks:=[kn h0,kA (kn h26) (kn h0),kN (kn h1)]) (by kernel_rfl)
theorem AkL (h0:ilt (ofNat i) (ofNat m)=true) (h28:ile 0 (ofNat i)=true) (h1:ieq (x i).th (ofNat b)=true) (h29:AB q (λi=>AB (ln i) (λ_=>true))=true) (h30:OC n m (ofNat i)=true) (h2:KC g x i=false) (h3:ieq (x i).dir 2=true) (h31:Ba l 1 80=true):Ah (Ee L) (FC a n g m x t k p r q ln co) (HU a n g m x t k p r q ln co b gz lo mo l c i j)=some (.nm,⟨jsV 80 0 Aa [(1,.ptr 0 0),(4,.ref 2),(6,.jref 3),(7,nV b),(8,.ref 4),(9,iV (wr .i64 (Af (ofNat i) 1)))],[.cells [iV a,.sl 6 n (λi=>eV (g i)),.sl 5 m (λi=>evV (x i)),nV t,iV k,.sl 1 p (λi=>iV (r i)),.sl 1 q (λu=>.sl 1 (ln u) (λi=>iV (co u i)))],.jag (Jag.mk 49 1 0 Aa 0 51 8 (λ_=>true) (λ_=>0) (λ_ _=>.und)),.row 3 1 m (λi=>iV (rgI x i)),.jag (Jag.mk 49 1 b gz 0 51 8 (λ_=>true) lo (λi_1 i_2=>mo i_1 i_2)),.row 51 8 (AS l 1) (As l c (.agg [iV 1,iV 0,iV 0,iV 0,iV (x i).val,.str (B1 (x i).loc),.str [],iV 0]))]⟩):=by
 exact Ab (ks:=[kn h0,kA (kn h28) (kn h0),kN (kn h1),kL n,kL m,kL p,kn h29,kn h30,kn h2,kn h3,kn h31]) (by kernel_rfl)
theorem AkM (h0:ilt (ofNat i) (ofNat m)=true) (h28:ile 0 (ofNat i)=true) (h1:ieq (x i).th (ofNat b)=true) (h29:AB q (λi=>AB (ln i) (λ_=>true))=true) (h30:OC n m (ofNat i)=true) (h2:KC g x i=false) (h3:ieq (x i).dir 2=false) (h31:nlt i m=true) (h32:Ba l 1 80=true):Ah (Ee L) (FC a n g m x t k p r q ln co) (HU a n g m x t k p r q ln co b gz lo mo l c i j)=some (.nm,⟨jsV 80 0 Aa [(1,.ptr 0 0),(4,.ref 2),(6,.jref 3),(7,nV b),(8,.ref 4),(9,iV (wr .i64 (Af (ofNat i) 1)))],[.cells [iV a,.sl 6 n (λi=>eV (g i)),.sl 5 m (λi=>evV (x i)),nV t,iV k,.sl 1 p (λi=>iV (r i)),.sl 1 q (λu=>.sl 1 (ln u) (λi=>iV (co u i)))],.jag (Jag.mk 49 1 0 Aa 0 51 8 (λ_=>true) (λ_=>0) (λ_ _=>.und)),.row 3 1 m (λi=>iV (rgI x i)),.jag (Jag.mk 49 1 b gz 0 51 8 (λ_=>true) lo (λi_1 i_2=>mo i_1 i_2)),.row 51 8 (AS l 1) (As l c (.agg [iV 3,iV (rgI x i),iV 0,iV 0,iV 0,.str (B1 (x i).loc),.str [],iV 0]))]⟩):=by
 exact Ab (ks:=[kn h0,kA (kn h28) (kn h0),kN (kn h1),kL n,kL m,kL p,kn h29,kn h30,kn h2,kn h3,kA (kn h28) (kn h0),kn h31,kn h32]) (by kernel_rfl)
theorem AhC (h0:ilt (ofNat i) (ofNat m)=true) (h28:ile 0 (ofNat i)=true) (h1:ieq (x i).th (ofNat b)=true) (h29:AB q (λi=>AB (ln i) (λ_=>true))=true) (h30:OC n m (ofNat i)=true) (h2:KC g x i=true) (h31:Ba l 1 80=true) (h3:ieq (x i).dir 2=true) (h32:Ba (AS l 1) 1 80=true):Ah (Ee L) (FC a n g m x t k p r q ln co) (HU a n g m x t k p r q ln co b gz lo mo l c i j)=some (.nm,⟨jsV 80 0 Aa [(1,.ptr 0 0),(4,.ref 2),(6,.jref 3),(7,nV b),(8,.ref 4),(9,iV (wr .i64 (Af (ofNat i) 1)))],[.cells [iV a,.sl 6 n (λi=>eV (g i)),.sl 5 m (λi=>evV (x i)),nV t,iV k,.sl 1 p (λi=>iV (r i)),.sl 1 q (λu=>.sl 1 (ln u) (λi=>iV (co u i)))],.jag (Jag.mk 49 1 0 Aa 0 51 8 (λ_=>true) (λ_=>0) (λ_ _=>.und)),.row 3 1 m (λi=>iV (rgI x i)),.jag (Jag.mk 49 1 b gz 0 51 8 (λ_=>true) lo (λi_1 i_2=>mo i_1 i_2)),.row 51 8 (AS (AS l 1) 1) (As (AS l 1) (As l c (.agg [iV 5,iV 0,iV 0,iV 0,iV 0,.str [],.str [],iV 0])) (.agg [iV 1,iV 0,iV 0,iV 0,iV (x i).val,.str (B1 (x i).loc),.str [],iV 0]))]⟩):=by
 exact Ab (ks:=[kn h0,kA (kn h28) (kn h0),kN (kn h1),kL n,kL m,kL p,kn h29,kn h30,kn h2,kn h31,kn h3,kn h32]) (by kernel_rfl)
theorem AhD (h0:ilt (ofNat i) (ofNat m)=true) (h28:ile 0 (ofNat i)=true) (h1:ieq (x i).th (ofNat b)=true) (h29:AB q (λi=>AB (ln i) (λ_=>true))=true) (h30:OC n m (ofNat i)=true) (h2:KC g x i=true) (h31:Ba l 1 80=true) (h3:ieq (x i).dir 2=false) (h32:nlt i m=true) (h33:Ba (AS l 1) 1 80=true):Ah (Ee L) (FC a n g m x t k p r q ln co) (HU a n g m x t k p r q ln co b gz lo mo l c i j)=some (.nm,⟨jsV 80 0 Aa [(1,.ptr 0 0),(4,.ref 2),(6,.jref 3),(7,nV b),(8,.ref 4),(9,iV (wr .i64 (Af (ofNat i) 1)))],[.cells [iV a,.sl 6 n (λi=>eV (g i)),.sl 5 m (λi=>evV (x i)),nV t,iV k,.sl 1 p (λi=>iV (r i)),.sl 1 q (λu=>.sl 1 (ln u) (λi=>iV (co u i)))],.jag (Jag.mk 49 1 0 Aa 0 51 8 (λ_=>true) (λ_=>0) (λ_ _=>.und)),.row 3 1 m (λi=>iV (rgI x i)),.jag (Jag.mk 49 1 b gz 0 51 8 (λ_=>true) lo (λi_1 i_2=>mo i_1 i_2)),.row 51 8 (AS (AS l 1) 1) (As (AS l 1) (As l c (.agg [iV 5,iV 0,iV 0,iV 0,iV 0,.str [],.str [],iV 0])) (.agg [iV 3,iV (rgI x i),iV 0,iV 0,iV 0,.str (B1 (x i).loc),.str [],iV 0]))]⟩):=by
 exact Ab (ks:=[kn h0,kA (kn h28) (kn h0),kN (kn h1),kL n,kL m,kL p,kn h29,kn h30,kn h2,kn h31,kn h3,kA (kn h28) (kn h0),kn h32,kn h33]) (by kernel_rfl)
end
def Nm (a:Int) (n:Nat) (g:Nat->E6) (m:Nat) (x:Nat->Ev5) (t:Nat) (k:Int) (p:Nat) (r:Nat->Int) (q:Nat) (ln:Nat->Nat) (co:Nat->Nat->Int) (b:Nat) (gz:Nat->V) (lo:Nat->Nat) (mo:Nat->Nat->V) (j:Nat->V):St:=⟨jsV 80 0 j [(1,.ptr 0 0),(4,.ref 2),(6,.jref 3),(7,nV b),(8,.ref 4),(9,iV 0),(21,nV b),(22,.ptr 0 3),(23,nV t),(24,bV (ilt (ofNat b) (ofNat t)))],[.cells [iV a,.sl 6 n (λi=>eV (g i)),.sl 5 m (λi=>evV (x i)),nV t,iV k,.sl 1 p (λi=>iV (r i)),.sl 1 q (λu=>.sl 1 (ln u) (λi=>iV (co u i)))],.jag (Jag.mk 49 1 0 Aa 0 51 8 (λ_=>true) (λ_=>0) (λ_ _=>.und)),.row 3 1 m (λi=>iV (rgI x i)),.jag (Jag.mk 49 1 b gz 0 51 8 (λ_=>true) lo (λi i_1=>mo i i_1)),.row 51 8 0 Aa]⟩
theorem Alb (L:LT) (p2:PT) (a:Int) (n:Nat) (g:Nat->E6) (m:Nat) (x:Nat->Ev5) (t:Nat) (k:Int) (p:Nat) (r:Nat->Int) (q:Nat) (ln:Nat->Nat) (co:Nat->Nat->Int) (b:Nat) (gz:Nat->V) (lo:Nat->Nat) (mo:Nat->Nat->V) (l:Nat) (c:Nat->V) (j:Nat->V) (h0:ilt (ofNat b) (ofNat t)=true) (h25:Ba b 1 24=true) (hp2:p2 (Ee (onP 2 p2 (Ns a n g m x t k p r q ln co b gz lo mo l c 0) L)) (Nm a n g m x t k p r q ln co b gz lo mo j)=true):Ah (Sk (onP 2 p2 (Ns a n g m x t k p r q ln co b gz lo mo l c 0) L)) (lp44 a n g m x t k p r q ln co) (st44 a n g m x t k p r q ln co b gz lo mo j)=some (.nm,⟨jsV 80 0 Aa [(1,.ptr 0 0),(4,.ref 2),(6,.jref 3),(7,iV (wr .i64 (Af (ofNat b) 1)))],[.cells [iV a,.sl 6 n (λi=>eV (g i)),.sl 5 m (λi=>evV (x i)),nV t,iV k,.sl 1 p (λi=>iV (r i)),.sl 1 q (λu=>.sl 1 (ln u) (λi=>iV (co u i)))],.jag (Jag.mk 49 1 0 Aa 0 51 8 (λ_=>true) (λ_=>0) (λ_ _=>.und)),.row 3 1 m (λi=>iV (rgI x i)),.jag (Jag.mk 49 1 (AS b 1) (As b gz .und) 0 51 8 (λi=>sel (AE i b) true true) (λi=>sel (AE i b) l (lo i)) (λi i_1=>C0 (λi_2 i_3=>mo i_2 i_3) b c i i_1))]⟩):=by
 exact Ab (ks:=[kn h0,kn hp2,kT,kn h25]) (by kernel_rfl)
theorem VZ (a:Int) (n:Nat) (g:Nat->E6) (m:Nat) (x:Nat->Ev5) (t:Nat) (k:Int) (p:Nat) (r:Nat->Int) (q:Nat) (ln:Nat->Nat) (co:Nat->Nat->Int) (b:Nat) (gz:Nat->V) (lo:Nat->Nat) (mo:Nat->Nat->V) (j:Nat->V):Nm a n g m x t k p r q ln co b gz lo mo j=HU a n g m x t k p r q ln co b gz lo mo 0 Aa 0 (λi=>nth (Nm a n g m x t k p r q ln co b gz lo mo j).t i):=by kernel_rfl
theorem ent44_eq (a:Int) (n:Nat) (g:Nat->E6) (m:Nat) (x:Nat->Ev5) (t:Nat) (k:Int) (p:Nat) (r:Nat->Int) (q:Nat) (ln:Nat->Nat) (co:Nat->Nat->Int):ent44 a n g m x t k p r q ln co=st44 a n g m x t k p r q ln co 0 Aa (λ_=>0) (λ_ _=>.und) (λi=>nth (ent44 a n g m x t k p r q ln co).t i):=by kernel_rfl
theorem AcJ (g:Nat->E6) (x:Nat->Ev5) (u:Nat):∀ i,cdL g x u i <= 2 * i
 | 0=>Nat.le_refl _
 | i+1=>by
  have:=AcJ g x u i;unfold cdL;cases ieq (x i).th (ofNat u)
  ·exact Nat.le_trans this (by omega)
  ·cases KC g x i
   ·show cdL g x u i+1 <= _
    omega
   ·show cdL g x u i+1+1 <= _
    omega
theorem Aa0 (L:LT) (a:Int) (n:Nat) (g:Nat->E6) (m:Nat) (x:Nat->Ev5) (t:Nat) (k:Int) (p:Nat) (r:Nat->Int) (q:Nat) (ln:Nat->Nat) (co:Nat->Nat->Int) (m16:m <= 16) (hmn:m <= n) (b:Nat) (gz:Nat->V) (lo:Nat->Nat) (mo:Nat->Nat->V):∀ (e i:Nat) (j:Nat->V) (u:Nat),m=i+e->e<u ->
  (A3 (Ee L) (FC a n g m x t k p r q ln co) u (HU a n g m x t k p r q ln co b gz lo mo (cdL g x b i) (cdV g x b i) i j)).sem=some (Ns a n g m x t k p r q ln co b gz lo mo (cdL g x b m) (cdV g x b m) 0)
 | 0,i,j,u+1,h,_=>by
  have:m=i:=by omega
  subst this;exact Ae (AkO L a n g m x t k p r q ln co b gz lo mo _ _ m j (A1 (Nat.le_refl _)))
 | e+1,i,j,u+1,h,h2=>by
  have hi:i<m:=by omega
  have hle:=AcJ g x b i;have hok:OC n m (ofNat i)=true:=by
   unfold OC;rw [AF,show nlt (toN (ofNat i)) m=true from decide_eq_true hi,Nat.ble_eq_true_of_le hmn,Nat.ble_eq_true_of_le (show m <= 4611686018427387904 by omega)];rfl
  have ha1:Ba (cdL g x b i) 1 80=true:=BS (by omega);have ha2:Ba (AS (cdL g x b i) 1) 1 80=true:=BS (by show (cdL g x b i+1+1) * 80 <= _; omega);have hn:nlt i m=true:=decide_eq_true hi;have next:=Aa0 L a n g m x t k p r q ln co m16 hmn b gz lo mo e (i+1) Aa u (by omega) (by omega)
  rw [cdL,cdV] at next
  unfold TD at next
  cases hth:ieq (x i).th (ofNat b) with
  | false =>
   rw [hth] at next
   rw [Ae (AkN L a n g m x t k p r q ln co b gz lo mo (cdL g x b i) (cdV g x b i) i j (ofNat_lt hi) (AF _) hth),Ay,Aq hi (by omega)];exact next
  | true =>
   rw [hth] at next
   cases hf:KC g x i <;> cases hd:ieq (x i).dir 2 <;> rw [hf,hd] at next
   ·rw [Ae (AkM L a n g m x t k p r q ln co b gz lo mo (cdL g x b i) (cdV g x b i) i j (ofNat_lt hi) (AF _) hth (CG () ()) hok hf hd hn ha1),Ay,Aq hi (by omega)]
    exact next
   ·rw [Ae (AkL L a n g m x t k p r q ln co b gz lo mo (cdL g x b i) (cdV g x b i) i j (ofNat_lt hi) (AF _) hth (CG () ()) hok hf hd ha1),Ay,Aq hi (by omega)]
    exact next
   ·rw [Ae (AhD L a n g m x t k p r q ln co b gz lo mo (cdL g x b i) (cdV g x b i) i j (ofNat_lt hi) (AF _) hth (CG () ()) hok hf ha1 hd hn ha2),Ay,Aq hi (by omega)]
    exact next
   ·rw [Ae (AhC L a n g m x t k p r q ln co b gz lo mo (cdL g x b i) (cdV g x b i) i j (ofNat_lt hi) (AF _) hth (CG () ()) hok hf ha1 hd ha2),Ay,Aq hi (by omega)]
    exact next
theorem AfR (M:LT) (hMM:LLe M M) (a:Int) (n:Nat) (g:Nat->E6) (m:Nat) (x:Nat->Ev5) (t:Nat) (k:Int) (p:Nat) (r:Nat->Int) (q:Nat) (ln:Nat->Nat) (co:Nat->Nat->Int) (m2:∀ g' st,M 2 g' st=A3 g' (FC a n g m x t k p r q ln co) (m+1) st) (m16:m <= 16) (hmn:m <= n) (t16:t <= 16):∀ (e b:Nat) (j:Nat->V) (u:Nat),t=b+e->e<u ->
  (A3 (Sk M) (lp44 a n g m x t k p r q ln co) u (st44 a n g m x t k p r q ln co b (JD b) (G6 (λu=>cdL g x u m) b) (Hr (λu=>cdV g x u m) b) j)).sem=some (en44e a n g m x t k p r q ln co t (JD t) (G6 (λu=>cdL g x u m) t) (Hr (λu=>cdV g x u m) t))
 | 0,b,j,u+1,h,_=>by
  have:t=b:=by omega
  subst this;exact Ae (Alc M a n g m x t k p r q ln co t _ _ _ j (A1 (Nat.le_refl _)))
 | e+1,b,j,u+1,h,h2=>by
  have hb:b<t:=by omega
  have next:=AfR M hMM a n g m x t k p r q ln co m2 m16 hmn t16 e (b+1) Aa u (by omega) (by omega)
  have hi:∀ M',(M 2 (Ee M') (Nm a n g m x t k p r q ln co b (JD b) (G6 (λu=>cdL g x u m) b) (Hr (λu=>cdV g x u m) b) j)).sem=some (Ns a n g m x t k p r q ln co b (JD b) (G6 (λu=>cdL g x u m) b) (Hr (λu=>cdV g x u m) b) (cdL g x b m) (cdV g x b m) 0):=λM'=>by
   rw [m2,VZ];exact Aa0 M' a n g m x t k p r q ln co m16 hmn b _ _ _ m 0 _ (m+1) (by omega) (by omega)
  have h3:=Alb M _ a n g m x t k p r q ln co b (JD b) (G6 (λu=>cdL g x u m) b) (Hr (λu=>cdV g x u m) b) (cdL g x b m) (cdV g x b m) j (ofNat_lt hb) (BS (by omega)) (Au (hi _));have h4:Ah (Sk M) (lp44 a n g m x t k p r q ln co) (st44 a n g m x t k p r q ln co b (JD b) (G6 (λu=>cdL g x u m) b) (Hr (λu=>cdV g x u m) b) j)=_:=CB (l:=lp44 a n g m x t k p r q ln co) (D2 (Γ:=⟨Ap Yj,M,Gl⟩) (AA hMM hMM) (Ar Tryz.f21 0) 0 (st44 a n g m x t k p r q ln co b (JD b) (G6 (λu=>cdL g x u m) b) (Hr (λu=>cdV g x u m) b) j)) h3;rw [Ae h4,Ay,Aq hb (by omega),Agv];exact next
theorem p44:Ax Tryz.prog Gl 21 codeT:=by
 refine Am A8 mixed Tryz.func21 (by kernel_rfl) (by kernel_rfl) λvs v h' h=>?_;unfold codeT at h;split at h
 ·rename_i v1
  obtain ⟨s,a1,h⟩:=apS_some h;obtain ⟨hf,h⟩:=Ad h;obtain ⟨hn,h⟩:=Ad h;obtain ⟨a,n,g,m,x,t,k,p,r,q,C⟩:=s;obtain ⟨ln,co,hC⟩:∃ (ln:Nat->Nat) (co:Nat->Nat->Int),C=λu=>(ln u,co u):=⟨λu=>(C u).1,λu=>(C u).2,rfl⟩;subst hC;have hA:Bf [v1] [.agg (shL a n g m x t k p r q ln co)]:=λS w cs hv=>by
   obtain ⟨c,l,rfl,q1,q2⟩:=hv;exact ⟨c,_,rfl,a1 S w c q1,q2⟩
  have hn:Aj n=true∧Aj m=true∧Aj p=true∧Aj q=true∧(AB q λi=>Aj (ln i))=true:=by simpa [BM,Al] using hn
  obtain ⟨n1,n2,n3,n4,n5⟩:=hn;cases hc:ieq (BA a n g m x t k p r q ln co) 0 with
  | false =>simp only [hc,T.sem,sel,cond_false,Option.some.injEq,Prod.mk.injEq] at h;obtain ⟨rfl,rfl⟩:=h;have hx:=AI WG [] (G:=Gl);exact ⟨_,AC Gl Yj [],_,hA,rfl,hx.1,hx.2,Ab (ks:=[kL n,kL m,kL p,kn (CG (q:=q) (ln:=ln) () ()),kn hf,kA (kn n1) (kA (kn n2) (kA (kn n3) (kA (kn n4) (kn n5)))),kn hc,kN (kn hc)]) (by kernel_rfl),Aw.refl _⟩
  | true =>
   simp only [hc] at h;obtain ⟨_,h⟩:=Ad h;have:=Ac h;simp only [Prod.mk.injEq] at this;obtain ⟨rfl,rfl⟩:=this;have hs:=Km a n g m x t k p r q ln co hc;have hm:m=n:=hs.nx;have m16:m <= 16:=by rw [hm]; exact hs.cyc.hi
   obtain ⟨w,rfl,hw⟩:∃ w,t=ofNat w∧w <= 16:=⟨_,hs.tt,by
    have h1:ttN n (shG n g) <= n:=Be _ _;exact Nat.le_trans h1 (by omega)⟩
   have hx:=AI WG [(0,lp44 a n g m x w k p r q ln co),(2,FC a n g m x w k p r q ln co)] (G:=Gl);have hL:=AL [(0,lp44 a n g m x w k p r q ln co),(2,FC a n g m x w k p r q ln co)];refine ⟨_,AC Gl Yj [(0,lp44 a n g m x w k p r q ln co),(2,FC a n g m x w k p r q ln co)],[.jag (Jag.mk 49 1 w (JD w) 0 51 8 (λ_=>true) (G6 (λu=>cdL g x u m) w) (Hr (λu=>cdV g x u m) w))],hA,rfl,hx.1,hx.2,?_,?_⟩
   ·have hQ:=AA (k:=0) (r:=en44e a n g m x w k p r q ln co w (JD w) (G6 (λu=>cdL g x u m) w) (Hr (λu=>cdV g x u m) w)) hL hL
    refine AH hQ _ (Ab (ks:=[kL n,kL m,kL p,kn (CG (q:=q) (ln:=ln) () ()),kn hf,kA (kn n1) (kA (kn n2) (kA (kn n3) (kA (kn n4) (kn n5)))),kn hc,kN (kI 0),kn (Au (L:=(AW [(0,lp44 a n g m x w k p r q ln co),(2,FC a n g m x w k p r q ln co)])) (k:=0) (r:=en44e a n g m x w k p r q ln co w (JD w) (G6 (λu=>cdL g x u m) w) (Hr (λu=>cdV g x u m) w)) (f:=Sk (onP 0 (isP (AW [(0,lp44 a n g m x w k p r q ln co),(2,FC a n g m x w k p r q ln co)]) 0 (en44e a n g m x w k p r q ln co w (JD w) (G6 (λu=>cdL g x u m) w) (Hr (λu=>cdV g x u m) w))) (en44e a n g m x w k p r q ln co w (JD w) (G6 (λu=>cdL g x u m) w) (Hr (λu=>cdV g x u m) w)) (AW [(0,lp44 a n g m x w k p r q ln co),(2,FC a n g m x w k p r q ln co)]))) (st:=ent44 a n g m x w k p r q ln co) ?_)]) (by kernel_rfl));show (A3 _ (lp44 a n g m x w k p r q ln co) (w+1) (ent44 a n g m x w k p r q ln co)).sem=_;rw [ent44_eq];exact AfR _ (LO hL hL 0 _) a n g m x w k p r q ln co (λg st=>rfl) m16 (by omega) hw w 0 _ (w+1) (by omega) (by omega)
   ·refine .consB (.jag (λ_ _=>.inr rfl) (λ_ _=>rfl) (λu hu=>?_) (λu hu j hj=>?_)) (Aw.refl _)
    ·have hu:u<w:=hu
     show (wsS _).lw u=G6 (λu=>cdL g x u m) w u;rw [K0 _ _ _ hu];exact (Z1 hs u m (Nat.le_refl _)).1
    ·have hu:u<w:=hu
     have hj:j<G6 (λu=>cdL g x u m) w u:=hj;rw [K0 _ _ _ hu] at hj;show inV ((wsS _).cw u j)=Hr (λu=>cdV g x u m) w u j;rw [R2 _ _ _ hu];exact ((Z1 hs u m (Nat.le_refl _)).2 j hj).symm
 ·cases h
end Go.Proofs.YtkgdhhieomndeaaGreatDoor.Sh
