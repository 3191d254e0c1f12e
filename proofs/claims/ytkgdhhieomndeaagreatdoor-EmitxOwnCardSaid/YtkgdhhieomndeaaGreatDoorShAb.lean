/-
  Layer 11: the document's code of a shape (function 44): what the program writes; the registers (46) likewise. No conditions.
-/
import Derived.Test.YtkgdhhieomndeaaGreatDoorShYb
namespace Go.Proofs.YtkgdhhieomndeaaGreatDoor.Sh
open Go.Sy Ed
open Int (ofNat)
set_option maxHeartbeats 1000000
set_option maxRecDepth 4000
theorem XV {i:Nat} (h:0<i):ilt 0 (ofNat i)=true:=ofNat_lt h
theorem Akt {s:Sh7} (H:IsSh s) {i:Nat} (hi:i<s.nx):feF s.E s.nx i=KY s.E s.X i:=by
 have hnx:=H.nx;have hlo:=H.cyc.lo;have hl:=TN H.cyc;have hE:s.E=λi=>s.E i:=rfl;unfold feF KY;cases i with
 | zero =>rw [show (0+s.nx-1) % s.nx=s.ne-1 by rw [hnx,Nat.zero_add]; exact Nat.mod_eq_of_lt (by omega),H.E _ (by omega)];exact UQ hl
 | succ k =>
  rw [show (k+1+s.nx-1) % s.nx=k by rw [show k+1+s.nx-1=k+s.nx by omega,Nat.add_mod_right]; exact Nat.mod_eq_of_lt (by omega),show k+1-1=k from rfl,XV (Nat.succ_pos k),cond_true,H.E k (by omega),H.X (k+1) (by omega),CH (show k+1<s.ne by omega)];cases hp:ilt 0 (ofNat (plF s.ne (shG s.ne s.E) (k+1))) with
  | true=>rfl
  | false =>
   cases hk:ieq (shG s.ne s.E k).kind 5 with
   | false=>rfl
   | true =>
    have ho:obF (shG s.ne s.E) k=false:=by
     cases ho:obF (shG s.ne s.E) k with
     | false=>rfl
     | true=>rw [UQ ho] at hk; cases hk
    have hth:ieq (thF s.ne (shG s.ne s.E) (k+1)) (thF s.ne (shG s.ne s.E) k)=true:=by
     have h1:=AaJ (d:=λ_=>true) hl (show k+1<s.ne by omega);have h2:=AaJ (d:=λ_=>true) hl (show k<s.ne by omega);rw [CH (show k+1<s.ne by omega)] at h1;rw [CH (show k<s.ne by omega)] at h2;have h1:thF s.ne (shG s.ne s.E) (k+1)=_:=h1;have h2:thF s.ne (shG s.ne s.E) k=_:=h2;rw [h1,h2,Cc ho];exact HQ _
    have h3:plF s.ne (shG s.ne s.E) (k+1)=An (λj=>ieq (thF s.ne (shG s.ne s.E) (k+1)) (thF s.ne (shG s.ne s.E) j)) k+1:=B7 (p:=λj=>ieq (thF s.ne (shG s.ne s.E) (k+1)) (thF s.ne (shG s.ne s.E) j)) hth;rw [h3,XV (Nat.succ_pos _)] at hp;cases hp
theorem Adt {s:Sh7} (H:IsSh s) {i:Nat} (hi:i<s.nx):ieq (s.X i).dir 1=A5 (ieq (s.X i).dir 2):=by
 have hnx:=H.nx;have hg:=Dl H.cyc;rw [H.X i (by omega),CH (show i<s.ne by omega)];have h:=Aqc (Dt.1 hg.may i (by omega));show ieq (shG s.ne s.E i).src 1=A5 (ieq (shG s.ne s.E i).src 2);unfold Adu at h;cases h2:ieq (shG s.ne s.E i).src 2 with
 | true=>rw [BX h2]; rfl
 | false =>rw [h2,Bool.or_false] at h;exact h
theorem VA {s:Sh7} (H:IsSh s) {i:Nat} (hi:i<s.nx):(s.X i).th=ofNat (toN (s.X i).th)∧toN (s.X i).th<ttN s.ne (shG s.ne s.E):=by
 have hnx:=H.nx;have hl:=TN H.cyc;rw [H.X i (by omega),AaJ hl (show i<s.ne by omega)];exact ⟨rfl,before (by omega) hl⟩
def rdP (x:Nat->Ev5) (u k:Nat):Bool:=Ao (AW (toN (x k).th) u) (A5 (ieq (x k).dir 2))
theorem NN (fe:Nat->Bool) (x:Nat->Ev5) (u:Nat):∀ i,i <= 16->(wsF fe x i).nx u=ofNat (An (rdP x u) i)
 | 0,_=>rfl
 | i+1,h=>by
  have ih:=NN fe x u i (by omega);have ih2:=NN fe x (toN (x i).th) i (by omega);have hle:An (rdP x u) i <= i:=Bm _ _;refine (Aku (fe i) (x i) i (wsF fe x i) u).trans ?_;cases hd:ieq (x i).dir 2 with
  | true =>rw [Cc (p:=rdP x u) (show rdP x u i=false by unfold rdP; rw [hd]; cases AW (toN (x i).th) u <;> rfl)];exact ih
  | false =>
   by_cases hu:u=toN (x i).th
   ·subst hu
    rw [B7 (p:=rdP x (toN (x i).th)) (show rdP x (toN (x i).th) i=true by unfold rdP; rw [hd,Go.Sy.nbeq_self]; rfl),Go.Sy.nbeq_self,ih2];exact Ap (n:=16) (by omega) (by omega)
   ·rw [Cc (p:=rdP x u) (show rdP x u i=false by unfold rdP; rw [Go.Sy.nbeq_ne (λh=>hu h.symm)]; rfl),Go.Sy.nbeq_ne hu]
    exact ih
theorem Ahb {s:Sh7} (H:IsSh s) (fe:Nat->Bool) {i:Nat} (hi:i<s.nx):rgI s.X i=bif ieq (s.X i).dir 2 then -1 else (wsF fe s.X i).nx (toN (s.X i).th):=by
 have hnx:=H.nx;have hhi:=H.cyc.hi;unfold rgI;rw [Adt H hi,NN fe s.X _ i (by omega)];cases ieq (s.X i).dir 2 with
 | true=>rfl
 | false =>
  show ofNat _=ofNat _;rw [D3 i λk hk=>?_];unfold rdP rgP;have h1:=(VA H hi).1;have h2:=(VA H (show k<s.nx by omega)).1;rw [Adt H (show k<s.nx by omega)];by_cases he:toN (s.X k).th=toN (s.X i).th
  ·rw [h2.trans ((congrArg ofNat he).trans h1.symm),Go.Sy.nbeq_self,HQ]
  ·rw [Go.Sy.nbeq_ne he,show ieq (s.X k).th (s.X i).th=false by rw [h1,h2]; exact KQ he]
theorem AoU {s:Sh7} (H:IsSh s) {i:Nat} (hi:i<s.nx):rgI s.X i=(wsS s).y i:=by
 have hnx:=H.nx;have hhi:=H.cyc.hi;have hy:=AkV (feF s.E s.nx) s.X (c:=i) (s.nx-(i+1));rw [show i+1+(s.nx-(i+1))=s.nx by omega] at hy;show _=(wsF (feF s.E s.nx) s.X s.nx).y i;have hle:An (rdP s.X (toN (s.X i).th)) i <= i:=Bm _ _;rw [hy,Ahb H (feF s.E s.nx) hi,AkN (show An (rdP s.X (toN (s.X i).th)) i<16 by omega) (NN _ _ _ i (by omega)),NN _ _ _ i (by omega)]
theorem Ap4:Ax Tryz.prog Gl 23 Qt:=by
 refine Aj A7 mixed Tryz.func23 (by kernel_rfl) (by kernel_rfl) λvs v h' h=>?_;unfold Qt at h;split at h
 ·rename_i v1
  obtain ⟨s,a1,h⟩:=apS_some h;obtain ⟨hf,h⟩:=Ad h;obtain ⟨hn,h⟩:=Ad h;obtain ⟨a,n,g,m,x,t,k,p,r,q,C⟩:=s;obtain ⟨ln,co,hC⟩:∃ (ln:Nat->Nat) (co:Nat->Nat->Int),C=λu=>(ln u,co u):=⟨λu=>(C u).1,λu=>(C u).2,rfl⟩;subst hC;have hA:Bj [v1] [.agg (shL a n g m x t k p r q ln co)]:=λS w cs hv=>by
   obtain ⟨c,l,rfl,q1,q2⟩:=hv;exact ⟨c,_,rfl,a1 S w c q1,q2⟩
  have hn:Af n=true∧Af m=true∧Af p=true∧Af q=true∧(A4 q λi=>Af (ln i))=true:=by simpa [BG,Ao] using hn
  obtain ⟨n1,n2,n3,n4,n5⟩:=hn;have hx:=AH tb46_ok [(0,J9 a n g m x t k p r q ln co),(2,E0 a n g m x t k p r q ln co)] (G:=Gl);have hL:=AQ [(0,J9 a n g m x t k p r q ln co),(2,E0 a n g m x t k p r q ln co)];cases hc:ieq (B1 a n g m x t k p r q ln co) 0 with
  | false =>simp only [hc,T.sem,sel,cond_false,Option.some.injEq,Prod.mk.injEq] at h;obtain ⟨rfl,rfl⟩:=h;exact ⟨_,AA Gl tb46 [(0,J9 a n g m x t k p r q ln co),(2,E0 a n g m x t k p r q ln co)],_,hA,rfl,hx.1,hx.2,Al4 _ a n g m x t k p r q ln co (CN () ()) hf n1 n2 n3 n4 n5 hc,Av.refl _⟩
  | true =>
   simp only [hc] at h;obtain ⟨_,h⟩:=Ad h;have:=Ab h;simp only [Prod.mk.injEq] at this;obtain ⟨rfl,rfl⟩:=this;have hs:=K5 a n g m x t k p r q ln co hc;have hm:m=n:=hs.nx;have m16:m <= 16:=by rw [hm]; exact hs.cyc.hi
   refine ⟨_,AA Gl tb46 [(0,J9 a n g m x t k p r q ln co),(2,E0 a n g m x t k p r q ln co)],[.row 3 1 m (yG x m)],hA,rfl,hx.1,hx.2,?_,?_⟩
   ·have hQ:=AI (k:=0) (r:=Va a n g m x t k p r q ln co m (yG x m)) hL hL
    refine AP hQ _ (w46o _ _ a n g m x t k p r q ln co (yG x m) (CN () ()) hf n1 n2 n3 n4 n5 hc (Az ?_));show (A3 _ (J9 a n g m x t k p r q ln co) (m+1) (ent46 a n g m x t k p r q ln co)).sem=_;rw [ent46_eq];exact run46 _ (Sw hL hL 0 _) a n g m x t k p r q ln co (λg st=>rfl) m16 m 0 _ (m+1) (by omega) (by omega)
   ·refine .one λi hi=>?_
    rw [Aat x m i hi];exact congrArg iV (AoU hs hi).symm
 ·cases h
def U5 (x:Nat->Ev5) (i:Nat):In4:=bif ieq (x i).dir 2 then Abc (x i) else Ahu (rgI x i) (x i)
def cdL (g:Nat->E6) (x:Nat->Ev5) (u:Nat):Nat->Nat
 | 0=>0
 | i+1=>bif ieq (x i).th (ofNat u) then (bif KY g x i then AV (AV (cdL g x u i) 1) 1 else AV (cdL g x u i) 1) else cdL g x u i
def cdV (g:Nat->E6) (x:Nat->Ev5) (u:Nat):Nat->Nat->V
 | 0=>λ_=>.und
 | i+1=>bif ieq (x i).th (ofNat u) then (bif KY g x i then As (AV (cdL g x u i) 1) (As (cdL g x u i) (cdV g x u i) (inV Gc)) (inV (U5 x i)) else As (cdL g x u i) (cdV g x u i) (inV (U5 x i))) else cdV g x u i
theorem Akl {s:Sh7} (H:IsSh s) {i:Nat} (hi:i<s.nx) (fe:Nat->Bool):Sz (s.X i) (wsF fe s.X i)=U5 s.X i:=by
 unfold Sz U5;cases hd:ieq (s.X i).dir 2 with
 | true=>rfl
 | false =>rw [Ahb H fe hi,hd];rfl
theorem RN {l:Nat} {c:Nat->V} {d:Nat->In4} (h:∀ j,j<l->c j=inV (d j)) (v:In4):∀ j,j<l+1->As l c (inV v) j=inV (bif AW j l then v else d j):=λj hj=>by
 rw [Bo];show (bif Nat.beq j l then _ else _)=inV (bif Nat.beq j l then _ else _);cases hb:Nat.beq j l with
 | true=>rfl
 | false=>exact h j (by have:=Nat.ne_of_beq_eq_false hb; omega)
theorem AeV (lw:Nat->Nat) (cw:Nat->Nat->In4) (u:Nat) (v:In4) (j:Nat):JS lw cw u v u j=bif AW j (lw u) then v else cw u j:=by
 unfold JS;rw [Go.Sy.nbeq_self];rfl
theorem Aaz {s:Sh7} (H:IsSh s) (u:Nat):∀ i,i <= s.nx->(wsF (feF s.E s.nx) s.X i).lw u=cdL s.E s.X u i∧∀ j,j<cdL s.E s.X u i->cdV s.E s.X u i j=inV ((wsF (feF s.E s.nx) s.X i).cw u j)
 | 0,_=>⟨rfl,λ_ h=>(by cases h)⟩
 | i+1,h=>by
  obtain ⟨ih1,ih2⟩:=Aaz H u i (by omega);have hi:i<s.nx:=by omega
  have hin:=Akl H hi (feF s.E s.nx);have hfe:=Akt H hi;have hth:=(VA H hi).1;by_cases hu:toN (s.X i).th=u
  ·have ht:ieq (s.X i).th (ofNat u)=true:=by rw [hth,hu]; exact HQ _
   unfold cdL cdV;rw [ht];simp only [cond_true];have e1:=Y4 (feF s.E s.nx i) (s.X i) i (wsF (feF s.E s.nx) s.X i);have e2:=Y5 (feF s.E s.nx i) (s.X i) i (wsF (feF s.E s.nx) s.X i);rw [hu,hin] at e2;rw [hu] at e1;have e1:(wsF (feF s.E s.nx) s.X (i+1)).lw=_:=e1;have e2:(wsF (feF s.E s.nx) s.X (i+1)).cw=_:=e2;rw [e1,e2,hfe];cases KY s.E s.X i with
   | false =>
    refine ⟨?_,λj hj=>?_⟩
    ·show Gp (wsF (feF s.E s.nx) s.X i).lw u u=_
     rw [Jm,ih1]; rfl
    ·show As _ _ _ j=inV (JS (wsF (feF s.E s.nx) s.X i).lw (wsF (feF s.E s.nx) s.X i).cw u (U5 s.X i) u j)
     unfold JS;rw [Go.Sy.nbeq_self,ih1];exact RN ih2 _ j hj
   | true =>
    refine ⟨?_,λj hj=>?_⟩
    ·show Gp (Gp (wsF (feF s.E s.nx) s.X i).lw u) u u=_
     rw [Jm,Jm,ih1]; rfl
    ·show As _ _ _ j=inV (JS (Gp (wsF (feF s.E s.nx) s.X i).lw u) (JS (wsF (feF s.E s.nx) s.X i).lw (wsF (feF s.E s.nx) s.X i).cw u Gc) u (U5 s.X i) u j)
     have h1:∀ j,j<cdL s.E s.X u i+1->As (cdL s.E s.X u i) (cdV s.E s.X u i) (inV Gc) j=inV (JS (wsF (feF s.E s.nx) s.X i).lw (wsF (feF s.E s.nx) s.X i).cw u Gc u j):=λj hj=>by
      unfold JS;rw [Go.Sy.nbeq_self,ih1];exact RN ih2 _ j hj
     refine (RN h1 (U5 s.X i) j hj).trans ?_;rw [AeV (Gp (wsF (feF s.E s.nx) s.X i).lw u),Jm,ih1]
  ·have ht:ieq (s.X i).th (ofNat u)=false:=by rw [hth]; exact KQ hu
   obtain ⟨h3,h4⟩:=AnJ (fe:=feF s.E s.nx i) (b:=i) (W:=wsF (feF s.E s.nx) s.X i) hu;unfold cdL cdV;rw [ht];refine ⟨h3.trans ih1,λj hj=>?_⟩;rw [show (wsF (feF s.E s.nx) s.X (i+1)).cw u=(wsF (feF s.E s.nx) s.X i).cw u from h4];exact ih2 j hj
noncomputable def T0:AK:=(23,Wm)::(44,Aks)::(45,OK)::[]
theorem XA:Aq Tryz.prog Gl T0:=.cons p46 <| .cons p76 <| .cons p38 .nil
theorem AoE (L:LT) (a:Int) (n:Nat) (g:Nat->E6) (m:Nat) (x:Nat->Ev5) (t k:Int) (p:Nat) (r:Nat->Int) (q:Nat) (ln:Nat->Nat) (co:Nat->Nat->Int) (h21:A4 q (λi=>A4 (ln i) (λ_=>true))=true) (h22:BC n=true) (h23:Af n=true) (h24:Af m=true) (h25:Af p=true) (h26:Af q=true) (h27:A4 q (λi=>Af (ln i))=true) (h28:ieq (B1 a n g m x t k p r q ln (λi i_1=>co i i_1)) 0=false):(Ay (Ai tab ⟨Am T0,L,Gl⟩ Tryz.f21 [.agg (shL a n g m x t k p r q ln co)] [])).sem=some ((.tup [.jref 0,iV (B1 a n g m x t k p r q ln (λi i_1=>co i i_1))]),[.jag (Jag.mk 49 1 0 Aa 0 51 8 (λ_=>true) (λ_=>0) (λ_ _=>.und))]):=by
 exact Ac (ks:=[kL n,kL m,kL p,kn h21,kn h22,kA (kn h23) (kA (kn h24) (kA (kn h25) (kA (kn h26) (kn h27)))),kn h28,kN (kn h28)]) (by kernel_rfl)
def ent44 (a:Int) (n:Nat) (g:Nat->E6) (m:Nat) (x:Nat->Ev5) (t:Nat) (k:Int) (p:Nat) (r:Nat->Int) (q:Nat) (ln:Nat->Nat) (co:Nat->Nat->Int) :St:=⟨jsV 80 0 (λ_=>A9) [(0,.agg [iV a,.sl 6 n (λi=>eV (g i)),.sl 5 m (λi=>evV (x i)),nV t,iV k,.sl 1 p (λi=>iV (r i)),.sl 1 q (λu=>.sl 1 (ln u) (λi=>iV (co u i)))]),(1,.ptr 0 0),(2,.jref 1),(3,iV 0),(4,.ref 2),(5,iV 0),(6,.jref 3),(7,iV 0),(13,.tup [.ref 2,iV 0]),(14,.agg [iV a,.sl 6 n (λi=>eV (g i)),.sl 5 m (λi=>evV (x i)),nV t,iV k,.sl 1 p (λi=>iV (r i)),.sl 1 q (λu=>.sl 1 (ln u) (λi=>iV (co u i)))]),(15,.tup [.ref 2,iV 0]),(16,.ref 2),(17,iV 0),(18,iV 0),(19,bV (A5 (ieq 0 0)))],[.cells [iV a,.sl 6 n (λi=>eV (g i)),.sl 5 m (λi=>evV (x i)),nV t,iV k,.sl 1 p (λi=>iV (r i)),.sl 1 q (λu=>.sl 1 (ln u) (λi=>iV (co u i)))],.jag (Jag.mk 49 1 0 Aa 0 51 8 (λ_=>true) (λ_=>0) (λ_ _=>.und)),.row 3 1 m (λi=>iV (rgI x i)),.jag (Jag.mk 49 1 0 Aa 0 51 8 (λ_=>true) (λ_=>0) (λ_ _=>.und))]⟩
def lp44 (a:Int) (n:Nat) (g:Nat->E6) (m:Nat) (x:Nat->Ev5) (t:Nat) (k:Int) (p:Nat) (r:Nat->Int) (q:Nat) (ln:Nat->Nat) (co:Nat->Nat->Int):Lp:=⟨bmK 80 0 [1,4,6,7],4,bmK 80 0 [1,4,6],4,t+1⟩
def st44 (a:Int) (n:Nat) (g:Nat->E6) (m:Nat) (x:Nat->Ev5) (t:Nat) (k:Int) (p:Nat) (r:Nat->Int) (q:Nat) (ln:Nat->Nat) (co:Nat->Nat->Int) (b:Nat) (gz:Nat->V) (lo:Nat->Nat) (mo:Nat->Nat->V) (j:Nat->V):St:=⟨jsV 80 0 j [(1,.ptr 0 0),(4,.ref 2),(6,.jref 3),(7,nV b)],[.cells [iV a,.sl 6 n (λi=>eV (g i)),.sl 5 m (λi=>evV (x i)),nV t,iV k,.sl 1 p (λi=>iV (r i)),.sl 1 q (λu=>.sl 1 (ln u) (λi=>iV (co u i)))],.jag (Jag.mk 49 1 0 Aa 0 51 8 (λ_=>true) (λ_=>0) (λ_ _=>.und)),.row 3 1 m (λi=>iV (rgI x i)),.jag (Jag.mk 49 1 b gz 0 51 8 (λ_=>true) lo mo)]⟩
def en44e (a:Int) (n:Nat) (g:Nat->E6) (m:Nat) (x:Nat->Ev5) (t:Nat) (k:Int) (p:Nat) (r:Nat->Int) (q:Nat) (ln:Nat->Nat) (co:Nat->Nat->Int) (b:Nat) (gz:Nat->V) (lo:Nat->Nat) (mo:Nat->Nat->V):Ex×St:=(.ex 0,⟨jsV 80 0 Aa [(1,.ptr 0 0),(4,.ref 2),(6,.jref 3)],[.cells [iV a,.sl 6 n (λi=>eV (g i)),.sl 5 m (λi=>evV (x i)),nV t,iV k,.sl 1 p (λi=>iV (r i)),.sl 1 q (λu=>.sl 1 (ln u) (λi=>iV (co u i)))],.jag (Jag.mk 49 1 0 Aa 0 51 8 (λ_=>true) (λ_=>0) (λ_ _=>.und)),.row 3 1 m (λi=>iV (rgI x i)),.jag (Jag.mk 49 1 b gz 0 51 8 (λ_=>true) lo mo)]⟩)
noncomputable def P1 (L:LT):St->T (Ex×St):=λst=>AD tab ⟨Am T0,L,Gl⟩ (Au Tryz.f21 0) 0 st
theorem Ama (L:LT) (a:Int) (n:Nat) (g:Nat->E6) (m:Nat) (x:Nat->Ev5) (t:Nat) (k:Int) (p:Nat) (r:Nat->Int) (q:Nat) (ln:Nat->Nat) (co:Nat->Nat->Int) (b:Nat) (gz:Nat->V) (lo:Nat->Nat) (mo:Nat->Nat->V)  (j:Nat->V) (h0:ilt (ofNat b) (ofNat t)=false):Al (P1 L) (lp44 a n g m x t k p r q ln co) (st44 a n g m x t k p r q ln co b gz lo mo j)=some ((.ex 0),⟨jsV 80 0 Aa [(1,.ptr 0 0),(4,.ref 2),(6,.jref 3)],[.cells [iV a,.sl 6 n (λi=>eV (g i)),.sl 5 m (λi=>evV (x i)),nV t,iV k,.sl 1 p (λi=>iV (r i)),.sl 1 q (λu=>.sl 1 (ln u) (λi=>iV (co u i)))],.jag (Jag.mk 49 1 0 Aa 0 51 8 (λ_=>true) (λ_=>0) (λ_ _=>.und)),.row 3 1 m (λi=>iV (rgI x i)),.jag (Jag.mk 49 1 b gz 0 51 8 (λ_=>true) lo (λi i_1=>mo i i_1))]⟩):=by
 exact Ac (ks:=[kn h0]) (by kernel_rfl)
def FW (a:Int) (n:Nat) (g:Nat->E6) (m:Nat) (x:Nat->Ev5) (t:Nat) (k:Int) (p:Nat) (r:Nat->Int) (q:Nat) (ln:Nat->Nat) (co:Nat->Nat->Int):Lp:=⟨bmK 80 0 [1,4,6,7,8,9],5,bmK 80 0 [1,4,6,7,8],5,m+1⟩
def I2 (a:Int) (n:Nat) (g:Nat->E6) (m:Nat) (x:Nat->Ev5) (t:Nat) (k:Int) (p:Nat) (r:Nat->Int) (q:Nat) (ln:Nat->Nat) (co:Nat->Nat->Int) (b:Nat) (gz:Nat->V) (lo:Nat->Nat) (mo:Nat->Nat->V) (l:Nat) (c:Nat->V) (i:Nat) (j:Nat->V):St:=⟨jsV 80 0 j [(1,.ptr 0 0),(4,.ref 2),(6,.jref 3),(7,nV b),(8,.ref 4),(9,nV i)],[.cells [iV a,.sl 6 n (λi=>eV (g i)),.sl 5 m (λi=>evV (x i)),nV t,iV k,.sl 1 p (λi=>iV (r i)),.sl 1 q (λu=>.sl 1 (ln u) (λi=>iV (co u i)))],.jag (Jag.mk 49 1 0 Aa 0 51 8 (λ_=>true) (λ_=>0) (λ_ _=>.und)),.row 3 1 m (λi=>iV (rgI x i)),.jag (Jag.mk 49 1 b gz 0 51 8 (λ_=>true) lo mo),.row 51 8 l c]⟩
def NJ (a:Int) (n:Nat) (g:Nat->E6) (m:Nat) (x:Nat->Ev5) (t:Nat) (k:Int) (p:Nat) (r:Nat->Int) (q:Nat) (ln:Nat->Nat) (co:Nat->Nat->Int) (b:Nat) (gz:Nat->V) (lo:Nat->Nat) (mo:Nat->Nat->V) (l:Nat) (c:Nat->V) (i:Nat):Ex×St:=(.ex 2,⟨jsV 80 0 Aa [(1,.ptr 0 0),(4,.ref 2),(6,.jref 3),(7,nV b),(8,.ref 4)],[.cells [iV a,.sl 6 n (λi=>eV (g i)),.sl 5 m (λi=>evV (x i)),nV t,iV k,.sl 1 p (λi=>iV (r i)),.sl 1 q (λu=>.sl 1 (ln u) (λi=>iV (co u i)))],.jag (Jag.mk 49 1 0 Aa 0 51 8 (λ_=>true) (λ_=>0) (λ_ _=>.und)),.row 3 1 m (λi=>iV (rgI x i)),.jag (Jag.mk 49 1 b gz 0 51 8 (λ_=>true) lo mo),.row 51 8 l c]⟩)
noncomputable def E4 (L:LT):St->T (Ex×St):=λst=>AD tab ⟨Am T0,L,Gl⟩ (Au Tryz.f21 2) 2 st
section
variable (L:LT) (a:Int) (n:Nat) (g:Nat->E6) (m:Nat) (x:Nat->Ev5) (t:Nat) (k:Int) (p:Nat) (r:Nat->Int) (q:Nat) (ln:Nat->Nat) (co:Nat->Nat->Int) (b:Nat) (gz:Nat->V) (lo:Nat->Nat) (mo:Nat->Nat->V) (l:Nat) (c:Nat->V) (i:Nat)  (j:Nat->V)
include L a n g m x t k p r q ln co b gz lo mo l c i j
theorem AlO (h0:ilt (ofNat i) (ofNat m)=false):Al (E4 L) (FW a n g m x t k p r q ln co) (I2 a n g m x t k p r q ln co b gz lo mo l c i j)=some ((.ex 2),⟨jsV 80 0 Aa [(1,.ptr 0 0),(4,.ref 2),(6,.jref 3),(7,nV b),(8,.ref 4)],[.cells [iV a,.sl 6 n (λi=>eV (g i)),.sl 5 m (λi=>evV (x i)),nV t,iV k,.sl 1 p (λi=>iV (r i)),.sl 1 q (λu=>.sl 1 (ln u) (λi=>iV (co u i)))],.jag (Jag.mk 49 1 0 Aa 0 51 8 (λ_=>true) (λ_=>0) (λ_ _=>.und)),.row 3 1 m (λi=>iV (rgI x i)),.jag (Jag.mk 49 1 b gz 0 51 8 (λ_=>true) lo (λi_1 i_2=>mo i_1 i_2)),.row 51 8 l c]⟩):=by
 exact Ac (ks:=[kn h0]) (by kernel_rfl)
theorem AlN (h0:ilt (ofNat i) (ofNat m)=true) (h26:ile 0 (ofNat i)=true) (h1:ieq (x i).th (ofNat b)=false):Al (E4 L) (FW a n g m x t k p r q ln co) (I2 a n g m x t k p r q ln co b gz lo mo l c i j)=some (.nm,⟨jsV 80 0 Aa [(1,.ptr 0 0),(4,.ref 2),(6,.jref 3),(7,nV b),(8,.ref 4),(9,iV (wr .i64 (Ak (ofNat i) 1)))],[.cells [iV a,.sl 6 n (λi=>eV (g i)),.sl 5 m (λi=>evV (x i)),nV t,iV k,.sl 1 p (λi=>iV (r i)),.sl 1 q (λu=>.sl 1 (ln u) (λi=>iV (co u i)))],.jag (Jag.mk 49 1 0 Aa 0 51 8 (λ_=>true) (λ_=>0) (λ_ _=>.und)),.row 3 1 m (λi=>iV (rgI x i)),.jag (Jag.mk 49 1 b gz 0 51 8 (λ_=>true) lo (λi_1 i_2=>mo i_1 i_2)),.row 51 8 l c]⟩):=by
 exact Ac (ks:=[kn h0,kA (kn h26) (kn h0),kN (kn h1)]) (by kernel_rfl)
theorem AlL (h0:ilt (ofNat i) (ofNat m)=true) (h28:ile 0 (ofNat i)=true) (h1:ieq (x i).th (ofNat b)=true) (h29:A4 q (λi=>A4 (ln i) (λ_=>true))=true) (h30:Pf n m (ofNat i)=true) (h2:KY g x i=false) (h3:ieq (x i).dir 2=true) (h31:Bn l 1 80=true):Al (E4 L) (FW a n g m x t k p r q ln co) (I2 a n g m x t k p r q ln co b gz lo mo l c i j)=some (.nm,⟨jsV 80 0 Aa [(1,.ptr 0 0),(4,.ref 2),(6,.jref 3),(7,nV b),(8,.ref 4),(9,iV (wr .i64 (Ak (ofNat i) 1)))],[.cells [iV a,.sl 6 n (λi=>eV (g i)),.sl 5 m (λi=>evV (x i)),nV t,iV k,.sl 1 p (λi=>iV (r i)),.sl 1 q (λu=>.sl 1 (ln u) (λi=>iV (co u i)))],.jag (Jag.mk 49 1 0 Aa 0 51 8 (λ_=>true) (λ_=>0) (λ_ _=>.und)),.row 3 1 m (λi=>iV (rgI x i)),.jag (Jag.mk 49 1 b gz 0 51 8 (λ_=>true) lo (λi_1 i_2=>mo i_1 i_2)),.row 51 8 (AV l 1) (As l c (.agg [iV 1,iV 0,iV 0,iV 0,iV (x i).val,.str (BB (x i).loc),.str [],iV 0]))]⟩):=by
 exact Ac (ks:=[kn h0,kA (kn h28) (kn h0),kN (kn h1),kL n,kL m,kL p,kn h29,kn h30,kn h2,kn h3,kn h31]) (by kernel_rfl)
theorem AlM (h0:ilt (ofNat i) (ofNat m)=true) (h28:ile 0 (ofNat i)=true) (h1:ieq (x i).th (ofNat b)=true) (h29:A4 q (λi=>A4 (ln i) (λ_=>true))=true) (h30:Pf n m (ofNat i)=true) (h2:KY g x i=false) (h3:ieq (x i).dir 2=false) (h31:nlt i m=true) (h32:Bn l 1 80=true):Al (E4 L) (FW a n g m x t k p r q ln co) (I2 a n g m x t k p r q ln co b gz lo mo l c i j)=some (.nm,⟨jsV 80 0 Aa [(1,.ptr 0 0),(4,.ref 2),(6,.jref 3),(7,nV b),(8,.ref 4),(9,iV (wr .i64 (Ak (ofNat i) 1)))],[.cells [iV a,.sl 6 n (λi=>eV (g i)),.sl 5 m (λi=>evV (x i)),nV t,iV k,.sl 1 p (λi=>iV (r i)),.sl 1 q (λu=>.sl 1 (ln u) (λi=>iV (co u i)))],.jag (Jag.mk 49 1 0 Aa 0 51 8 (λ_=>true) (λ_=>0) (λ_ _=>.und)),.row 3 1 m (λi=>iV (rgI x i)),.jag (Jag.mk 49 1 b gz 0 51 8 (λ_=>true) lo (λi_1 i_2=>mo i_1 i_2)),.row 51 8 (AV l 1) (As l c (.agg [iV 3,iV (rgI x i),iV 0,iV 0,iV 0,.str (BB (x i).loc),.str [],iV 0]))]⟩):=by
 exact Ac (ks:=[kn h0,kA (kn h28) (kn h0),kN (kn h1),kL n,kL m,kL p,kn h29,kn h30,kn h2,kn h3,kA (kn h28) (kn h0),kn h31,kn h32]) (by kernel_rfl)
theorem AiF (h0:ilt (ofNat i) (ofNat m)=true) (h28:ile 0 (ofNat i)=true) (h1:ieq (x i).th (ofNat b)=true) (h29:A4 q (λi=>A4 (ln i) (λ_=>true))=true) (h30:Pf n m (ofNat i)=true) (h2:KY g x i=true) (h31:Bn l 1 80=true) (h3:ieq (x i).dir 2=true) (h32:Bn (AV l 1) 1 80=true):Al (E4 L) (FW a n g m x t k p r q ln co) (I2 a n g m x t k p r q ln co b gz lo mo l c i j)=some (.nm,⟨jsV 80 0 Aa [(1,.ptr 0 0),(4,.ref 2),(6,.jref 3),(7,nV b),(8,.ref 4),(9,iV (wr .i64 (Ak (ofNat i) 1)))],[.cells [iV a,.sl 6 n (λi=>eV (g i)),.sl 5 m (λi=>evV (x i)),nV t,iV k,.sl 1 p (λi=>iV (r i)),.sl 1 q (λu=>.sl 1 (ln u) (λi=>iV (co u i)))],.jag (Jag.mk 49 1 0 Aa 0 51 8 (λ_=>true) (λ_=>0) (λ_ _=>.und)),.row 3 1 m (λi=>iV (rgI x i)),.jag (Jag.mk 49 1 b gz 0 51 8 (λ_=>true) lo (λi_1 i_2=>mo i_1 i_2)),.row 51 8 (AV (AV l 1) 1) (As (AV l 1) (As l c (.agg [iV 5,iV 0,iV 0,iV 0,iV 0,.str [],.str [],iV 0])) (.agg [iV 1,iV 0,iV 0,iV 0,iV (x i).val,.str (BB (x i).loc),.str [],iV 0]))]⟩):=by
 exact Ac (ks:=[kn h0,kA (kn h28) (kn h0),kN (kn h1),kL n,kL m,kL p,kn h29,kn h30,kn h2,kn h31,kn h3,kn h32]) (by kernel_rfl)
theorem AiG (h0:ilt (ofNat i) (ofNat m)=true) (h28:ile 0 (ofNat i)=true) (h1:ieq (x i).th (ofNat b)=true) (h29:A4 q (λi=>A4 (ln i) (λ_=>true))=true) (h30:Pf n m (ofNat i)=true) (h2:KY g x i=true) (h31:Bn l 1 80=true) (h3:ieq (x i).dir 2=false) (h32:nlt i m=true) (h33:Bn (AV l 1) 1 80=true):Al (E4 L) (FW a n g m x t k p r q ln co) (I2 a n g m x t k p r q ln co b gz lo mo l c i j)=some (.nm,⟨jsV 80 0 Aa [(1,.ptr 0 0),(4,.ref 2),(6,.jref 3),(7,nV b),(8,.ref 4),(9,iV (wr .i64 (Ak (ofNat i) 1)))],[.cells [iV a,.sl 6 n (λi=>eV (g i)),.sl 5 m (λi=>evV (x i)),nV t,iV k,.sl 1 p (λi=>iV (r i)),.sl 1 q (λu=>.sl 1 (ln u) (λi=>iV (co u i)))],.jag (Jag.mk 49 1 0 Aa 0 51 8 (λ_=>true) (λ_=>0) (λ_ _=>.und)),.row 3 1 m (λi=>iV (rgI x i)),.jag (Jag.mk 49 1 b gz 0 51 8 (λ_=>true) lo (λi_1 i_2=>mo i_1 i_2)),.row 51 8 (AV (AV l 1) 1) (As (AV l 1) (As l c (.agg [iV 5,iV 0,iV 0,iV 0,iV 0,.str [],.str [],iV 0])) (.agg [iV 3,iV (rgI x i),iV 0,iV 0,iV 0,.str (BB (x i).loc),.str [],iV 0]))]⟩):=by
 exact Ac (ks:=[kn h0,kA (kn h28) (kn h0),kN (kn h1),kL n,kL m,kL p,kn h29,kn h30,kn h2,kn h31,kn h3,kA (kn h28) (kn h0),kn h32,kn h33]) (by kernel_rfl)
end
def NE (a:Int) (n:Nat) (g:Nat->E6) (m:Nat) (x:Nat->Ev5) (t:Nat) (k:Int) (p:Nat) (r:Nat->Int) (q:Nat) (ln:Nat->Nat) (co:Nat->Nat->Int) (b:Nat) (gz:Nat->V) (lo:Nat->Nat) (mo:Nat->Nat->V) (j:Nat->V):St:=⟨jsV 80 0 j [(1,.ptr 0 0),(4,.ref 2),(6,.jref 3),(7,nV b),(8,.ref 4),(9,iV 0),(21,nV b),(22,.ptr 0 3),(23,nV t),(24,bV (ilt (ofNat b) (ofNat t)))],[.cells [iV a,.sl 6 n (λi=>eV (g i)),.sl 5 m (λi=>evV (x i)),nV t,iV k,.sl 1 p (λi=>iV (r i)),.sl 1 q (λu=>.sl 1 (ln u) (λi=>iV (co u i)))],.jag (Jag.mk 49 1 0 Aa 0 51 8 (λ_=>true) (λ_=>0) (λ_ _=>.und)),.row 3 1 m (λi=>iV (rgI x i)),.jag (Jag.mk 49 1 b gz 0 51 8 (λ_=>true) lo (λi i_1=>mo i i_1)),.row 51 8 0 Aa]⟩
theorem AlZ (L:LT) (p2:PT) (a:Int) (n:Nat) (g:Nat->E6) (m:Nat) (x:Nat->Ev5) (t:Nat) (k:Int) (p:Nat) (r:Nat->Int) (q:Nat) (ln:Nat->Nat) (co:Nat->Nat->Int) (b:Nat) (gz:Nat->V) (lo:Nat->Nat) (mo:Nat->Nat->V) (l:Nat) (c:Nat->V) (j:Nat->V) (h0:ilt (ofNat b) (ofNat t)=true) (h25:Bn b 1 24=true) (hp2:p2 (E4 (onP 2 p2 (NJ a n g m x t k p r q ln co b gz lo mo l c 0) L)) (NE a n g m x t k p r q ln co b gz lo mo j)=true):Al (P1 (onP 2 p2 (NJ a n g m x t k p r q ln co b gz lo mo l c 0) L)) (lp44 a n g m x t k p r q ln co) (st44 a n g m x t k p r q ln co b gz lo mo j)=some (.nm,⟨jsV 80 0 Aa [(1,.ptr 0 0),(4,.ref 2),(6,.jref 3),(7,iV (wr .i64 (Ak (ofNat b) 1)))],[.cells [iV a,.sl 6 n (λi=>eV (g i)),.sl 5 m (λi=>evV (x i)),nV t,iV k,.sl 1 p (λi=>iV (r i)),.sl 1 q (λu=>.sl 1 (ln u) (λi=>iV (co u i)))],.jag (Jag.mk 49 1 0 Aa 0 51 8 (λ_=>true) (λ_=>0) (λ_ _=>.und)),.row 3 1 m (λi=>iV (rgI x i)),.jag (Jag.mk 49 1 (AV b 1) (As b gz .und) 0 51 8 (λi=>sel (AW i b) true true) (λi=>sel (AW i b) l (lo i)) (λi i_1=>Cm (λi_2 i_3=>mo i_2 i_3) b c i i_1))]⟩):=by
 exact Ac (ks:=[kn h0,kn hp2,kT,kn h25]) (by kernel_rfl)
theorem AoD (L:LT) (p0:PT) (a:Int) (n:Nat) (g:Nat->E6) (m:Nat) (x:Nat->Ev5) (t:Nat) (k:Int) (p:Nat) (r:Nat->Int) (q:Nat) (ln:Nat->Nat) (co:Nat->Nat->Int) (gz:Nat->V) (lo:Nat->Nat) (mo:Nat->Nat->V) (h24:A4 q (λi=>A4 (ln i) (λ_=>true))=true) (h25:BC n=true) (h26:Af n=true) (h27:Af m=true) (h28:Af p=true) (h29:Af q=true) (h30:A4 q (λi=>Af (ln i))=true) (h31:ieq (B1 a n g m x (ofNat t) k p r q ln (λi i_1=>co i i_1)) 0=true) (hp0:p0 (P1 (onP 0 p0 (en44e a n g m x t k p r q ln co t gz lo mo) L)) (ent44 a n g m x t k p r q ln co)=true):(Ay (Ai tab ⟨Am T0,onP 0 p0 (en44e a n g m x t k p r q ln co t gz lo mo) L,Gl⟩ Tryz.f21 [.agg [iV a,.sl 6 n (λi=>eV (g i)),.sl 5 m (λi=>evV (x i)),nV t,iV k,.sl 1 p (λi=>iV (r i)),.sl 1 q (λu=>.sl 1 (ln u) (λi=>iV (co u i)))]] [])).sem=some ((.tup [.jref 0,iV 0]),[.jag (Jag.mk 49 1 t gz 0 51 8 (λ_=>true) lo (λi i_1=>mo i i_1))]):=by
 exact Ac (ks:=[kL n,kL m,kL p,kn h24,kn h25,kA (kn h26) (kA (kn h27) (kA (kn h28) (kA (kn h29) (kn h30)))),kn h31,kN (kI 0),kn hp0]) (by kernel_rfl)
theorem WY (a:Int) (n:Nat) (g:Nat->E6) (m:Nat) (x:Nat->Ev5) (t:Nat) (k:Int) (p:Nat) (r:Nat->Int) (q:Nat) (ln:Nat->Nat) (co:Nat->Nat->Int) (b:Nat) (gz:Nat->V) (lo:Nat->Nat) (mo:Nat->Nat->V) (j:Nat->V):NE a n g m x t k p r q ln co b gz lo mo j=I2 a n g m x t k p r q ln co b gz lo mo 0 Aa 0 (λi=>nth (NE a n g m x t k p r q ln co b gz lo mo j).t i):=by kernel_rfl
theorem ent44_eq (a:Int) (n:Nat) (g:Nat->E6) (m:Nat) (x:Nat->Ev5) (t:Nat) (k:Int) (p:Nat) (r:Nat->Int) (q:Nat) (ln:Nat->Nat) (co:Nat->Nat->Int):ent44 a n g m x t k p r q ln co=st44 a n g m x t k p r q ln co 0 Aa (λ_=>0) (λ_ _=>.und) (λi=>nth (ent44 a n g m x t k p r q ln co).t i):=by kernel_rfl
theorem AdC (g:Nat->E6) (x:Nat->Ev5) (u:Nat):∀ i,cdL g x u i <= 2 * i
 | 0=>Nat.le_refl _
 | i+1=>by
  have:=AdC g x u i;unfold cdL;cases ieq (x i).th (ofNat u)
  ·exact Nat.le_trans this (by omega)
  ·cases KY g x i
   ·show cdL g x u i+1 <= _
    omega
   ·show cdL g x u i+1+1 <= _
    omega
theorem Ab1 (L:LT) (a:Int) (n:Nat) (g:Nat->E6) (m:Nat) (x:Nat->Ev5) (t:Nat) (k:Int) (p:Nat) (r:Nat->Int) (q:Nat) (ln:Nat->Nat) (co:Nat->Nat->Int) (m16:m <= 16) (hmn:m <= n) (b:Nat) (gz:Nat->V) (lo:Nat->Nat) (mo:Nat->Nat->V):∀ (e i:Nat) (j:Nat->V) (u:Nat),m=i+e->e<u ->
  (A3 (E4 L) (FW a n g m x t k p r q ln co) u (I2 a n g m x t k p r q ln co b gz lo mo (cdL g x b i) (cdV g x b i) i j)).sem=some (NJ a n g m x t k p r q ln co b gz lo mo (cdL g x b m) (cdV g x b m) 0)
 | 0,i,j,u+1,h,_=>by
  have:m=i:=by omega
  subst this;exact Ae (AlO L a n g m x t k p r q ln co b gz lo mo _ _ m j (Aw (Nat.le_refl _)))
 | e+1,i,j,u+1,h,h2=>by
  have hi:i<m:=by omega
  have hle:=AdC g x b i;have hok:Pf n m (ofNat i)=true:=by
   unfold Pf;rw [AX,show nlt (toN (ofNat i)) m=true from decide_eq_true hi,Nat.ble_eq_true_of_le hmn,Nat.ble_eq_true_of_le (show m <= 4611686018427387904 by omega)];rfl
  have ha1:Bn (cdL g x b i) 1 80=true:=C0 (by omega);have ha2:Bn (AV (cdL g x b i) 1) 1 80=true:=C0 (by show (cdL g x b i+1+1) * 80 <= _; omega);have hn:nlt i m=true:=decide_eq_true hi;have next:=Ab1 L a n g m x t k p r q ln co m16 hmn b gz lo mo e (i+1) Aa u (by omega) (by omega)
  rw [cdL,cdV] at next
  unfold U5 at next
  cases hth:ieq (x i).th (ofNat b) with
  | false =>
   rw [hth] at next
   rw [Ae (AlN L a n g m x t k p r q ln co b gz lo mo (cdL g x b i) (cdV g x b i) i j (ofNat_lt hi) (AX _) hth),A6,Ap hi (by omega)];exact next
  | true =>
   rw [hth] at next
   cases hf:KY g x i <;> cases hd:ieq (x i).dir 2 <;> rw [hf,hd] at next
   ·rw [Ae (AlM L a n g m x t k p r q ln co b gz lo mo (cdL g x b i) (cdV g x b i) i j (ofNat_lt hi) (AX _) hth (CN () ()) hok hf hd hn ha1),A6,Ap hi (by omega)]
    exact next
   ·rw [Ae (AlL L a n g m x t k p r q ln co b gz lo mo (cdL g x b i) (cdV g x b i) i j (ofNat_lt hi) (AX _) hth (CN () ()) hok hf hd ha1),A6,Ap hi (by omega)]
    exact next
   ·rw [Ae (AiG L a n g m x t k p r q ln co b gz lo mo (cdL g x b i) (cdV g x b i) i j (ofNat_lt hi) (AX _) hth (CN () ()) hok hf ha1 hd hn ha2),A6,Ap hi (by omega)]
    exact next
   ·rw [Ae (AiF L a n g m x t k p r q ln co b gz lo mo (cdL g x b i) (cdV g x b i) i j (ofNat_lt hi) (AX _) hth (CN () ()) hok hf ha1 hd ha2),A6,Ap hi (by omega)]
    exact next
theorem AgS (M:LT) (hMM:LLe M M) (a:Int) (n:Nat) (g:Nat->E6) (m:Nat) (x:Nat->Ev5) (t:Nat) (k:Int) (p:Nat) (r:Nat->Int) (q:Nat) (ln:Nat->Nat) (co:Nat->Nat->Int) (m2:∀ g' st,M 2 g' st=A3 g' (FW a n g m x t k p r q ln co) (m+1) st) (m16:m <= 16) (hmn:m <= n) (t16:t <= 16):∀ (e b:Nat) (j:Nat->V) (u:Nat),t=b+e->e<u ->
  (A3 (P1 M) (lp44 a n g m x t k p r q ln co) u (st44 a n g m x t k p r q ln co b (JA b) (Gq (λu=>cdL g x u m) b) (Hm (λu=>cdV g x u m) b) j)).sem=some (en44e a n g m x t k p r q ln co t (JA t) (Gq (λu=>cdL g x u m) t) (Hm (λu=>cdV g x u m) t))
 | 0,b,j,u+1,h,_=>by
  have:t=b:=by omega
  subst this;exact Ae (Ama M a n g m x t k p r q ln co t _ _ _ j (Aw (Nat.le_refl _)))
 | e+1,b,j,u+1,h,h2=>by
  have hb:b<t:=by omega
  have next:=AgS M hMM a n g m x t k p r q ln co m2 m16 hmn t16 e (b+1) Aa u (by omega) (by omega)
  have hi:∀ M',(M 2 (E4 M') (NE a n g m x t k p r q ln co b (JA b) (Gq (λu=>cdL g x u m) b) (Hm (λu=>cdV g x u m) b) j)).sem=some (NJ a n g m x t k p r q ln co b (JA b) (Gq (λu=>cdL g x u m) b) (Hm (λu=>cdV g x u m) b) (cdL g x b m) (cdV g x b m) 0):=λM'=>by
   rw [m2,WY];exact Ab1 M' a n g m x t k p r q ln co m16 hmn b _ _ _ m 0 _ (m+1) (by omega) (by omega)
  have h3:=AlZ M _ a n g m x t k p r q ln co b (JA b) (Gq (λu=>cdL g x u m) b) (Hm (λu=>cdV g x u m) b) (cdL g x b m) (cdV g x b m) j (ofNat_lt hb) (C0 (by omega)) (Az (hi _));have h4:Al (P1 M) (lp44 a n g m x t k p r q ln co) (st44 a n g m x t k p r q ln co b (JA b) (Gq (λu=>cdL g x u m) b) (Hm (λu=>cdV g x u m) b) j)=_:=Hi (l:=lp44 a n g m x t k p r q ln co) (Gd (Γ:=⟨Am T0,M,Gl⟩) (AI hMM hMM) (Au Tryz.f21 0) 0 (st44 a n g m x t k p r q ln co b (JA b) (Gq (λu=>cdL g x u m) b) (Hm (λu=>cdV g x u m) b) j)) h3;rw [Ae h4,A6,Ap hb (by omega),Ahy];exact next
theorem p44:Ax Tryz.prog Gl 21 codeT:=by
 refine Aj A7 mixed Tryz.func21 (by kernel_rfl) (by kernel_rfl) λvs v h' h=>?_;unfold codeT at h;split at h
 ·rename_i v1
  obtain ⟨s,a1,h⟩:=apS_some h;obtain ⟨hf,h⟩:=Ad h;obtain ⟨hn,h⟩:=Ad h;obtain ⟨a,n,g,m,x,t,k,p,r,q,C⟩:=s;obtain ⟨ln,co,hC⟩:∃ (ln:Nat->Nat) (co:Nat->Nat->Int),C=λu=>(ln u,co u):=⟨λu=>(C u).1,λu=>(C u).2,rfl⟩;subst hC;have hA:Bj [v1] [.agg (shL a n g m x t k p r q ln co)]:=λS w cs hv=>by
   obtain ⟨c,l,rfl,q1,q2⟩:=hv;exact ⟨c,_,rfl,a1 S w c q1,q2⟩
  have hn:Af n=true∧Af m=true∧Af p=true∧Af q=true∧(A4 q λi=>Af (ln i))=true:=by simpa [BG,Ao] using hn
  obtain ⟨n1,n2,n3,n4,n5⟩:=hn;cases hc:ieq (B1 a n g m x t k p r q ln co) 0 with
  | false =>simp only [hc,T.sem,sel,cond_false,Option.some.injEq,Prod.mk.injEq] at h;obtain ⟨rfl,rfl⟩:=h;have hx:=AH XA [] (G:=Gl);exact ⟨_,AA Gl T0 [],_,hA,rfl,hx.1,hx.2,AoE _ a n g m x t k p r q ln co (CN () ()) hf n1 n2 n3 n4 n5 hc,Av.refl _⟩
  | true =>
   simp only [hc] at h;obtain ⟨_,h⟩:=Ad h;have:=Ab h;simp only [Prod.mk.injEq] at this;obtain ⟨rfl,rfl⟩:=this;have hs:=K5 a n g m x t k p r q ln co hc;have hm:m=n:=hs.nx;have m16:m <= 16:=by rw [hm]; exact hs.cyc.hi
   obtain ⟨w,rfl,hw⟩:∃ w,t=ofNat w∧w <= 16:=⟨_,hs.tt,by
    have h1:ttN n (shG n g) <= n:=Bm _ _;exact Nat.le_trans h1 (by omega)⟩
   have hx:=AH XA [(0,lp44 a n g m x w k p r q ln co),(2,FW a n g m x w k p r q ln co)] (G:=Gl);have hL:=AQ [(0,lp44 a n g m x w k p r q ln co),(2,FW a n g m x w k p r q ln co)];refine ⟨_,AA Gl T0 [(0,lp44 a n g m x w k p r q ln co),(2,FW a n g m x w k p r q ln co)],[.jag (Jag.mk 49 1 w (JA w) 0 51 8 (λ_=>true) (Gq (λu=>cdL g x u m) w) (Hm (λu=>cdV g x u m) w))],hA,rfl,hx.1,hx.2,?_,?_⟩
   ·have hQ:=AI (k:=0) (r:=en44e a n g m x w k p r q ln co w (JA w) (Gq (λu=>cdL g x u m) w) (Hm (λu=>cdV g x u m) w)) hL hL
    refine AP hQ _ (AoD _ _ a n g m x w k p r q ln co (JA w) (Gq (λu=>cdL g x u m) w) (Hm (λu=>cdV g x u m) w) (CN () ()) hf n1 n2 n3 n4 n5 hc (Az ?_));show (A3 _ (lp44 a n g m x w k p r q ln co) (w+1) (ent44 a n g m x w k p r q ln co)).sem=_;rw [ent44_eq];exact AgS _ (Sw hL hL 0 _) a n g m x w k p r q ln co (λg st=>rfl) m16 (by omega) hw w 0 _ (w+1) (by omega) (by omega)
   ·refine .consB (.jag (λ_ _=>.inr rfl) (λ_ _=>rfl) (λu hu=>?_) (λu hu j hj=>?_)) (Av.refl _)
    ·have hu:u<w:=hu
     show (wsS _).lw u=Gq (λu=>cdL g x u m) w u;rw [KJ _ _ _ hu];exact (Aaz hs u m (Nat.le_refl _)).1
    ·have hu:u<w:=hu
     have hj:j<Gq (λu=>cdL g x u m) w u:=hj;rw [KJ _ _ _ hu] at hj;show inV ((wsS _).cw u j)=Hm (λu=>cdV g x u m) w u j;rw [Sf _ _ _ hu];exact ((Aaz hs u m (Nat.le_refl _)).2 j hj).symm
 ·cases h
end Go.Proofs.YtkgdhhieomndeaaGreatDoor.Sh
