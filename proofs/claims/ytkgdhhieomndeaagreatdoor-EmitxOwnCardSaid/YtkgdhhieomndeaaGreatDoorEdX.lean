/-
  crowded: the first event whose part has too many. No conditions.
-/
import Derived.Test.YtkgdhhieomndeaaGreatDoorCyQ
import Derived.Test.YtkgdhhieomndeaaGreatDoorEdN
namespace Go.Proofs.YtkgdhhieomndeaaGreatDoor.Ed
open Go.Sy
open Int (ofNat)
theorem Ahk {v u:V} (h:∀ (S:Nat->Prop) (w:World) (c:Value),VR S w v noK c->VR S w u noK c) (S:Nat->Prop) (w:World) (κ:A2) (c:Value) (hv:VR S w (.pp (.agg [v])) κ c):VR S w (.pp (.agg [u])) κ c:=by
 obtain ⟨b,o,cv,q1,⟨ca,q2,a,l',q3,q4,q5⟩,q6⟩:=hv;exact ⟨b,o,cv,q1,⟨ca,q2,a,l',q3,h S w a q4,q5⟩,q6⟩
def Aki:List V->AE
 | [.val (.int .i64 i),.pp (.agg [v])]=>apL v λn f=>.br (Ao (ile 0 i) (ilt i (ofNat n))) (out (bV (isW (f (toN i))))) .fail
 | _=>.fail
def AaD:List V->AE
 | [.val (.int .i64 _)]=>out (bV true)
 | _=>.fail
theorem p90:Ax Tryz.prog Gl 114 Aki:=by
 refine Aj A7 mixed Tryz.func114 (by kernel_rfl) (by kernel_rfl) λvs v h' h=>?_;unfold Aki at h;split at h
 ·rename_i i u
  obtain ⟨n,f,ha,h1⟩:=Co h;obtain ⟨hi,hq⟩:=Ad h1;have:=Ab hq;simp only [Prod.mk.injEq] at this;obtain ⟨rfl,rfl⟩:=this;have hA:Bj [.val (.int .i64 i),.pp (.agg [u])] [iV i,.pp (.agg [AS n f])]:=λS w cs hv=>by
   obtain ⟨c,l,rfl,q1,c2,l2,rfl,q2,q3⟩:=hv;exact ⟨c,_,rfl,q1,c2,l2,rfl,Ahk ha S w noK c2 q2,q3⟩
  have hx:=AH CS [];exact ⟨_,AA Gl tb0 [],_,hA,rfl,hx.1,hx.2,Ac (ks:=[kn hi]) (by kernel_rfl)/-W:wc90-/,Av.refl _⟩
 ·cases h
theorem p93:Ax Tryz.prog Gl 117 AaD:=by
 refine Aj A7 mixed Tryz.func117 (by kernel_rfl) (by kernel_rfl) λvs v h' h=>?_;unfold AaD at h;split at h
 ·have:=Ab h
  simp only [Prod.mk.injEq] at this;obtain ⟨rfl,rfl⟩:=this;have hx:=AH CS [];exact ⟨_,AA Gl tb0 [],_,Bj.refl _,rfl,hx.1,hx.2,Ac (ks:=[]) (by kernel_rfl)/-W:wc93-/,Av.refl _⟩
 ·cases h
noncomputable def LP:AK:=(114,Aki)::(117,AaD)::[]
theorem X6:Aq Tryz.prog Gl LP:=.cons p90 <| .cons p93 .nil
def gK (l:Nat->Int) (c:Nat->Bool) (i:Nat) (x:Int):Int:=ofNat (An (CJ l c x) i)
theorem An1 (l:Nat->Int) (c:Nat->Bool):gK l c 0=λ_=>0:=rfl
theorem An0 {l:Nat->Int} {c:Nat->Bool} {i:Nat} (h:c i=false):gK l c (i+1)=gK l c i:=by
 funext x;unfold gK;rw [Cc];rw [CJ,h];cases ieq (l i) x <;> rfl
theorem AcK {l:Nat->Int} {c:Nat->Bool} {i n:Nat} (h:c i=true) (hi:i<n) (hn:n <= 4611686018427387904):(λk=>sel (ieq k (l i)) (wr .i64 (Ak (gK l c i (l i)) 1)) (gK l c i k))=gK l c (i+1):=by
 funext x;by_cases hx:x=l i
 ·subst hx
  have h1:ieq (l i) (l i)=true:=by simp [ieq]
  rw [h1];show wr .i64 (Ak (ofNat (An (CJ l c (l i)) i)) 1)=_;have:=Bm (CJ l c (l i)) i;rw [Ap (show An (CJ l c (l i)) i<n by omega) hn];unfold gK;rw [B7 (show CJ l c (l i) i=true by rw [CJ,h,h1]; rfl)]
 ·have h1:ieq x (l i)=false:=by simp [ieq,hx]
  rw [h1];show gK l c i x=_;unfold gK;rw [Cc (show CJ l c x i=false by rw [CJ,show ieq (l i) x=false by simp [ieq]; omega]; rfl)]
theorem SG {a:Nat} (h:a <= 4611686018427387904):F6 (ofNat a)=true:=by
 simp only [F6,Bool.and_eq_true,decide_eq_true_eq,Int.ofNat_eq_natCast];omega
def okP (n:Nat) (l:Nat->Int):Bool:=A4 n λi=>F6 (l i)
def Bi (n:Nat) (l:Nat->Int) (c:Nat->Bool) (q:Int) (i:Nat):Bool:=Ao (c i) (ilt q (Pu n l c (l i)))
def crR (n:Nat) (l:Nat->Int) (c:Nat->Bool) (q:Int):Int×Bool :=
 match Bh (Bi n l c q) n 0 with
 | some t=>(ofNat t,true)
 | none=>(0,false)
def MR (n:Nat) (_:Nat->E6) (_:Nat->Int) (_:Int):Lp:=⟨bmK 48 0 [0,1,2,6,7,8,14,15,16],1,bmK 48 0 [0,1,2,6,7,8],1,n+1⟩
def Qj (n:Nat) (f:Nat->E6) (l:Nat->Int) (q:Int) (t:Nat) (g:Int->Int) (i:Nat) (j:Nat->V):St:=⟨jsV 48 0 j [(0,.sl 1 n (λk=>iV (l k))),(1,.fn 114 [.pp (.agg [AS n f])]),(2,iV q),(6,iV 0),(7,bV false),(8,.ref 0),(14,.sl 1 n (λk=>iV (l k))),(15,nV n),(16,nV i)],[.imap 139 t g]⟩
def Kc (n:Nat) (f:Nat->E6) (l:Nat->Int) (q:Int) (t:Nat) (g:Int->Int) (_:Nat):Ex×St:=(.ex 0,⟨jsV 48 0 Aa [(0,.sl 1 n (λk=>iV (l k))),(1,.fn 114 [.pp (.agg [AS n f])]),(2,iV q),(6,iV 0),(7,bV false),(8,.ref 0)],[.imap 139 t g]⟩)
noncomputable def J4 (L:LT):St->T (Ex×St):=λst=>AD tab ⟨Am LP,L,Gl⟩ (Au Tryz.f115 0) 0 st
section
variable (L:LT) (n:Nat) (f:Nat->E6) (l:Nat->Int) (q:Int) (t:Nat) (g:Int->Int) (i:Nat)  (j:Nat->V)
include L n f l q t g i j
theorem Ajp (h0:ilt (ofNat i) (ofNat n)=false):Al (J4 L) (MR n f l q) (Qj n f l q t g i j)=some ((.ex 0),⟨jsV 48 0 Aa [(0,.sl 1 n (λk=>iV (l k))),(1,.fn 114 [.pp (.agg [.sl 6 n (λi=>eV (f i))])]),(2,iV q),(6,iV 0),(7,bV false),(8,.ref 0)],[.imap 139 t g]⟩):=by
 exact Ac (ks:=[kn h0]) (by kernel_rfl)
theorem Ajo (h0:ilt (ofNat i) (ofNat n)=true) (h1:Ao (ile 0 (ofNat i)) (ilt (ofNat i) (ofNat n))=true) (h2:isW (f i)=false):Al (J4 L) (MR n f l q) (Qj n f l q t g i j)=some (.nm,⟨jsV 48 0 Aa [(0,.sl 1 n (λk=>iV (l k))),(1,.fn 114 [.pp (.agg [.sl 6 n (λi=>eV (f i))])]),(2,iV q),(6,iV 0),(7,bV false),(8,.ref 0),(14,.sl 1 n (λk=>iV (l k))),(15,nV n),(16,iV (wr .i64 (Ak (ofNat i) 1)))],[.imap 139 t g]⟩):=by
 exact Ac (ks:=[kn h0,kn h1,kL n,kn h1,kn h2]) (by kernel_rfl)
theorem Ajn (h0:ilt (ofNat i) (ofNat n)=true) (h1:Ao (ile 0 (ofNat i)) (ilt (ofNat i) (ofNat n))=true) (h2:isW (f i)=true) (h4:F6 (l i)=true) (h3:nlt t 4611686018427387904=true) (h5:F6 (wr .i64 (Ak (g (l i)) 1))=true):Al (J4 L) (MR n f l q) (Qj n f l q t g i j)=some (.nm,⟨jsV 48 0 Aa [(0,.sl 1 n (λk=>iV (l k))),(1,.fn 114 [.pp (.agg [.sl 6 n (λi=>eV (f i))])]),(2,iV q),(6,iV 0),(7,bV false),(8,.ref 0),(14,.sl 1 n (λk=>iV (l k))),(15,nV n),(16,iV (wr .i64 (Ak (ofNat i) 1)))],[.imap 139 (AV t 1) (λz=>sel (ieq z (l i)) (wr .i64 (Ak (g (l i)) 1)) (g z))]⟩):=by
 exact Ac (ks:=[kn h0,kn h1,kL n,kn h1,kn h2,kn h4,kn h3,kn h4,kn h5]) (by kernel_rfl)
end
def Ah5 (_:Nat) (_:Nat->E6) (_:Nat->Int) (_:Int) :Nat->V:=lkV A9 [(13,.ref 0)]
def F3 (n:Nat) (_:Nat->E6) (_:Nat->Int) (_:Int):Lp:=⟨bmK 48 0 [1,2,6,7,8,29,30,31],1,bmK 48 0 [6,7],0,n+1⟩
def H8 (n:Nat) (f:Nat->E6) (l:Nat->Int) (q:Int) (t:Nat) (g:Int->Int) (i:Nat) (j:Nat->V):St:=⟨jsV 48 0 j [(1,.fn 114 [.pp (.agg [AS n f])]),(2,iV q),(6,iV 0),(7,bV false),(8,.ref 0),(29,.sl 1 n (λk=>iV (l k))),(30,nV n),(31,nV i)],[.imap 139 t g]⟩
def Lh (_:Nat) (_:Nat->E6) (_:Nat->Int) (_:Int) (_:Nat) (_:Int->Int) (_:Nat):Ex×St:=(.ex 2,⟨jsV 48 0 Aa [(6,iV 0),(7,bV false)],[]⟩)
def Lg (_:Nat) (_:Nat->E6) (_:Nat->Int) (_:Int) (_:Nat) (_:Int->Int) (i:Nat):Ex×St:=(.rt,⟨jsV 48 0 Aa [(6,nV i),(7,bV true)],[]⟩)
noncomputable def EL (L:LT):St->T (Ex×St):=λst=>AD tab ⟨Am LP,L,Gl⟩ (Au Tryz.f115 2) 2 st
section
variable (L:LT) (n:Nat) (f:Nat->E6) (l:Nat->Int) (q:Int) (t:Nat) (g:Int->Int) (i:Nat)  (j:Nat->V)
include L n f l q t g i j
theorem AiX (h0:ilt (ofNat i) (ofNat n)=false):Al (EL L) (F3 n f l q) (H8 n f l q t g i j)=some ((.ex 2),⟨jsV 48 0 Aa [(6,iV 0),(7,bV false)],[]⟩):=by
 exact Ac (ks:=[kn h0]) (by kernel_rfl)
theorem Aja (h0:ilt (ofNat i) (ofNat n)=true) (h1:Ao (ile 0 (ofNat i)) (ilt (ofNat i) (ofNat n))=true) (h2:isW (f i)=false):Al (EL L) (F3 n f l q) (H8 n f l q t g i j)=some (.nm,⟨jsV 48 0 Aa [(1,.fn 114 [.pp (.agg [.sl 6 n (λi=>eV (f i))])]),(2,iV q),(6,iV 0),(7,bV false),(8,.ref 0),(29,.sl 1 n (λk=>iV (l k))),(30,nV n),(31,iV (wr .i64 (Ak (ofNat i) 1)))],[.imap 139 t g]⟩):=by
 exact Ac (ks:=[kn h0,kn h1,kL n,kn h1,kn h2,kn h2,kn h2,kn h2,kn h2,kn h2,kF]) (by kernel_rfl)
theorem AiZ (h0:ilt (ofNat i) (ofNat n)=true) (h1:Ao (ile 0 (ofNat i)) (ilt (ofNat i) (ofNat n))=true) (h2:isW (f i)=true) (h3:F6 (l i)=true) (h4:ilt q (g (l i))=false):Al (EL L) (F3 n f l q) (H8 n f l q t g i j)=some (.nm,⟨jsV 48 0 Aa [(1,.fn 114 [.pp (.agg [.sl 6 n (λi=>eV (f i))])]),(2,iV q),(6,iV 0),(7,bV false),(8,.ref 0),(29,.sl 1 n (λk=>iV (l k))),(30,nV n),(31,iV (wr .i64 (Ak (ofNat i) 1)))],[.imap 139 t g]⟩):=by
 exact Ac (ks:=[kn h0,kn h1,kL n,kn h1,kn h2,kn h2,kn h2,kn h3,kn h2,kn h2,kn h2,kn h4]) (by kernel_rfl)
theorem AiY (h0:ilt (ofNat i) (ofNat n)=true) (h1:Ao (ile 0 (ofNat i)) (ilt (ofNat i) (ofNat n))=true) (h2:isW (f i)=true) (h3:F6 (l i)=true) (h4:ilt q (g (l i))=true):Al (EL L) (F3 n f l q) (H8 n f l q t g i j)=some (.rt,⟨jsV 48 0 Aa [(6,nV i),(7,bV true)],[]⟩):=by
 exact Ac (ks:=[kn h0,kn h1,kL n,kn h1,kn h2,kn h2,kn h2,kn h3,kn h2,kn h2,kn h2,kn h4]) (by kernel_rfl)
end
def Yi (n:Nat) (_:Nat->E6) (l:Nat->Int) (_:Int) (_:Nat) (_:Int->Int) (_:Nat):Nat->V:=lkU 281471218613816 [(0,.sl 1 n (λk=>iV (l k)))]
section
variable (L:LT) (p0:PT) (p2:PT) (n:Nat) (f:Nat->E6) (l:Nat->Int) (q:Int) (t:Nat) (g:Int->Int) (i m:Nat)
include L p0 p2 n f l q t g i m
theorem Aie  (hp0:p0 (J4 (onP 0 p0 (Kc n f l q t g i) (onP 2 p2 (Lh n f l q t g m) L))) (Qj n f l q 0 (λ_=>0) 0 (Ah5 n f l q ))=true) (hp2:p2 (EL (onP 0 p0 (Kc n f l q t g i) (onP 2 p2 (Lh n f l q t g m) L))) (H8 n f l q t g 0 (Yi n f l q t g i))=true):(Ay (Ai tab ⟨Am LP,onP 0 p0 (Kc n f l q t g i) (onP 2 p2 (Lh n f l q t g m) L),Gl⟩ Tryz.f115 [EV n l,.fn 114 [.pp (.agg [AS n f])],iV q] [])).sem=some ((.tup [iV 0,bV false]),[]):=by
 exact Ac (ks:=[kn hp0,kn hp2]) (by kernel_rfl)
theorem Aid  (hp0:p0 (J4 (onP 0 p0 (Kc n f l q t g i) (onP 2 p2 (Lg n f l q t g m) L))) (Qj n f l q 0 (λ_=>0) 0 (Ah5 n f l q ))=true) (hp2:p2 (EL (onP 0 p0 (Kc n f l q t g i) (onP 2 p2 (Lg n f l q t g m) L))) (H8 n f l q t g 0 (Yi n f l q t g i))=true):(Ay (Ai tab ⟨Am LP,onP 0 p0 (Kc n f l q t g i) (onP 2 p2 (Lg n f l q t g m) L),Gl⟩ Tryz.f115 [EV n l,.fn 114 [.pp (.agg [AS n f])],iV q] [])).sem=some ((.tup [nV m,bV true]),[]):=by
 exact Ac (ks:=[kn hp0,kn hp2]) (by kernel_rfl)
end
theorem We (L:LT) (n:Nat) (f:Nat->E6) (l:Nat->Int) (q:Int) (hn:n <= 4611686018427387904) (ho:okP n l=true):∀ (d i:Nat) (j:Nat->V) (p:Nat),n=i+d->d<p ->
  (A3 (J4 L) (MR n f l q) p (Qj n f l q (An (λi=>isW (f i)) i) (gK l (λi=>isW (f i)) i) i j)).sem=some (Kc n f l q (An (λi=>isW (f i)) n) (gK l (λi=>isW (f i)) n) n)
 | 0,i,j,p+1,h,_=>by
  have:n=i:=by omega
  subst this;exact Ae (Ajp L n f l q (An (λi=>isW (f i)) n) (gK l (λi=>isW (f i)) n) n j (Aw (Nat.le_refl _)))
 | d+1,i,j,p+1,h,h2=>by
  have hl:i<n:=by omega
  have hc:=Bm (λi=>isW (f i)) i;have hc2:=Bm (CJ l (λi=>isW (f i)) (l i)) i;have ht:nlt (An (λi=>isW (f i)) i) 4611686018427387904=true:=by simp only [nlt,decide_eq_true_eq]; omega
  have hf:F6 (wr .i64 (Ak (gK l (λi=>isW (f i)) i (l i)) 1))=true:=by
   show F6 (wr .i64 (Ak (ofNat (An (CJ l (λi=>isW (f i)) (l i)) i)) 1))=true;rw [Ap (show An (CJ l (λi=>isW (f i)) (l i)) i<n by omega) hn];exact SG (by omega)
  cases cw:isW (f i) with
  | false =>rw [Ae (Ajo L n f l q (An (λi=>isW (f i)) i) (gK l (λi=>isW (f i)) i) i j (ofNat_lt hl) (Ag hl) cw),A6,Ap hl hn,<- An0 (l:=l) (c:=(λi=>isW (f i))) cw,<- Cc (p:=(λi=>isW (f i))) cw];exact We L n f l q hn ho d (i+1) Aa p (by omega) (by omega)
  | true =>rw [Ae (Ajn L n f l q (An (λi=>isW (f i)) i) (gK l (λi=>isW (f i)) i) i j (ofNat_lt hl) (Ag hl) cw (A0.1 ho i hl) ht hf),A6,Ap hl hn,AcK (l:=l) (c:=(λi=>isW (f i))) (i:=i) cw hl hn,show AV (An (λi=>isW (f i)) i) 1=An (λi=>isW (f i)) (i+1) from (B7 (p:=(λi=>isW (f i))) cw).symm];exact We L n f l q hn ho d (i+1) Aa p (by omega) (by omega)
theorem RA (L:LT) (n:Nat) (f:Nat->E6) (l:Nat->Int) (q:Int) (t:Nat) (hn:n <= 4611686018427387904) (ho:okP n l=true):∀ (d i:Nat) (j:Nat->V) (p:Nat),n=i+d->d<p ->
  (A3 (EL L) (F3 n f l q) p (H8 n f l q t (gK l (λi=>isW (f i)) n) i j)).sem=some (match Bh (Bi n l (λi=>isW (f i)) q) d i with
   | none=>Lh n f l q t (gK l (λi=>isW (f i)) n) 0
   | some m=>Lg n f l q t (gK l (λi=>isW (f i)) n) m)
 | 0,i,j,p+1,h,_=>by
  have:n=i:=by omega
  subst this;exact Ae (AiX L n f l q t (gK l (λi=>isW (f i)) n) n j (Aw (Nat.le_refl _)))
 | d+1,i,j,p+1,h,h2=>by
  have hl:i<n:=by omega
  cases cw:isW (f i) with
  | false =>rw [D1 (show Bi n l (λi=>isW (f i)) q i=false by unfold Bi; rw [show (λi=>isW (f i)) i=false from cw]; rfl),Ae (Aja L n f l q t (gK l (λi=>isW (f i)) n) i j (ofNat_lt hl) (Ag hl) cw),A6,Ap hl hn];exact RA L n f l q t hn ho d (i+1) Aa p (by omega) (by omega)
  | true =>
   cases cg:ilt q (gK l (λi=>isW (f i)) n (l i)) with
   | false =>rw [D1 (show Bi n l (λi=>isW (f i)) q i=false by unfold Bi; rw [show ilt q (Pu n l (λi=>isW (f i)) (l i))=false from cg]; cases (λi=>isW (f i)) i <;> rfl),Ae (AiZ L n f l q t (gK l (λi=>isW (f i)) n) i j (ofNat_lt hl) (Ag hl) cw (A0.1 ho i hl) cg),A6,Ap hl hn];exact RA L n f l q t hn ho d (i+1) Aa p (by omega) (by omega)
   | true =>rw [Dz (show Bi n l (λi=>isW (f i)) q i=true by unfold Bi; rw [show ilt q (Pu n l (λi=>isW (f i)) (l i))=true from cg,show (λi=>isW (f i)) i=true from cw]; rfl)];exact Ae (AiY L n f l q t (gK l (λi=>isW (f i)) n) i j (ofNat_lt hl) (Ag hl) cw (A0.1 ho i hl) cg)
theorem Aeg (n:Nat) (f:Nat->E6) (l:Nat->Int) (q:Int) (hn:n <= 4611686018427387904) (ho:okP n l=true) :
  (Ay (Ai tab (AA Gl LP [(0,MR n f l q),(2,F3 n f l q)]) Tryz.f115 [EV n l,.fn 114 [.pp (.agg [AS n f])],iV q] [])).sem=some (.tup [iV (crR n l (λi=>isW (f i)) q).1,bV (crR n l (λi=>isW (f i)) q).2],[]):=by
 have hL:=AQ [(0,MR n f l q),(2,F3 n f l q)];have h0:=λL j=>We L n f l q hn ho n 0 j (n+1) (by omega) (by omega);have h2:=λL j=>RA L n f l q (An (λi=>isW (f i)) n) hn ho n 0 j (n+1) (by omega) (by omega);rw [An1] at h0;unfold crR;cases c1:Bh (Bi n l (λi=>isW (f i)) q) n 0 with
 | some m =>rw [c1] at h2;exact AP (AI (AI hL hL) hL) _ (Aid _ _ _ n f l q (An (λi=>isW (f i)) n) (gK l (λi=>isW (f i)) n) n m (Az (h0 _ _)) (Az (h2 _ _)))
 | none =>rw [c1] at h2;exact AP (AI (AI hL hL) hL) _ (Aie _ _ _ n f l q (An (λi=>isW (f i)) n) (gK l (λi=>isW (f i)) n) n 0 (Az (h0 _ _)) (Az (h2 _ _)))
def OE (n:Nat) (_:Nat->Int) (_:Int):Lp:=⟨bmK 48 0 [0,1,2,6,7,8,14,15,16],1,bmK 48 0 [0,1,2,6,7,8],1,n+1⟩
def TC (n:Nat) (l:Nat->Int) (q:Int) (t:Nat) (g:Int->Int) (i:Nat) (j:Nat->V):St:=⟨jsV 48 0 j [(0,.sl 1 n (λk=>iV (l k))),(1,.fn 117 []),(2,iV q),(6,iV 0),(7,bV false),(8,.ref 0),(14,.sl 1 n (λk=>iV (l k))),(15,nV n),(16,nV i)],[.imap 139 t g]⟩
def Ke (n:Nat) (l:Nat->Int) (q:Int) (t:Nat) (g:Int->Int) (_:Nat):Ex×St:=(.ex 0,⟨jsV 48 0 Aa [(0,.sl 1 n (λk=>iV (l k))),(1,.fn 117 []),(2,iV q),(6,iV 0),(7,bV false),(8,.ref 0)],[.imap 139 t g]⟩)
noncomputable def Ly (L:LT):St->T (Ex×St):=λst=>AD tab ⟨Am LP,L,Gl⟩ (Au Tryz.f115 0) 0 st
section
variable (L:LT) (n:Nat) (l:Nat->Int) (q:Int) (t:Nat) (g:Int->Int) (i:Nat)  (j:Nat->V)
include L n l q t g i j
theorem Ajr (h0:ilt (ofNat i) (ofNat n)=false):Al (Ly L) (OE n l q) (TC n l q t g i j)=some ((.ex 0),⟨jsV 48 0 Aa [(0,.sl 1 n (λk=>iV (l k))),(1,.fn 117 []),(2,iV q),(6,iV 0),(7,bV false),(8,.ref 0)],[.imap 139 t g]⟩):=by
 exact Ac (ks:=[kn h0]) (by kernel_rfl)
theorem Ajq (h0:ilt (ofNat i) (ofNat n)=true) (h1:Ao (ile 0 (ofNat i)) (ilt (ofNat i) (ofNat n))=true) (h3:F6 (l i)=true) (h2:nlt t 4611686018427387904=true) (h4:F6 (wr .i64 (Ak (g (l i)) 1))=true):Al (Ly L) (OE n l q) (TC n l q t g i j)=some (.nm,⟨jsV 48 0 Aa [(0,.sl 1 n (λk=>iV (l k))),(1,.fn 117 []),(2,iV q),(6,iV 0),(7,bV false),(8,.ref 0),(14,.sl 1 n (λk=>iV (l k))),(15,nV n),(16,iV (wr .i64 (Ak (ofNat i) 1)))],[.imap 139 (AV t 1) (λz=>sel (ieq z (l i)) (wr .i64 (Ak (g (l i)) 1)) (g z))]⟩):=by
 exact Ac (ks:=[kn h0,kn h1,kT,kn h3,kn h2,kn h3,kn h4]) (by kernel_rfl)
end
def Ah6 (_:Nat) (_:Nat->Int) (_:Int) :Nat->V:=lkV A9 [(13,.ref 0)]
def G2 (n:Nat) (_:Nat->Int) (_:Int):Lp:=⟨bmK 48 0 [1,2,6,7,8,29,30,31],1,bmK 48 0 [6,7],0,n+1⟩
def Je (n:Nat) (l:Nat->Int) (q:Int) (t:Nat) (g:Int->Int) (i:Nat) (j:Nat->V):St:=⟨jsV 48 0 j [(1,.fn 117 []),(2,iV q),(6,iV 0),(7,bV false),(8,.ref 0),(29,.sl 1 n (λk=>iV (l k))),(30,nV n),(31,nV i)],[.imap 139 t g]⟩
def Lj (_:Nat) (_:Nat->Int) (_:Int) (_:Nat) (_:Int->Int) (_:Nat):Ex×St:=(.ex 2,⟨jsV 48 0 Aa [(6,iV 0),(7,bV false)],[]⟩)
def Li (_:Nat) (_:Nat->Int) (_:Int) (_:Nat) (_:Int->Int) (i:Nat):Ex×St:=(.rt,⟨jsV 48 0 Aa [(6,nV i),(7,bV true)],[]⟩)
noncomputable def FD (L:LT):St->T (Ex×St):=λst=>AD tab ⟨Am LP,L,Gl⟩ (Au Tryz.f115 2) 2 st
section
variable (L:LT) (n:Nat) (l:Nat->Int) (q:Int) (t:Nat) (g:Int->Int) (i:Nat)  (j:Nat->V)
include L n l q t g i j
theorem Ajb (h0:ilt (ofNat i) (ofNat n)=false):Al (FD L) (G2 n l q) (Je n l q t g i j)=some ((.ex 2),⟨jsV 48 0 Aa [(6,iV 0),(7,bV false)],[]⟩):=by
 exact Ac (ks:=[kn h0]) (by kernel_rfl)
theorem Ajd (h0:ilt (ofNat i) (ofNat n)=true) (h1:Ao (ile 0 (ofNat i)) (ilt (ofNat i) (ofNat n))=true) (h2:F6 (l i)=true) (h3:ilt q (g (l i))=false):Al (FD L) (G2 n l q) (Je n l q t g i j)=some (.nm,⟨jsV 48 0 Aa [(1,.fn 117 []),(2,iV q),(6,iV 0),(7,bV false),(8,.ref 0),(29,.sl 1 n (λk=>iV (l k))),(30,nV n),(31,iV (wr .i64 (Ak (ofNat i) 1)))],[.imap 139 t g]⟩):=by
 exact Ac (ks:=[kn h0,kn h1,kT,kT,kT,kn h2,kT,kT,kT,kn h3]) (by kernel_rfl)
theorem Ajc (h0:ilt (ofNat i) (ofNat n)=true) (h1:Ao (ile 0 (ofNat i)) (ilt (ofNat i) (ofNat n))=true) (h2:F6 (l i)=true) (h3:ilt q (g (l i))=true):Al (FD L) (G2 n l q) (Je n l q t g i j)=some (.rt,⟨jsV 48 0 Aa [(6,nV i),(7,bV true)],[]⟩):=by
 exact Ac (ks:=[kn h0,kn h1,kT,kT,kT,kn h2,kT,kT,kT,kn h3]) (by kernel_rfl)
end
def Yj (n:Nat) (l:Nat->Int) (_:Int) (_:Nat) (_:Int->Int) (_:Nat):Nat->V:=lkU 281471218613816 [(0,.sl 1 n (λk=>iV (l k)))]
section
variable (L:LT) (p0:PT) (p2:PT) (n:Nat) (l:Nat->Int) (q:Int) (t:Nat) (g:Int->Int) (i m:Nat)
include L p0 p2 n l q t g i m
theorem Aig  (hp0:p0 (Ly (onP 0 p0 (Ke n l q t g i) (onP 2 p2 (Lj n l q t g m) L))) (TC n l q 0 (λ_=>0) 0 (Ah6 n l q ))=true) (hp2:p2 (FD (onP 0 p0 (Ke n l q t g i) (onP 2 p2 (Lj n l q t g m) L))) (Je n l q t g 0 (Yj n l q t g i))=true):(Ay (Ai tab ⟨Am LP,onP 0 p0 (Ke n l q t g i) (onP 2 p2 (Lj n l q t g m) L),Gl⟩ Tryz.f115 [EV n l,.fn 117 [],iV q] [])).sem=some ((.tup [iV 0,bV false]),[]):=by
 exact Ac (ks:=[kn hp0,kn hp2]) (by kernel_rfl)
theorem Aif  (hp0:p0 (Ly (onP 0 p0 (Ke n l q t g i) (onP 2 p2 (Li n l q t g m) L))) (TC n l q 0 (λ_=>0) 0 (Ah6 n l q ))=true) (hp2:p2 (FD (onP 0 p0 (Ke n l q t g i) (onP 2 p2 (Li n l q t g m) L))) (Je n l q t g 0 (Yj n l q t g i))=true):(Ay (Ai tab ⟨Am LP,onP 0 p0 (Ke n l q t g i) (onP 2 p2 (Li n l q t g m) L),Gl⟩ Tryz.f115 [EV n l,.fn 117 [],iV q] [])).sem=some ((.tup [nV m,bV true]),[]):=by
 exact Ac (ks:=[kn hp0,kn hp2]) (by kernel_rfl)
end
theorem Abu (L:LT) (n:Nat) (l:Nat->Int) (q:Int) (hn:n <= 4611686018427387904) (ho:okP n l=true):∀ (d i:Nat) (j:Nat->V) (p:Nat),n=i+d->d<p ->
  (A3 (Ly L) (OE n l q) p (TC n l q (An (λ_=>true) i) (gK l (λ_=>true) i) i j)).sem=some (Ke n l q (An (λ_=>true) n) (gK l (λ_=>true) n) n)
 | 0,i,j,p+1,h,_=>by
  have:n=i:=by omega
  subst this;exact Ae (Ajr L n l q (An (λ_=>true) n) (gK l (λ_=>true) n) n j (Aw (Nat.le_refl _)))
 | d+1,i,j,p+1,h,h2=>by
  have hl:i<n:=by omega
  have hc:=Bm (λ_=>true) i;have hc2:=Bm (CJ l (λ_=>true) (l i)) i;have ht:nlt (An (λ_=>true) i) 4611686018427387904=true:=by simp only [nlt,decide_eq_true_eq]; omega
  have hf:F6 (wr .i64 (Ak (gK l (λ_=>true) i (l i)) 1))=true:=by
   show F6 (wr .i64 (Ak (ofNat (An (CJ l (λ_=>true) (l i)) i)) 1))=true;rw [Ap (show An (CJ l (λ_=>true) (l i)) i<n by omega) hn];exact SG (by omega)
  rw [Ae (Ajq L n l q (An (λ_=>true) i) (gK l (λ_=>true) i) i j (ofNat_lt hl) (Ag hl) (A0.1 ho i hl) ht hf),A6,Ap hl hn,AcK (l:=l) (c:=(λ_=>true)) (i:=i) rfl hl hn,show AV (An (λ_=>true) i) 1=An (λ_=>true) (i+1) from (B7 (p:=(λ_=>true)) rfl).symm];exact Abu L n l q hn ho d (i+1) Aa p (by omega) (by omega)
theorem XG (L:LT) (n:Nat) (l:Nat->Int) (q:Int) (t:Nat) (hn:n <= 4611686018427387904) (ho:okP n l=true):∀ (d i:Nat) (j:Nat->V) (p:Nat),n=i+d->d<p ->
  (A3 (FD L) (G2 n l q) p (Je n l q t (gK l (λ_=>true) n) i j)).sem=some (match Bh (Bi n l (λ_=>true) q) d i with
   | none=>Lj n l q t (gK l (λ_=>true) n) 0
   | some m=>Li n l q t (gK l (λ_=>true) n) m)
 | 0,i,j,p+1,h,_=>by
  have:n=i:=by omega
  subst this;exact Ae (Ajb L n l q t (gK l (λ_=>true) n) n j (Aw (Nat.le_refl _)))
 | d+1,i,j,p+1,h,h2=>by
  have hl:i<n:=by omega
  cases cg:ilt q (gK l (λ_=>true) n (l i)) with
  | false =>rw [D1 (show Bi n l (λ_=>true) q i=false by unfold Bi; rw [show ilt q (Pu n l (λ_=>true) (l i))=false from cg]; cases (λ_=>true) i <;> rfl),Ae (Ajd L n l q t (gK l (λ_=>true) n) i j (ofNat_lt hl) (Ag hl) (A0.1 ho i hl) cg),A6,Ap hl hn];exact XG L n l q t hn ho d (i+1) Aa p (by omega) (by omega)
  | true =>rw [Dz (show Bi n l (λ_=>true) q i=true by unfold Bi; rw [show ilt q (Pu n l (λ_=>true) (l i))=true from cg,show (λ_=>true) i=true from rfl]; rfl)];exact Ae (Ajc L n l q t (gK l (λ_=>true) n) i j (ofNat_lt hl) (Ag hl) (A0.1 ho i hl) cg)
theorem Aeh (n:Nat) (l:Nat->Int) (q:Int) (hn:n <= 4611686018427387904) (ho:okP n l=true) :
  (Ay (Ai tab (AA Gl LP [(0,OE n l q),(2,G2 n l q)]) Tryz.f115 [EV n l,.fn 117 [],iV q] [])).sem=some (.tup [iV (crR n l (λ_=>true) q).1,bV (crR n l (λ_=>true) q).2],[]):=by
 have hL:=AQ [(0,OE n l q),(2,G2 n l q)];have h0:=λL j=>Abu L n l q hn ho n 0 j (n+1) (by omega) (by omega);have h2:=λL j=>XG L n l q (An (λ_=>true) n) hn ho n 0 j (n+1) (by omega) (by omega);rw [An1] at h0;unfold crR;cases c1:Bh (Bi n l (λ_=>true) q) n 0 with
 | some m =>rw [c1] at h2;exact AP (AI (AI hL hL) hL) _ (Aif _ _ _ n l q (An (λ_=>true) n) (gK l (λ_=>true) n) n m (Az (h0 _ _)) (Az (h2 _ _)))
 | none =>rw [c1] at h2;exact AP (AI (AI hL hL) hL) _ (Aig _ _ _ n l q (An (λ_=>true) n) (gK l (λ_=>true) n) n 0 (Az (h0 _ _)) (Az (h2 _ _)))
def Xo:List V->AE
 | [u,.fn 114 [.pp (.agg [v])],.val (.int .i64 q)]=>apI u λm l=>apL v λn f=>.br (AW n m) (.br (Af n) (.br (okP m l) (out (.tup [iV (crR m l (λi=>isW (f i)) q).1,bV (crR m l (λi=>isW (f i)) q).2])) .fail) .fail) .fail
 | [u,.fn 117 [],.val (.int .i64 q)]=>apI u λm l=>.br (Af m) (.br (okP m l) (out (.tup [iV (crR m l (λ_=>true) q).1,bV (crR m l (λ_=>true) q).2])) .fail) .fail
 | _=>.fail
theorem p91:Ax Tryz.prog Gl 115 Xo:=by
 refine Aj A7 mixed Tryz.func115 (by kernel_rfl) (by kernel_rfl) λvs v h' h=>?_;unfold Xo at h;split at h
 ·rename_i u1 v1 q
  obtain ⟨m,l,ha,h1⟩:=H5 h;obtain ⟨n,f,hb,h2⟩:=Co h1;obtain ⟨hm,h3⟩:=Ad h2;obtain ⟨hn,h4⟩:=Ad h3;obtain ⟨ho,hq⟩:=Ad h4;have hm:n=m:=Nat.eq_of_beq_eq_true hm;subst hm;have:=Ab hq;simp only [Prod.mk.injEq] at this;obtain ⟨rfl,rfl⟩:=this;have hn:n <= 4611686018427387904:=of_decide_eq_true hn;have hA:Bj [u1,.fn 114 [.pp (.agg [v1])],.val (.int .i64 q)] [EV n l,.fn 114 [.pp (.agg [AS n f])],iV q]:=λS w cs hv=>by
   obtain ⟨c,l1,rfl,q1,c2,l2,rfl,⟨ca,q4,c5,l5,q5,q6,q7⟩,q3⟩:=hv;exact ⟨c,_,rfl,ha S w c q1,c2,l2,rfl,⟨ca,q4,c5,l5,q5,Ahk hb S w noK c5 q6,q7⟩,q3⟩
  have hx:=AH X6 [(0,MR n f l q),(2,F3 n f l q)];exact ⟨_,AA Gl LP [(0,MR n f l q),(2,F3 n f l q)],_,hA,rfl,hx.1,hx.2,Aeg n f l q hn ho,Av.refl _⟩
 ·rename_i u1 q
  obtain ⟨n,l,ha,h1⟩:=H5 h;obtain ⟨hn,h4⟩:=Ad h1;obtain ⟨ho,hq⟩:=Ad h4;have:=Ab hq;simp only [Prod.mk.injEq] at this;obtain ⟨rfl,rfl⟩:=this;have hn:n <= 4611686018427387904:=of_decide_eq_true hn;have hA:Bj [u1,.fn 117 [],.val (.int .i64 q)] [EV n l,.fn 117 [],iV q]:=λS w cs hv=>by
   obtain ⟨c,l1,rfl,q1,q3⟩:=hv;exact ⟨c,_,rfl,ha S w c q1,q3⟩
  have hx:=AH X6 [(0,OE n l q),(2,G2 n l q)];exact ⟨_,AA Gl LP [(0,OE n l q),(2,G2 n l q)],_,hA,rfl,hx.1,hx.2,Aeh n l q hn ho,Av.refl _⟩
 ·cases h
end Go.Proofs.YtkgdhhieomndeaaGreatDoor.Ed
namespace Go.Sy
inductive DT (α:Type) where
 | lf (a:α)
 | fl
 | kn (b c:Bool) (d:DT α)
 | ak (o:Option (Ex×St)) (r:Ex×St) (d:DT α)
 | sp (d e:DT α)
def DT.cs {α:Type}:DT α->List Bool
 | .lf _=>[]
 | .fl=>[]
 | .kn b _ d=>b::d.cs
 | .ak _ _ d=>d.cs
 | .sp d e=>d.cs++e.cs
def DT.os {α:Type}:DT α->List (Option (Ex×St))
 | .lf _=>[]
 | .fl=>[]
 | .kn _ _ d=>d.os
 | .ak o _ d=>o::d.os
 | .sp d e=>d.os++e.os
def DT.ls {α:Type}:DT α->List α
 | .lf a=>[a]
 | .fl=>[]
 | .kn _ _ d=>d.ls
 | .ak _ _ d=>d.ls
 | .sp d e=>d.ls++e.ls
def DT.run {α:Type}:DT α->T α->Option (List Bool×List (Option (Ex×St))×List α)
 | .lf _,.leaf a=>some ([],[],[a])
 | .fl,_=>some ([],[],[])
 | .kn _ c d,.br b x y=>match (match c with | true=>d.run x | false=>d.run y) with
  | some (cs,os,ls)=>some (b::cs,os,ls)
  | none=>none
 | .ak _ r d,.ask o k=>match d.run (k r) with
  | some (cs,os,ls)=>some (cs,o::os,ls)
  | none=>none
 | .sp d e,t=>match d.run t,e.run t with
  | some (cs,os,ls),some (cs',os',ls')=>some (cs++cs',os++os',ls++ls')
  | _,_=>none
 | _,_=>none
inductive DK {α β:Type} (L:β->α):T β->DT α->Prop where
 | e {a:β} {b:α} (h:b=L a):DK L (.leaf a) (.lf b)
 | f:DK L .fail .fl
 | k {C:T β} {b c:Bool} {d:DT α} (h:b=c) (w:DK L C d):DK L C (.kn b c d)
 | a {C:T β} {o:Option (Ex×St)} {r:Ex×St} {d:DT α} (h:o=some r) (w:DK L C d):DK L C (.ak o r d)
 | c {b:Bool} {X Y:T β} {d e:DT α} (w:b=true->DK L X d) (u:b=false->DK L Y e):DK L (.br b X Y) (.sp d e)
 | g {b:Bool} {X:T β} {d:DT α} (w:b=true->DK L X d):DK L (.br b X .fail) d
def DT.knR {α:Type}:Nat->Bool->Bool->DT α->DT α
 | 0,_,_,d=>d
 | n+1,b,c,d=>.kn b c (knR n b c d)
theorem DK.r {α β:Type} {L:β->α} {C:T β} {b c:Bool} {d:DT α} (n:Nat) (h:b=c) (w:DK L C d):DK L C (DT.knR n b c d):=by
 induction n with
 | zero=>exact w
 | succ n ih=>exact .k h ih
theorem DK.l {α β:Type} {L:β->α} {a:β}:DK L (.leaf a) (.lf (L a)):=.e rfl
theorem DT.run_len {α:Type} {d:DT α}:∀ {t:T α} {cs:List Bool} {os:List (Option (Ex×St))} {ls:List α},d.run t=some (cs,os,ls)->cs.length=d.cs.length∧os.length=d.os.length∧ls.length=d.ls.length:=by
 induction d with
 | lf a =>intro t cs os ls h;cases t <;> cases h;exact ⟨rfl,rfl,rfl⟩
 | fl=>intro t cs os ls h; simp only [DT.run] at h; cases h; exact ⟨rfl,rfl,rfl⟩
 | kn b c d ih =>
  intro t cs os ls h;cases t with
  | br b' x y =>
   simp only [DT.run] at h;split at h
   ·rename_i cs' os' ls' hr
    cases h;cases c <;> (obtain ⟨e1,e2⟩:=ih hr; exact ⟨congrArg Nat.succ e1,e2⟩)
   ·cases h
  | _=>cases h
 | ak o r d ih =>
  intro t cs os ls h;cases t with
  | ask o' k =>
   simp only [DT.run] at h;split at h
   ·rename_i hr
    cases h;obtain ⟨e1,e2,e3⟩:=ih hr;exact ⟨e1,congrArg Nat.succ e2,e3⟩
   ·cases h
  | _=>cases h
 | sp d e ih ih' =>
  intro t cs os ls h;simp only [DT.run] at h;split at h
  ·rename_i hx hy
   cases h;obtain ⟨e1,e2,e3⟩:=ih hx;obtain ⟨f1,f2,f3⟩:=ih' hy;simp only [DT.cs,DT.os,DT.ls,List.length_append,e1,e2,e3,f1,f2,f3,and_self]
  ·cases h
theorem DK.ok {α β:Type} {L:β->α} {C:T β} {d:DT α} (w:DK L C d):∀ {t:T α},d.run t=some (d.cs,d.os,d.ls)->∀ {r:β},C.sem=some r->t.sem=some (L r):=by
 induction w with
 | e hab =>
  intro t h r hr;cases t with
  | leaf b =>simp only [DT.run,DT.cs,DT.os,DT.ls,Option.some.injEq,Prod.mk.injEq,List.cons.injEq,and_true,true_and] at h;subst h;rw [hab];exact congrArg (λo=>o.map L) hr
  | _=>cases h
 | f=>intro t h r hr; cases hr
 | k hb w ih =>
  rename_i C b c d;intro t h r hr;cases t with
  | br b' x y =>
   simp only [DT.run] at h;split at h
   ·rename_i hx
    simp only [DT.cs,DT.os,DT.ls,Option.some.injEq,Prod.mk.injEq,List.cons.injEq] at h;obtain ⟨⟨rfl,rfl⟩,rfl,rfl⟩:=h;subst hb;cases b' with
    | true=>exact ih hx hr
    | false=>exact ih hx hr
   ·cases h
  | _=>cases h
 | a ho w ih =>
  rename_i C o q d;intro t h r hr;cases t with
  | ask o' k =>
   simp only [DT.run] at h;split at h
   ·rename_i hx
    simp only [DT.cs,DT.os,DT.ls,Option.some.injEq,Prod.mk.injEq,List.cons.injEq] at h;obtain ⟨rfl,⟨rfl,rfl⟩,rfl⟩:=h;subst ho;exact ih hx hr
   ·cases h
  | _=>cases h
 | c w u ih ih' =>
  rename_i b X Y d e;intro t h r hr;simp only [DT.run] at h;split at h
  ·rename_i hx hy
   simp only [DT.cs,DT.os,DT.ls,Option.some.injEq,Prod.mk.injEq] at h;obtain ⟨hc,ho,hl⟩:=h;obtain ⟨e1,e2,e3⟩:=DT.run_len hx;obtain ⟨rfl,rfl⟩:=List.append_inj hc e1;obtain ⟨rfl,rfl⟩:=List.append_inj ho e2;obtain ⟨rfl,rfl⟩:=List.append_inj hl e3;cases hb:b with
   | true=>rw [hb] at hr; exact ih hb hx hr
   | false=>rw [hb] at hr; exact ih' hb hy hr
  ·cases h
 | g w ih =>intro t h r hr;obtain ⟨hb,hr⟩:=Ad hr;exact ih hb h hr
theorem DK.of {α:Type} {C t:T α} {r:α} (h:C.sem=some r) {d:DT α} (w:DK (λa=>a) C d) (e:d.run t=some (d.cs,d.os,d.ls)):t.sem=some r:=w.ok e h
def BR {σ ρ:Type} (g:Nat->σ->T (σ ⊕ ρ)) (fin:σ->ρ):Nat->Nat->σ->Option ρ
 | 0,_,a=>some (fin a)
 | d+1,i,a=>match (g i a).sem with
  | some (.inl b)=>BR g fin d (i+1) b
  | some (.inr e)=>some e
  | none=>none
def goR {σ ρ:Type} (S:Int->σ->(Nat->V)->St) (R:ρ->Ex×St) (i:Nat):σ ⊕ ρ->Ex×St
 | .inl b=>(.nm,S (wr .i64 (Ak (Int.ofNat i) 1)) b λ_=>.und)
 | .inr e=>R e
theorem Nt {i n:Nat} (h:i<n) (hn:n <= 4611686018427387904):wr .i64 (Ak (Int.ofNat i) 1)=Int.ofNat (i+1):=by
 unfold wr Ak IntKind.wrap;simp [IntKind.bits,IntKind.signed];omega
theorem Bq {σ ρ:Type} {f:St->T (Ex×St)} {lp:Lp} {S:Int->σ->(Nat->V)->St} {R:ρ->Ex×St} (hR:∀ e,(R e).1 ≠ .nm) {n:Nat} (hn:n <= 4611686018427387904) {g:Nat->σ->T (σ ⊕ ρ)} {fin:σ->ρ}
  (h:∀ i a j r,i<n->(g i a).sem=some r->Al f lp (S (Int.ofNat i) a j)=some (goR S R i r)) (h0:∀ a j,Al f lp (S (Int.ofNat n) a j)=some (R (fin a))) :
  ∀ {d i:Nat} {a:σ} {j:Nat->V} {q:Nat} {e:ρ},n=i+d->d<q->BR g fin d i a=some e->(A3 f lp q (S (Int.ofNat i) a j)).sem=some (R e):=by
 have stop:∀ {o:Nat} {e:ρ},Agf f lp o (some (R e))=some (R e):=fun {o e}=>by
  have:=hR e;cases hr:R e with
  | mk x s =>rw [hr] at this;cases x <;> first | exact absurd rfl this | rfl
 intro d
 induction d with
 | zero =>
  intro i a j q e hi hq he;obtain ⟨q,rfl⟩:∃ o,q=o+1:=⟨q-1,by omega⟩;obtain rfl:n=i:=by omega
  simp only [BR,Option.some.injEq] at he;rw [Ae (h0 a j),stop,he]
 | succ d ih =>
  intro i a j q e hi hq he;obtain ⟨q,rfl⟩:∃ o,q=o+1:=⟨q-1,by omega⟩;simp only [BR] at he;split at he
  ·rename_i b hb
   rw [Ae (h i a j _ (by omega) hb)];show (A3 f lp q (S (wr .i64 (Ak (Int.ofNat i) 1)) b λ_=>.und)).sem=_;rw [Nt (show i<n by omega) hn];exact ih (by omega) (by omega) he
  ·rename_i b hb
   rw [Ae (h i a j _ (by omega) hb)];simp only [Option.some.injEq] at he;subst he;exact stop
  ·cases he
def nzE:Ex->Ex
 | .nm=>.rt
 | e=>e
def exR (e:Ex×St):Ex×St:=(nzE e.1,e.2)
theorem BZ (e:Ex×St):(exR e).1 ≠ .nm:=by
 obtain ⟨x,s⟩:=e;cases x <;> exact λh=>by cases h
def Y1 (st:St):List (Nat×(Nat->V))->St
 | []=>st
 | (id,g)::l=>Y1 (match st.h[id]? with
   | some (.row e s 0 _)=>⟨st.t,st.h.set id (.row e s 0 g)⟩
   | _=>st) l
theorem V1 {Γ:Cx0}:∀ (l:List (Nat×(Nat->V))) (st:St),LE Γ st (Y1 st l)
 | [],st=>LE.refl st
 | (id,g)::l,st=>by
   refine LE.trans ?_ (V1 l _);split
   ·rename_i hb
    exact Ft hb λj hj=>absurd hj (Nat.not_lt_zero _)
   ·exact LE.refl st
def askL (ls:List (Nat×Lp×List (Nat×(Nat->V)))) (id:Nat) (f:St->T (Ex×St)) (st:St):T (Ex×St) :=
 match JK id ls with
 | some (l,z)=>.ask (A3 f l l.fuel (Y1 (JC l.ks l.n st) z)).sem .leaf
 | none=>.fail
theorem J6 (c:FuncId->List V->St->T (V×Res)) (G:Nat->V) (ls:List (Nat×Lp×List (Nat×(Nat->V)))):Cd ⟨c,askL ls,G⟩:=λid f st r hr=>by
 have hr:(askL ls id f st).sem=some r:=hr;unfold askL at hr;split at hr
 ·rename_i l z _
  cases hi:(A3 f l l.fuel (Y1 (JC l.ks l.n st) z)).sem with
  | none=>rw [hi] at hr; cases hr
  | some r' =>rw [hi] at hr;cases hr;exact .weak ((Kp _ _ _).trans (V1 _ _)) (Hr hi)
 ·cases hr
def cxA (G:Nat->V) (tbl:AK) (ls:List (Nat×Lp×List (Nat×(Nat->V)))):Cx:=⟨Am tbl,askL ls,G⟩
theorem D2 {P:Program} {G:Nat->V} {tbl:AK} (h:Aq P G tbl) (ls:List (Nat×Lp×List (Nat×(Nat->V)))):Bv P (cxA G tbl ls).base∧Cd (cxA G tbl ls):=⟨D5 rfl h,J6 _ _ _⟩
theorem AkB {v v':V} {l:List V} (h:∀ (S:Nat->Prop) (w:World) (u:Value),VR S w v noK u->VR S w v' noK u):Bj (v::l) (v'::l):=λS w cs hv=>by
 obtain ⟨c,m,e,q1,q2⟩:=hv;exact ⟨c,m,e,h S w c q1,q2⟩
theorem eN {b c:Bool} (h:b=c):A5 b=A5 c:=congrArg A5 h
theorem eT:true=true:=rfl
theorem eF:false=false:=rfl
theorem eI (x:Int):ieq x x=true:=by simp [ieq]
theorem eJ (n:Nat):AW n n=true:=Nat.beq_refl n
theorem eG:∀ l:List Nat,BJ (l.map λn=>.jag ⟨0,0,n,λ_=>.und,0,0,0,λ_=>true,λ_=>0,λ_ _=>.und⟩)=true
 | []=>rfl
 | n::l=>by simpa [BJ] using eG l
theorem eR:∀ l:List (Nat×Option (Nat->Nat)),Cb (l.map λp=>match p.2 with
  | none=>.row 0 0 p.1 λ_=>iV 0
  | some f=>.jag ⟨0,1,p.1,λ_=>.und,0,0,0,λ_=>true,f,λ_ _=>iV 0⟩)=true
 | []=>rfl
 | (n,none)::l=>by
   have:=eR l;simp only [List.map_cons,Cb,this,Bool.and_true,List.all_eq_true];exact λ_ _=>rfl
 | (n,some f)::l=>by
   have:=eR l;simp only [List.map_cons,Cb,this,Bool.and_true,List.all_eq_true,Bool.and_eq_true];exact λ_ _=>⟨rfl,λ_ _=>rfl⟩
end Go.Sy
namespace Go.Proofs.YtkgdhhieomndeaaGreatDoor.Ed
open Go.Sy Go
theorem eL (n:Nat):A4 n (λ_=>true)=true:=A0.2 λ_ _=>rfl
theorem eL2 (q:Nat) (C:Nat->Nat×(Nat->Int)):(A4 q λi=>A4 (C i).1 λ_=>true)=true:=A0.2 λ_ _=>eL _
theorem KE {i n:Nat} (h:i<n):ieq (Int.ofNat n) 0=false:=by simp [ieq]; omega
theorem FZ {σ ρ:Type} {g:Nat->σ->T (σ ⊕ ρ)} {fin:σ->ρ} {acc:Nat->σ} {n:Nat} (hc:∀ i,i<n->(g i (acc i)).sem=some (.inl (acc (i+1)))):∀ d i,i+d=n->BR g fin d i (acc i)=some (fin (acc n))
 | 0,i,h=>by rw [<- h]; rfl
 | d+1,i,h=>by
  rw [BR,hc i (by omega)];exact FZ hc d (i+1) (by omega)
theorem FB {σ ρ:Type} {g:Nat->σ->T (σ ⊕ ρ)} {fin:σ->ρ} {acc:Nat->σ} {m:Nat} {x:ρ} (hc:∀ i,i<m->(g i (acc i)).sem=some (.inl (acc (i+1)))) (hx:(g m (acc m)).sem=some (.inr x)):∀ d i,i <= m->m<i+d->BR g fin d i (acc i)=some x
 | 0,i,h,h2=>by omega
 | d+1,i,h,h2=>by
  rcases Nat.lt_or_ge i m with hm | hm
  ·rw [BR,hc i hm]
   exact FB hc hx d (i+1) (by omega) (by omega)
  ·obtain rfl:i=m:=by omega
   rw [BR,hx]
section
variable {σ ρ:Type} {g:Nat->σ->T (σ ⊕ ρ)} {fin:σ->ρ} {p:Nat->Bool} {a:σ} {x:ρ} {n:Nat} (hc:∀ i,i<n->(g i a).sem=sel (p i) (some (.inl a)) (some (.inr x)))
include hc
theorem OX:∀ d i,i+d=n->(∀ k,k<i->p k=true)->BR g fin d i a=some (sel (A4 n p) (fin a) x)
 | 0,i,h,hb=>by
  rw [show A4 n p=true from A0.2 λk hk=>hb k (by omega)];rfl
 | d+1,i,h,hb=>by
  rw [BR,hc i (by omega)];cases hp:p i with
  | true =>
   exact OX d (i+1) (by omega) λk hk=>by
    by_cases e:k=i
    ·rw [e]; exact hp
    ·exact hb k (by omega)
  | false =>
   cases ha:A4 n p with
   | false=>rfl
   | true =>have:=A0.1 ha i (by omega);rw [hp] at this;cases this
theorem P9 (h:A4 n p=true):BR g fin n 0 a=some (fin a):=by
 rw [OX hc n 0 (Nat.zero_add n) λ_ h=>absurd h (Nat.not_lt_zero _),h];rfl
theorem PC (h:A4 n p=false):BR g fin n 0 a=some x:=by
 rw [OX hc n 0 (Nat.zero_add n) λ_ h=>absurd h (Nat.not_lt_zero _),h];rfl
end
end Go.Proofs.YtkgdhhieomndeaaGreatDoor.Ed
