/-
  crowded: the first event whose part has too many. No conditions.
-/
import Derived.Test.YtkbafjceglhjhaaGreatDoorCyQ
import Derived.Test.YtkbafjceglhjhaaGreatDoorCyB
namespace Go.Proofs.YtkbafjceglhjhaaGreatDoor.Ed
open Go.Sy
open Int (ofNat)
theorem AiL {v u:V} (h:∀ (S:Nat->Prop) (w:World) (c:Value),VR S w v noK c->VR S w u noK c) (S:Nat->Prop) (w:World) (κ:Ax) (c:Value) (hv:VR S w (.pp (.agg [v])) κ c):VR S w (.pp (.agg [u])) κ c:=by
 obtain ⟨b,o,cv,q1,⟨ca,q2,a,l',q3,q4,q5⟩,q6⟩:=hv;exact ⟨b,o,cv,q1,⟨ca,q2,a,l',q3,h S w a q4,q5⟩,q6⟩
def Amp:List V->A5
 | [.val (.int .i64 i),.pp (.agg [v])]=>apL v λn f=>.br (Al (ile 0 i) (ilt i (ofNat n))) (out (bV (isW (f (toN i))))) .fail
 | _=>.fail
def Abp:List V->A5
 | [.val (.int .i64 _)]=>out (bV true)
 | _=>.fail
theorem p90:Ap Tryz.prog Gl 173 Amp:=by
 refine Ah A2 mixed Tryz.func173 (by kernel_rfl) (by kernel_rfl) λvs v h' h=>?_;unfold Amp at h;split at h
 ·rename_i i u
  obtain ⟨n,f,ha,h1⟩:=CC h;obtain ⟨hi,hq⟩:=Ac h1;have:=Ab hq;simp only [Prod.mk.injEq] at this;obtain ⟨rfl,rfl⟩:=this;have hA:Ba [.val (.int .i64 i),.pp (.agg [u])] [iV i,.pp (.agg [AI n f])]:=λS w cs hv=>by
   obtain ⟨c,l,rfl,q1,c2,l2,rfl,q2,q3⟩:=hv;exact ⟨c,_,rfl,q1,c2,l2,rfl,AiL ha S w noK c2 q2,q3⟩
  have hx:=Bh Ca [];exact ⟨_,AO Gl tb0 [],_,hA,rfl,hx.1,hx.2,Ae (ks:=[kn hi]) (by kernel_rfl)/-W:wc90-/,Am.refl _⟩
 ·cases h
theorem p93:Ap Tryz.prog Gl 176 Abp:=by
 refine Ah A2 mixed Tryz.func176 (by kernel_rfl) (by kernel_rfl) λvs v h' h=>?_;unfold Abp at h;split at h
 ·have:=Ab h
  simp only [Prod.mk.injEq] at this;obtain ⟨rfl,rfl⟩:=this;have hx:=Bh Ca [];exact ⟨_,AO Gl tb0 [],_,Ba.refl _,rfl,hx.1,hx.2,Ae (ks:=[]) (by kernel_rfl)/-W:wc93-/,Am.refl _⟩
 ·cases h
noncomputable def Me:A7:=(173,Amp)::(176,Abp)::[]
theorem XX:Ao Tryz.prog Gl Me:=.cons p90 <| .cons p93 .nil
def gK (l:Nat->Int) (c:Nat->Bool) (i:Nat) (x:Int):Int:=ofNat (Ak (CH l c x) i)
theorem Aqu (l:Nat->Int) (c:Nat->Bool):gK l c 0=λ_=>0:=rfl
theorem Aqt {l:Nat->Int} {c:Nat->Bool} {i:Nat} (h:c i=false):gK l c (i+1)=gK l c i:=by
 funext x;unfold gK;rw [BQ];rw [CH,h];cases ieq (l i) x <;> rfl
theorem AdN {l:Nat->Int} {c:Nat->Bool} {i n:Nat} (h:c i=true) (hi:i<n) (hn:n <= 4611686018427387904):(λk=>sel (ieq k (l i)) (wr .i64 (Ai (gK l c i (l i)) 1)) (gK l c i k))=gK l c (i+1):=by
 funext x;by_cases hx:x=l i
 ·subst hx
  have h1:ieq (l i) (l i)=true:=by simp [ieq]
  rw [h1];show wr .i64 (Ai (ofNat (Ak (CH l c (l i)) i)) 1)=_;have:=B2 (CH l c (l i)) i;rw [A3 (show Ak (CH l c (l i)) i<n by omega) hn];unfold gK;rw [By (show CH l c (l i) i=true by rw [CH,h,h1]; rfl)]
 ·have h1:ieq x (l i)=false:=by simp [ieq,hx]
  rw [h1];show gK l c i x=_;unfold gK;rw [BQ (show CH l c x i=false by rw [CH,show ieq (l i) x=false by simp [ieq]; omega]; rfl)]
theorem Ts {a:Nat} (h:a <= 4611686018427387904):Ej (ofNat a)=true:=by
 simp only [Ej,Bool.and_eq_true,decide_eq_true_eq,Int.ofNat_eq_natCast];omega
def okP (n:Nat) (l:Nat->Int):Bool:=AV n λi=>Ej (l i)
def Bi (n:Nat) (l:Nat->Int) (c:Nat->Bool) (q:Int) (i:Nat):Bool:=Al (c i) (ilt q (MD n l c (l i)))
def crR (n:Nat) (l:Nat->Int) (c:Nat->Bool) (q:Int):Int×Bool :=
 match AN (Bi n l c q) n 0 with
 | some t=>(ofNat t,true)
 | none=>(0,false)
def Nh (n:Nat) (f:Nat->E6) (l:Nat->Int) (q:Int):Lp:=⟨bmK 48 0 [0,1,2,6,7,8,14,15,16],1,bmK 48 0 [0,1,2,6,7,8],1,n+1⟩
def Q6 (n:Nat) (f:Nat->E6) (l:Nat->Int) (q:Int) (t:Nat) (g:Int->Int) (i:Nat) (j:Nat->V):St:=⟨jsV 48 0 j [(0,.sl 1 n (λk=>iV (l k))),(1,.fn 173 [.pp (.agg [AI n f])]),(2,iV q),(6,iV 0),(7,bV false),(8,.ref 0),(14,.sl 1 n (λk=>iV (l k))),(15,nV n),(16,nV i)],[.imap 92 t g]⟩
def Ky (n:Nat) (f:Nat->E6) (l:Nat->Int) (q:Int) (t:Nat) (g:Int->Int) (i:Nat):Ex×St:=(.ex 0,⟨jsV 48 0 Aa [(0,.sl 1 n (λk=>iV (l k))),(1,.fn 173 [.pp (.agg [AI n f])]),(2,iV q),(6,iV 0),(7,bV false),(8,.ref 0)],[.imap 92 t g]⟩)
noncomputable def JJ (L:LT):St->T (Ex×St):=λst=>AA tab ⟨Aw Me,L,Gl⟩ (As Tryz.f174 0) 0 st
section
variable (L:LT) (n:Nat) (f:Nat->E6) (l:Nat->Int) (q:Int) (t:Nat) (g:Int->Int) (i:Nat)  (j:Nat->V)
include L n f l q t g i j
theorem Alr (h0:ilt (ofNat i) (ofNat n)=false):Au (JJ L) (Nh n f l q) (Q6 n f l q t g i j)=some ((.ex 0),⟨jsV 48 0 Aa [(0,.sl 1 n (λk=>iV (l k))),(1,.fn 173 [.pp (.agg [.sl 6 n (λi=>eV (f i))])]),(2,iV q),(6,iV 0),(7,bV false),(8,.ref 0)],[.imap 92 t g]⟩):=by
 exact Ae (ks:=[kn h0]) (by kernel_rfl)
theorem Alq (h0:ilt (ofNat i) (ofNat n)=true) (h1:Al (ile 0 (ofNat i)) (ilt (ofNat i) (ofNat n))=true) (h2:isW (f i)=false):Au (JJ L) (Nh n f l q) (Q6 n f l q t g i j)=some (.nm,⟨jsV 48 0 Aa [(0,.sl 1 n (λk=>iV (l k))),(1,.fn 173 [.pp (.agg [.sl 6 n (λi=>eV (f i))])]),(2,iV q),(6,iV 0),(7,bV false),(8,.ref 0),(14,.sl 1 n (λk=>iV (l k))),(15,nV n),(16,iV (wr .i64 (Ai (ofNat i) 1)))],[.imap 92 t g]⟩):=by
 exact Ae (ks:=[kn h0,kn h1,kL n,kn h1,kn h2]) (by kernel_rfl)
theorem Alp (h0:ilt (ofNat i) (ofNat n)=true) (h1:Al (ile 0 (ofNat i)) (ilt (ofNat i) (ofNat n))=true) (h2:isW (f i)=true) (h4:Ej (l i)=true) (h3:nlt t 4611686018427387904=true) (h5:Ej (wr .i64 (Ai (g (l i)) 1))=true):Au (JJ L) (Nh n f l q) (Q6 n f l q t g i j)=some (.nm,⟨jsV 48 0 Aa [(0,.sl 1 n (λk=>iV (l k))),(1,.fn 173 [.pp (.agg [.sl 6 n (λi=>eV (f i))])]),(2,iV q),(6,iV 0),(7,bV false),(8,.ref 0),(14,.sl 1 n (λk=>iV (l k))),(15,nV n),(16,iV (wr .i64 (Ai (ofNat i) 1)))],[.imap 92 (AE t 1) (λz=>sel (ieq z (l i)) (wr .i64 (Ai (g (l i)) 1)) (g z))]⟩):=by
 exact Ae (ks:=[kn h0,kn h1,kL n,kn h1,kn h2,kn h4,kn h3,kn h4,kn h5]) (by kernel_rfl)
end
def Ajf (n:Nat) (f:Nat->E6) (l:Nat->Int) (q:Int) :Nat->V:=lkV AK [(13,.ref 0)]
def FY (n:Nat) (f:Nat->E6) (l:Nat->Int) (q:Int):Lp:=⟨bmK 48 0 [1,2,6,7,8,29,30,31],1,bmK 48 0 [6,7],0,n+1⟩
def Ie (n:Nat) (f:Nat->E6) (l:Nat->Int) (q:Int) (t:Nat) (g:Int->Int) (i:Nat) (j:Nat->V):St:=⟨jsV 48 0 j [(1,.fn 173 [.pp (.agg [AI n f])]),(2,iV q),(6,iV 0),(7,bV false),(8,.ref 0),(29,.sl 1 n (λk=>iV (l k))),(30,nV n),(31,nV i)],[.imap 92 t g]⟩
def L1 (n:Nat) (f:Nat->E6) (l:Nat->Int) (q:Int) (t:Nat) (g:Int->Int) (i:Nat):Ex×St:=(.ex 2,⟨jsV 48 0 Aa [(6,iV 0),(7,bV false)],[]⟩)
def L0 (n:Nat) (f:Nat->E6) (l:Nat->Int) (q:Int) (t:Nat) (g:Int->Int) (i:Nat):Ex×St:=(.rt,⟨jsV 48 0 Aa [(6,nV i),(7,bV true)],[]⟩)
noncomputable def Fc (L:LT):St->T (Ex×St):=λst=>AA tab ⟨Aw Me,L,Gl⟩ (As Tryz.f174 2) 2 st
section
variable (L:LT) (n:Nat) (f:Nat->E6) (l:Nat->Int) (q:Int) (t:Nat) (g:Int->Int) (i:Nat)  (j:Nat->V)
include L n f l q t g i j
theorem AkY (h0:ilt (ofNat i) (ofNat n)=false):Au (Fc L) (FY n f l q) (Ie n f l q t g i j)=some ((.ex 2),⟨jsV 48 0 Aa [(6,iV 0),(7,bV false)],[]⟩):=by
 exact Ae (ks:=[kn h0]) (by kernel_rfl)
theorem Alb (h0:ilt (ofNat i) (ofNat n)=true) (h1:Al (ile 0 (ofNat i)) (ilt (ofNat i) (ofNat n))=true) (h2:isW (f i)=false):Au (Fc L) (FY n f l q) (Ie n f l q t g i j)=some (.nm,⟨jsV 48 0 Aa [(1,.fn 173 [.pp (.agg [.sl 6 n (λi=>eV (f i))])]),(2,iV q),(6,iV 0),(7,bV false),(8,.ref 0),(29,.sl 1 n (λk=>iV (l k))),(30,nV n),(31,iV (wr .i64 (Ai (ofNat i) 1)))],[.imap 92 t g]⟩):=by
 exact Ae (ks:=[kn h0,kn h1,kL n,kn h1,kn h2,kn h2,kn h2,kn h2,kn h2,kn h2,kF]) (by kernel_rfl)
theorem Ala (h0:ilt (ofNat i) (ofNat n)=true) (h1:Al (ile 0 (ofNat i)) (ilt (ofNat i) (ofNat n))=true) (h2:isW (f i)=true) (h3:Ej (l i)=true) (h4:ilt q (g (l i))=false):Au (Fc L) (FY n f l q) (Ie n f l q t g i j)=some (.nm,⟨jsV 48 0 Aa [(1,.fn 173 [.pp (.agg [.sl 6 n (λi=>eV (f i))])]),(2,iV q),(6,iV 0),(7,bV false),(8,.ref 0),(29,.sl 1 n (λk=>iV (l k))),(30,nV n),(31,iV (wr .i64 (Ai (ofNat i) 1)))],[.imap 92 t g]⟩):=by
 exact Ae (ks:=[kn h0,kn h1,kL n,kn h1,kn h2,kn h2,kn h2,kn h3,kn h2,kn h2,kn h2,kn h4]) (by kernel_rfl)
theorem AkZ (h0:ilt (ofNat i) (ofNat n)=true) (h1:Al (ile 0 (ofNat i)) (ilt (ofNat i) (ofNat n))=true) (h2:isW (f i)=true) (h3:Ej (l i)=true) (h4:ilt q (g (l i))=true):Au (Fc L) (FY n f l q) (Ie n f l q t g i j)=some (.rt,⟨jsV 48 0 Aa [(6,nV i),(7,bV true)],[]⟩):=by
 exact Ae (ks:=[kn h0,kn h1,kL n,kn h1,kn h2,kn h2,kn h2,kn h3,kn h2,kn h2,kn h2,kn h4]) (by kernel_rfl)
end
def YE (n:Nat) (f:Nat->E6) (l:Nat->Int) (q:Int) (t:Nat) (g:Int->Int) (i:Nat):Nat->V:=lkU 281471218613816 [(0,.sl 1 n (λk=>iV (l k)))]
section
variable (L:LT) (p0:PT) (p2:PT) (n:Nat) (f:Nat->E6) (l:Nat->Int) (q:Int) (t:Nat) (g:Int->Int) (i m:Nat)
include L p0 p2 n f l q t g i m
theorem AjP  (hp0:p0 (JJ (onP 0 p0 (Ky n f l q t g i) (onP 2 p2 (L1 n f l q t g m) L))) (Q6 n f l q 0 (λ_=>0) 0 (Ajf n f l q ))=true) (hp2:p2 (Fc (onP 0 p0 (Ky n f l q t g i) (onP 2 p2 (L1 n f l q t g m) L))) (Ie n f l q t g 0 (YE n f l q t g i))=true):(A0 (Aj tab ⟨Aw Me,onP 0 p0 (Ky n f l q t g i) (onP 2 p2 (L1 n f l q t g m) L),Gl⟩ Tryz.f174 [F2 n l,.fn 173 [.pp (.agg [AI n f])],iV q] [])).sem=some ((.tup [iV 0,bV false]),[]):=by
 exact Ae (ks:=[kn hp0,kn hp2]) (by kernel_rfl)
theorem AjO  (hp0:p0 (JJ (onP 0 p0 (Ky n f l q t g i) (onP 2 p2 (L0 n f l q t g m) L))) (Q6 n f l q 0 (λ_=>0) 0 (Ajf n f l q ))=true) (hp2:p2 (Fc (onP 0 p0 (Ky n f l q t g i) (onP 2 p2 (L0 n f l q t g m) L))) (Ie n f l q t g 0 (YE n f l q t g i))=true):(A0 (Aj tab ⟨Aw Me,onP 0 p0 (Ky n f l q t g i) (onP 2 p2 (L0 n f l q t g m) L),Gl⟩ Tryz.f174 [F2 n l,.fn 173 [.pp (.agg [AI n f])],iV q] [])).sem=some ((.tup [nV m,bV true]),[]):=by
 exact Ae (ks:=[kn hp0,kn hp2]) (by kernel_rfl)
end
theorem W9 (L:LT) (n:Nat) (f:Nat->E6) (l:Nat->Int) (q:Int) (hn:n <= 4611686018427387904) (ho:okP n l=true):∀ (d i:Nat) (j:Nat->V) (p:Nat),n=i+d->d<p ->
  (Av (JJ L) (Nh n f l q) p (Q6 n f l q (Ak (λi=>isW (f i)) i) (gK l (λi=>isW (f i)) i) i j)).sem=some (Ky n f l q (Ak (λi=>isW (f i)) n) (gK l (λi=>isW (f i)) n) n)
 | 0,i,j,p+1,h,_=>by
  have:n=i:=by omega
  subst this;exact Af (Alr L n f l q (Ak (λi=>isW (f i)) n) (gK l (λi=>isW (f i)) n) n j (A1 (Nat.le_refl _)))
 | d+1,i,j,p+1,h,h2=>by
  have hl:i<n:=by omega
  have hc:=B2 (λi=>isW (f i)) i;have hc2:=B2 (CH l (λi=>isW (f i)) (l i)) i;have ht:nlt (Ak (λi=>isW (f i)) i) 4611686018427387904=true:=by simp only [nlt,decide_eq_true_eq]; omega
  have hf:Ej (wr .i64 (Ai (gK l (λi=>isW (f i)) i (l i)) 1))=true:=by
   show Ej (wr .i64 (Ai (ofNat (Ak (CH l (λi=>isW (f i)) (l i)) i)) 1))=true;rw [A3 (show Ak (CH l (λi=>isW (f i)) (l i)) i<n by omega) hn];exact Ts (by omega)
  cases cw:isW (f i) with
  | false =>rw [Af (Alq L n f l q (Ak (λi=>isW (f i)) i) (gK l (λi=>isW (f i)) i) i j (ofNat_lt hl) (Ad hl) cw),AT,A3 hl hn,<- Aqt (l:=l) (c:=(λi=>isW (f i))) cw,<- BQ (p:=(λi=>isW (f i))) cw];exact W9 L n f l q hn ho d (i+1) Aa p (by omega) (by omega)
  | true =>rw [Af (Alp L n f l q (Ak (λi=>isW (f i)) i) (gK l (λi=>isW (f i)) i) i j (ofNat_lt hl) (Ad hl) cw (A8.1 ho i hl) ht hf),AT,A3 hl hn,AdN (l:=l) (c:=(λi=>isW (f i))) (i:=i) cw hl hn,show AE (Ak (λi=>isW (f i)) i) 1=Ak (λi=>isW (f i)) (i+1) from (By (p:=(λi=>isW (f i))) cw).symm];exact W9 L n f l q hn ho d (i+1) Aa p (by omega) (by omega)
theorem Sg (L:LT) (n:Nat) (f:Nat->E6) (l:Nat->Int) (q:Int) (t:Nat) (hn:n <= 4611686018427387904) (ho:okP n l=true):∀ (d i:Nat) (j:Nat->V) (p:Nat),n=i+d->d<p ->
  (Av (Fc L) (FY n f l q) p (Ie n f l q t (gK l (λi=>isW (f i)) n) i j)).sem=some (match AN (Bi n l (λi=>isW (f i)) q) d i with
   | none=>L1 n f l q t (gK l (λi=>isW (f i)) n) 0
   | some m=>L0 n f l q t (gK l (λi=>isW (f i)) n) m)
 | 0,i,j,p+1,h,_=>by
  have:n=i:=by omega
  subst this;exact Af (AkY L n f l q t (gK l (λi=>isW (f i)) n) n j (A1 (Nat.le_refl _)))
 | d+1,i,j,p+1,h,h2=>by
  have hl:i<n:=by omega
  cases cw:isW (f i) with
  | false =>rw [Dz (show Bi n l (λi=>isW (f i)) q i=false by unfold Bi; rw [show (λi=>isW (f i)) i=false from cw]; rfl),Af (Alb L n f l q t (gK l (λi=>isW (f i)) n) i j (ofNat_lt hl) (Ad hl) cw),AT,A3 hl hn];exact Sg L n f l q t hn ho d (i+1) Aa p (by omega) (by omega)
  | true =>
   cases cg:ilt q (gK l (λi=>isW (f i)) n (l i)) with
   | false =>rw [Dz (show Bi n l (λi=>isW (f i)) q i=false by unfold Bi; rw [show ilt q (MD n l (λi=>isW (f i)) (l i))=false from cg]; cases (λi=>isW (f i)) i <;> rfl),Af (Ala L n f l q t (gK l (λi=>isW (f i)) n) i j (ofNat_lt hl) (Ad hl) cw (A8.1 ho i hl) cg),AT,A3 hl hn];exact Sg L n f l q t hn ho d (i+1) Aa p (by omega) (by omega)
   | true =>rw [Dy (show Bi n l (λi=>isW (f i)) q i=true by unfold Bi; rw [show ilt q (MD n l (λi=>isW (f i)) (l i))=true from cg,show (λi=>isW (f i)) i=true from cw]; rfl)];exact Af (AkZ L n f l q t (gK l (λi=>isW (f i)) n) i j (ofNat_lt hl) (Ad hl) cw (A8.1 ho i hl) cg)
theorem Afo (n:Nat) (f:Nat->E6) (l:Nat->Int) (q:Int) (hn:n <= 4611686018427387904) (ho:okP n l=true) :
  (A0 (Aj tab (AO Gl Me [(0,Nh n f l q),(2,FY n f l q)]) Tryz.f174 [F2 n l,.fn 173 [.pp (.agg [AI n f])],iV q] [])).sem=some (.tup [iV (crR n l (λi=>isW (f i)) q).1,bV (crR n l (λi=>isW (f i)) q).2],[]):=by
 have hL:=Bb [(0,Nh n f l q),(2,FY n f l q)];have h0:=λL j=>W9 L n f l q hn ho n 0 j (n+1) (by omega) (by omega);have h2:=λL j=>Sg L n f l q (Ak (λi=>isW (f i)) n) hn ho n 0 j (n+1) (by omega) (by omega);rw [Aqu] at h0;unfold crR;cases c1:AN (Bi n l (λi=>isW (f i)) q) n 0 with
 | some m =>rw [c1] at h2;exact AW (AX (AX hL hL) hL) _ (AjO _ _ _ n f l q (Ak (λi=>isW (f i)) n) (gK l (λi=>isW (f i)) n) n m (A4 (h0 _ _)) (A4 (h2 _ _)))
 | none =>rw [c1] at h2;exact AW (AX (AX hL hL) hL) _ (AjP _ _ _ n f l q (Ak (λi=>isW (f i)) n) (gK l (λi=>isW (f i)) n) n 0 (A4 (h0 _ _)) (A4 (h2 _ _)))
def OQ (n:Nat) (l:Nat->Int) (q:Int):Lp:=⟨bmK 48 0 [0,1,2,6,7,8,14,15,16],1,bmK 48 0 [0,1,2,6,7,8],1,n+1⟩
def Ui (n:Nat) (l:Nat->Int) (q:Int) (t:Nat) (g:Int->Int) (i:Nat) (j:Nat->V):St:=⟨jsV 48 0 j [(0,.sl 1 n (λk=>iV (l k))),(1,.fn 176 []),(2,iV q),(6,iV 0),(7,bV false),(8,.ref 0),(14,.sl 1 n (λk=>iV (l k))),(15,nV n),(16,nV i)],[.imap 92 t g]⟩
def Kz (n:Nat) (l:Nat->Int) (q:Int) (t:Nat) (g:Int->Int) (i:Nat):Ex×St:=(.ex 0,⟨jsV 48 0 Aa [(0,.sl 1 n (λk=>iV (l k))),(1,.fn 176 []),(2,iV q),(6,iV 0),(7,bV false),(8,.ref 0)],[.imap 92 t g]⟩)
noncomputable def LL (L:LT):St->T (Ex×St):=λst=>AA tab ⟨Aw Me,L,Gl⟩ (As Tryz.f174 0) 0 st
section
variable (L:LT) (n:Nat) (l:Nat->Int) (q:Int) (t:Nat) (g:Int->Int) (i:Nat)  (j:Nat->V)
include L n l q t g i j
theorem Alt (h0:ilt (ofNat i) (ofNat n)=false):Au (LL L) (OQ n l q) (Ui n l q t g i j)=some ((.ex 0),⟨jsV 48 0 Aa [(0,.sl 1 n (λk=>iV (l k))),(1,.fn 176 []),(2,iV q),(6,iV 0),(7,bV false),(8,.ref 0)],[.imap 92 t g]⟩):=by
 exact Ae (ks:=[kn h0]) (by kernel_rfl)
theorem Als (h0:ilt (ofNat i) (ofNat n)=true) (h1:Al (ile 0 (ofNat i)) (ilt (ofNat i) (ofNat n))=true) (h3:Ej (l i)=true) (h2:nlt t 4611686018427387904=true) (h4:Ej (wr .i64 (Ai (g (l i)) 1))=true):Au (LL L) (OQ n l q) (Ui n l q t g i j)=some (.nm,⟨jsV 48 0 Aa [(0,.sl 1 n (λk=>iV (l k))),(1,.fn 176 []),(2,iV q),(6,iV 0),(7,bV false),(8,.ref 0),(14,.sl 1 n (λk=>iV (l k))),(15,nV n),(16,iV (wr .i64 (Ai (ofNat i) 1)))],[.imap 92 (AE t 1) (λz=>sel (ieq z (l i)) (wr .i64 (Ai (g (l i)) 1)) (g z))]⟩):=by
 exact Ae (ks:=[kn h0,kn h1,kT,kn h3,kn h2,kn h3,kn h4]) (by kernel_rfl)
end
def Ajg (n:Nat) (l:Nat->Int) (q:Int) :Nat->V:=lkV AK [(13,.ref 0)]
def GT (n:Nat) (l:Nat->Int) (q:Int):Lp:=⟨bmK 48 0 [1,2,6,7,8,29,30,31],1,bmK 48 0 [6,7],0,n+1⟩
def Jt (n:Nat) (l:Nat->Int) (q:Int) (t:Nat) (g:Int->Int) (i:Nat) (j:Nat->V):St:=⟨jsV 48 0 j [(1,.fn 176 []),(2,iV q),(6,iV 0),(7,bV false),(8,.ref 0),(29,.sl 1 n (λk=>iV (l k))),(30,nV n),(31,nV i)],[.imap 92 t g]⟩
def L6 (n:Nat) (l:Nat->Int) (q:Int) (t:Nat) (g:Int->Int) (i:Nat):Ex×St:=(.ex 2,⟨jsV 48 0 Aa [(6,iV 0),(7,bV false)],[]⟩)
def L2 (n:Nat) (l:Nat->Int) (q:Int) (t:Nat) (g:Int->Int) (i:Nat):Ex×St:=(.rt,⟨jsV 48 0 Aa [(6,nV i),(7,bV true)],[]⟩)
noncomputable def Gj (L:LT):St->T (Ex×St):=λst=>AA tab ⟨Aw Me,L,Gl⟩ (As Tryz.f174 2) 2 st
section
variable (L:LT) (n:Nat) (l:Nat->Int) (q:Int) (t:Nat) (g:Int->Int) (i:Nat)  (j:Nat->V)
include L n l q t g i j
theorem Alc (h0:ilt (ofNat i) (ofNat n)=false):Au (Gj L) (GT n l q) (Jt n l q t g i j)=some ((.ex 2),⟨jsV 48 0 Aa [(6,iV 0),(7,bV false)],[]⟩):=by
 exact Ae (ks:=[kn h0]) (by kernel_rfl)
theorem Ale (h0:ilt (ofNat i) (ofNat n)=true) (h1:Al (ile 0 (ofNat i)) (ilt (ofNat i) (ofNat n))=true) (h2:Ej (l i)=true) (h3:ilt q (g (l i))=false):Au (Gj L) (GT n l q) (Jt n l q t g i j)=some (.nm,⟨jsV 48 0 Aa [(1,.fn 176 []),(2,iV q),(6,iV 0),(7,bV false),(8,.ref 0),(29,.sl 1 n (λk=>iV (l k))),(30,nV n),(31,iV (wr .i64 (Ai (ofNat i) 1)))],[.imap 92 t g]⟩):=by
 exact Ae (ks:=[kn h0,kn h1,kT,kT,kT,kn h2,kT,kT,kT,kn h3]) (by kernel_rfl)
theorem Ald (h0:ilt (ofNat i) (ofNat n)=true) (h1:Al (ile 0 (ofNat i)) (ilt (ofNat i) (ofNat n))=true) (h2:Ej (l i)=true) (h3:ilt q (g (l i))=true):Au (Gj L) (GT n l q) (Jt n l q t g i j)=some (.rt,⟨jsV 48 0 Aa [(6,nV i),(7,bV true)],[]⟩):=by
 exact Ae (ks:=[kn h0,kn h1,kT,kT,kT,kn h2,kT,kT,kT,kn h3]) (by kernel_rfl)
end
def YF (n:Nat) (l:Nat->Int) (q:Int) (t:Nat) (g:Int->Int) (i:Nat):Nat->V:=lkU 281471218613816 [(0,.sl 1 n (λk=>iV (l k)))]
section
variable (L:LT) (p0:PT) (p2:PT) (n:Nat) (l:Nat->Int) (q:Int) (t:Nat) (g:Int->Int) (i m:Nat)
include L p0 p2 n l q t g i m
theorem AjR  (hp0:p0 (LL (onP 0 p0 (Kz n l q t g i) (onP 2 p2 (L6 n l q t g m) L))) (Ui n l q 0 (λ_=>0) 0 (Ajg n l q ))=true) (hp2:p2 (Gj (onP 0 p0 (Kz n l q t g i) (onP 2 p2 (L6 n l q t g m) L))) (Jt n l q t g 0 (YF n l q t g i))=true):(A0 (Aj tab ⟨Aw Me,onP 0 p0 (Kz n l q t g i) (onP 2 p2 (L6 n l q t g m) L),Gl⟩ Tryz.f174 [F2 n l,.fn 176 [],iV q] [])).sem=some ((.tup [iV 0,bV false]),[]):=by
 exact Ae (ks:=[kn hp0,kn hp2]) (by kernel_rfl)
theorem AjQ  (hp0:p0 (LL (onP 0 p0 (Kz n l q t g i) (onP 2 p2 (L2 n l q t g m) L))) (Ui n l q 0 (λ_=>0) 0 (Ajg n l q ))=true) (hp2:p2 (Gj (onP 0 p0 (Kz n l q t g i) (onP 2 p2 (L2 n l q t g m) L))) (Jt n l q t g 0 (YF n l q t g i))=true):(A0 (Aj tab ⟨Aw Me,onP 0 p0 (Kz n l q t g i) (onP 2 p2 (L2 n l q t g m) L),Gl⟩ Tryz.f174 [F2 n l,.fn 176 [],iV q] [])).sem=some ((.tup [nV m,bV true]),[]):=by
 exact Ae (ks:=[kn hp0,kn hp2]) (by kernel_rfl)
end
theorem AbS (L:LT) (n:Nat) (l:Nat->Int) (q:Int) (hn:n <= 4611686018427387904) (ho:okP n l=true):∀ (d i:Nat) (j:Nat->V) (p:Nat),n=i+d->d<p ->
  (Av (LL L) (OQ n l q) p (Ui n l q (Ak (λ_=>true) i) (gK l (λ_=>true) i) i j)).sem=some (Kz n l q (Ak (λ_=>true) n) (gK l (λ_=>true) n) n)
 | 0,i,j,p+1,h,_=>by
  have:n=i:=by omega
  subst this;exact Af (Alt L n l q (Ak (λ_=>true) n) (gK l (λ_=>true) n) n j (A1 (Nat.le_refl _)))
 | d+1,i,j,p+1,h,h2=>by
  have hl:i<n:=by omega
  have hc:=B2 (λ_=>true) i;have hc2:=B2 (CH l (λ_=>true) (l i)) i;have ht:nlt (Ak (λ_=>true) i) 4611686018427387904=true:=by simp only [nlt,decide_eq_true_eq]; omega
  have hf:Ej (wr .i64 (Ai (gK l (λ_=>true) i (l i)) 1))=true:=by
   show Ej (wr .i64 (Ai (ofNat (Ak (CH l (λ_=>true) (l i)) i)) 1))=true;rw [A3 (show Ak (CH l (λ_=>true) (l i)) i<n by omega) hn];exact Ts (by omega)
  rw [Af (Als L n l q (Ak (λ_=>true) i) (gK l (λ_=>true) i) i j (ofNat_lt hl) (Ad hl) (A8.1 ho i hl) ht hf),AT,A3 hl hn,AdN (l:=l) (c:=(λ_=>true)) (i:=i) rfl hl hn,show AE (Ak (λ_=>true) i) 1=Ak (λ_=>true) (i+1) from (By (p:=(λ_=>true)) rfl).symm];exact AbS L n l q hn ho d (i+1) Aa p (by omega) (by omega)
theorem Yg (L:LT) (n:Nat) (l:Nat->Int) (q:Int) (t:Nat) (hn:n <= 4611686018427387904) (ho:okP n l=true):∀ (d i:Nat) (j:Nat->V) (p:Nat),n=i+d->d<p ->
  (Av (Gj L) (GT n l q) p (Jt n l q t (gK l (λ_=>true) n) i j)).sem=some (match AN (Bi n l (λ_=>true) q) d i with
   | none=>L6 n l q t (gK l (λ_=>true) n) 0
   | some m=>L2 n l q t (gK l (λ_=>true) n) m)
 | 0,i,j,p+1,h,_=>by
  have:n=i:=by omega
  subst this;exact Af (Alc L n l q t (gK l (λ_=>true) n) n j (A1 (Nat.le_refl _)))
 | d+1,i,j,p+1,h,h2=>by
  have hl:i<n:=by omega
  cases cg:ilt q (gK l (λ_=>true) n (l i)) with
  | false =>rw [Dz (show Bi n l (λ_=>true) q i=false by unfold Bi; rw [show ilt q (MD n l (λ_=>true) (l i))=false from cg]; cases (λ_=>true) i <;> rfl),Af (Ale L n l q t (gK l (λ_=>true) n) i j (ofNat_lt hl) (Ad hl) (A8.1 ho i hl) cg),AT,A3 hl hn];exact Yg L n l q t hn ho d (i+1) Aa p (by omega) (by omega)
  | true =>rw [Dy (show Bi n l (λ_=>true) q i=true by unfold Bi; rw [show ilt q (MD n l (λ_=>true) (l i))=true from cg,show (λ_=>true) i=true from rfl]; rfl)];exact Af (Ald L n l q t (gK l (λ_=>true) n) i j (ofNat_lt hl) (Ad hl) (A8.1 ho i hl) cg)
theorem Afp (n:Nat) (l:Nat->Int) (q:Int) (hn:n <= 4611686018427387904) (ho:okP n l=true) :
  (A0 (Aj tab (AO Gl Me [(0,OQ n l q),(2,GT n l q)]) Tryz.f174 [F2 n l,.fn 176 [],iV q] [])).sem=some (.tup [iV (crR n l (λ_=>true) q).1,bV (crR n l (λ_=>true) q).2],[]):=by
 have hL:=Bb [(0,OQ n l q),(2,GT n l q)];have h0:=λL j=>AbS L n l q hn ho n 0 j (n+1) (by omega) (by omega);have h2:=λL j=>Yg L n l q (Ak (λ_=>true) n) hn ho n 0 j (n+1) (by omega) (by omega);rw [Aqu] at h0;unfold crR;cases c1:AN (Bi n l (λ_=>true) q) n 0 with
 | some m =>rw [c1] at h2;exact AW (AX (AX hL hL) hL) _ (AjQ _ _ _ n l q (Ak (λ_=>true) n) (gK l (λ_=>true) n) n m (A4 (h0 _ _)) (A4 (h2 _ _)))
 | none =>rw [c1] at h2;exact AW (AX (AX hL hL) hL) _ (AjR _ _ _ n l q (Ak (λ_=>true) n) (gK l (λ_=>true) n) n 0 (A4 (h0 _ _)) (A4 (h2 _ _)))
def X7:List V->A5
 | [u,.fn 173 [.pp (.agg [v])],.val (.int .i64 q)]=>apI u λm l=>apL v λn f=>.br (BN n m) (.br (Aq n) (.br (okP m l) (out (.tup [iV (crR m l (λi=>isW (f i)) q).1,bV (crR m l (λi=>isW (f i)) q).2])) .fail) .fail) .fail
 | [u,.fn 176 [],.val (.int .i64 q)]=>apI u λm l=>.br (Aq m) (.br (okP m l) (out (.tup [iV (crR m l (λ_=>true) q).1,bV (crR m l (λ_=>true) q).2])) .fail) .fail
 | _=>.fail
theorem p91:Ap Tryz.prog Gl 174 X7:=by
 refine Ah A2 mixed Tryz.func174 (by kernel_rfl) (by kernel_rfl) λvs v h' h=>?_;unfold X7 at h;split at h
 ·rename_i u1 v1 q
  obtain ⟨m,l,ha,h1⟩:=El h;obtain ⟨n,f,hb,h2⟩:=CC h1;obtain ⟨hm,h3⟩:=Ac h2;obtain ⟨hn,h4⟩:=Ac h3;obtain ⟨ho,hq⟩:=Ac h4;have hm:n=m:=Nat.eq_of_beq_eq_true hm;subst hm;have:=Ab hq;simp only [Prod.mk.injEq] at this;obtain ⟨rfl,rfl⟩:=this;have hn:n <= 4611686018427387904:=of_decide_eq_true hn;have hA:Ba [u1,.fn 173 [.pp (.agg [v1])],.val (.int .i64 q)] [F2 n l,.fn 173 [.pp (.agg [AI n f])],iV q]:=λS w cs hv=>by
   obtain ⟨c,l1,rfl,q1,c2,l2,rfl,⟨ca,q4,c5,l5,q5,q6,q7⟩,q3⟩:=hv;exact ⟨c,_,rfl,ha S w c q1,c2,l2,rfl,⟨ca,q4,c5,l5,q5,AiL hb S w noK c5 q6,q7⟩,q3⟩
  have hx:=Bh XX [(0,Nh n f l q),(2,FY n f l q)];exact ⟨_,AO Gl Me [(0,Nh n f l q),(2,FY n f l q)],_,hA,rfl,hx.1,hx.2,Afo n f l q hn ho,Am.refl _⟩
 ·rename_i u1 q
  obtain ⟨n,l,ha,h1⟩:=El h;obtain ⟨hn,h4⟩:=Ac h1;obtain ⟨ho,hq⟩:=Ac h4;have:=Ab hq;simp only [Prod.mk.injEq] at this;obtain ⟨rfl,rfl⟩:=this;have hn:n <= 4611686018427387904:=of_decide_eq_true hn;have hA:Ba [u1,.fn 176 [],.val (.int .i64 q)] [F2 n l,.fn 176 [],iV q]:=λS w cs hv=>by
   obtain ⟨c,l1,rfl,q1,q3⟩:=hv;exact ⟨c,_,rfl,ha S w c q1,q3⟩
  have hx:=Bh XX [(0,OQ n l q),(2,GT n l q)];exact ⟨_,AO Gl Me [(0,OQ n l q),(2,GT n l q)],_,hA,rfl,hx.1,hx.2,Afp n l q hn ho,Am.refl _⟩
 ·cases h
end Go.Proofs.YtkbafjceglhjhaaGreatDoor.Ed
namespace Go.Sy
inductive DT (α:Type) where
 | lf (a:α)
 | fl
 | kn (b c:Bool) (d:DT α)
 | ak (o:Option (Ex×St)) (r:Ex×St) (d:DT α)
 | sp (d e:DT α)
def DT.cs {α:Type}:DT α->List Bool
 | .lf _=>[]
 | .fl=>[]
 | .kn b _ d=>b::d.cs
 | .ak _ _ d=>d.cs
 | .sp d e=>d.cs++e.cs
def DT.os {α:Type}:DT α->List (Option (Ex×St))
 | .lf _=>[]
 | .fl=>[]
 | .kn _ _ d=>d.os
 | .ak o _ d=>o::d.os
 | .sp d e=>d.os++e.os
def DT.ls {α:Type}:DT α->List α
 | .lf a=>[a]
 | .fl=>[]
 | .kn _ _ d=>d.ls
 | .ak _ _ d=>d.ls
 | .sp d e=>d.ls++e.ls
def DT.run {α:Type}:DT α->T α->Option (List Bool×List (Option (Ex×St))×List α)
 | .lf _,.leaf a=>some ([],[],[a])
 | .fl,_=>some ([],[],[])
 | .kn _ c d,.br b x y=>match (match c with | true=>d.run x | false=>d.run y) with
  | some (cs,os,ls)=>some (b::cs,os,ls)
  | none=>none
 | .ak _ r d,.ask o k=>match d.run (k r) with
  | some (cs,os,ls)=>some (cs,o::os,ls)
  | none=>none
 | .sp d e,t=>match d.run t,e.run t with
  | some (cs,os,ls),some (cs',os',ls')=>some (cs++cs',os++os',ls++ls')
  | _,_=>none
 | _,_=>none
inductive DK {α β:Type} (L:β->α):T β->DT α->Prop where
 | e {a:β} {b:α} (h:b=L a):DK L (.leaf a) (.lf b)
 | f:DK L .fail .fl
 | k {C:T β} {b c:Bool} {d:DT α} (h:b=c) (w:DK L C d):DK L C (.kn b c d)
 | a {C:T β} {o:Option (Ex×St)} {r:Ex×St} {d:DT α} (h:o=some r) (w:DK L C d):DK L C (.ak o r d)
 | c {b:Bool} {X Y:T β} {d e:DT α} (w:b=true->DK L X d) (u:b=false->DK L Y e):DK L (.br b X Y) (.sp d e)
 | g {b:Bool} {X:T β} {d:DT α} (w:b=true->DK L X d):DK L (.br b X .fail) d
def DT.knR {α:Type}:Nat->Bool->Bool->DT α->DT α
 | 0,_,_,d=>d
 | n+1,b,c,d=>.kn b c (knR n b c d)
theorem DK.r {α β:Type} {L:β->α} {C:T β} {b c:Bool} {d:DT α} (n:Nat) (h:b=c) (w:DK L C d):DK L C (DT.knR n b c d):=by
 induction n with
 | zero=>exact w
 | succ n ih=>exact .k h ih
theorem DK.l {α β:Type} {L:β->α} {a:β}:DK L (.leaf a) (.lf (L a)):=.e rfl
theorem DT.run_len {α:Type} {d:DT α}:∀ {t:T α} {cs:List Bool} {os:List (Option (Ex×St))} {ls:List α},d.run t=some (cs,os,ls)->cs.length=d.cs.length∧os.length=d.os.length∧ls.length=d.ls.length:=by
 induction d with
 | lf a =>intro t cs os ls h;cases t <;> cases h;exact ⟨rfl,rfl,rfl⟩
 | fl=>intro t cs os ls h; simp only [DT.run] at h; cases h; exact ⟨rfl,rfl,rfl⟩
 | kn b c d ih =>
  intro t cs os ls h;cases t with
  | br b' x y =>
   simp only [DT.run] at h;split at h
   ·rename_i cs' os' ls' hr
    cases h;cases c <;> (obtain ⟨e1,e2⟩:=ih hr; exact ⟨congrArg Nat.succ e1,e2⟩)
   ·cases h
  | _=>cases h
 | ak o r d ih =>
  intro t cs os ls h;cases t with
  | ask o' k =>
   simp only [DT.run] at h;split at h
   ·rename_i hr
    cases h;obtain ⟨e1,e2,e3⟩:=ih hr;exact ⟨e1,congrArg Nat.succ e2,e3⟩
   ·cases h
  | _=>cases h
 | sp d e ih ih' =>
  intro t cs os ls h;simp only [DT.run] at h;split at h
  ·rename_i hx hy
   cases h;obtain ⟨e1,e2,e3⟩:=ih hx;obtain ⟨f1,f2,f3⟩:=ih' hy;simp only [DT.cs,DT.os,DT.ls,List.length_append,e1,e2,e3,f1,f2,f3,and_self]
  ·cases h
theorem DK.ok {α β:Type} {L:β->α} {C:T β} {d:DT α} (w:DK L C d):∀ {t:T α},d.run t=some (d.cs,d.os,d.ls)->∀ {r:β},C.sem=some r->t.sem=some (L r):=by
 induction w with
 | e hab =>
  intro t h r hr;cases t with
  | leaf b =>simp only [DT.run,DT.cs,DT.os,DT.ls,Option.some.injEq,Prod.mk.injEq,List.cons.injEq,and_true,true_and] at h;subst h;rw [hab];exact congrArg (λo=>o.map L) hr
  | _=>cases h
 | f=>intro t h r hr; cases hr
 | k hb w ih =>
  rename_i C b c d;intro t h r hr;cases t with
  | br b' x y =>
   simp only [DT.run] at h;split at h
   ·rename_i hx
    simp only [DT.cs,DT.os,DT.ls,Option.some.injEq,Prod.mk.injEq,List.cons.injEq] at h;obtain ⟨⟨rfl,rfl⟩,rfl,rfl⟩:=h;subst hb;cases b' with
    | true=>exact ih hx hr
    | false=>exact ih hx hr
   ·cases h
  | _=>cases h
 | a ho w ih =>
  rename_i C o q d;intro t h r hr;cases t with
  | ask o' k =>
   simp only [DT.run] at h;split at h
   ·rename_i hx
    simp only [DT.cs,DT.os,DT.ls,Option.some.injEq,Prod.mk.injEq,List.cons.injEq] at h;obtain ⟨rfl,⟨rfl,rfl⟩,rfl⟩:=h;subst ho;exact ih hx hr
   ·cases h
  | _=>cases h
 | c w u ih ih' =>
  rename_i b X Y d e;intro t h r hr;simp only [DT.run] at h;split at h
  ·rename_i hx hy
   simp only [DT.cs,DT.os,DT.ls,Option.some.injEq,Prod.mk.injEq] at h;obtain ⟨hc,ho,hl⟩:=h;obtain ⟨e1,e2,e3⟩:=DT.run_len hx;obtain ⟨rfl,rfl⟩:=List.append_inj hc e1;obtain ⟨rfl,rfl⟩:=List.append_inj ho e2;obtain ⟨rfl,rfl⟩:=List.append_inj hl e3;cases hb:b with
   | true=>rw [hb] at hr; exact ih hb hx hr
   | false=>rw [hb] at hr; exact ih' hb hy hr
  ·cases h
 | g w ih =>intro t h r hr;obtain ⟨hb,hr⟩:=Ac hr;exact ih hb h hr
theorem DK.of {α:Type} {C t:T α} {r:α} (h:C.sem=some r) {d:DT α} (w:DK (λa=>a) C d) (e:d.run t=some (d.cs,d.os,d.ls)):t.sem=some r:=w.ok e h
def Co {σ ρ:Type} (g:Nat->σ->T (σ ⊕ ρ)) (fin:σ->ρ):Nat->Nat->σ->Option ρ
 | 0,_,a=>some (fin a)
 | d+1,i,a=>match (g i a).sem with
  | some (.inl b)=>Co g fin d (i+1) b
  | some (.inr e)=>some e
  | none=>none
def goR {σ ρ:Type} (S:Int->σ->(Nat->V)->St) (R:ρ->Ex×St) (i:Nat):σ ⊕ ρ->Ex×St
 | .inl b=>(.nm,S (wr .i64 (Ai (Int.ofNat i) 1)) b λ_=>.und)
 | .inr e=>R e
theorem EF {i n:Nat} (h:i<n) (hn:n <= 4611686018427387904):wr .i64 (Ai (Int.ofNat i) 1)=Int.ofNat (i+1):=by
 unfold wr Ai IntKind.wrap;simp [IntKind.bits,IntKind.signed];omega
theorem AZ {σ ρ:Type} {f:St->T (Ex×St)} {lp:Lp} {S:Int->σ->(Nat->V)->St} {R:ρ->Ex×St} (hR:∀ e,(R e).1 ≠ .nm) {n:Nat} (hn:n <= 4611686018427387904) {g:Nat->σ->T (σ ⊕ ρ)} {fin:σ->ρ}
  (h:∀ i a j r,i<n->(g i a).sem=some r->Au f lp (S (Int.ofNat i) a j)=some (goR S R i r)) (h0:∀ a j,Au f lp (S (Int.ofNat n) a j)=some (R (fin a))) :
  ∀ {d i:Nat} {a:σ} {j:Nat->V} {q:Nat} {e:ρ},n=i+d->d<q->Co g fin d i a=some e->(Av f lp q (S (Int.ofNat i) a j)).sem=some (R e):=by
 have stop:∀ {o:Nat} {e:ρ},Aa3 f lp o (some (R e))=some (R e):=fun {o e}=>by
  have:=hR e;cases hr:R e with
  | mk x s =>rw [hr] at this;cases x <;> first | exact absurd rfl this | rfl
 intro d
 induction d with
 | zero =>
  intro i a j q e hi hq he;obtain ⟨q,rfl⟩:∃ o,q=o+1:=⟨q-1,by omega⟩;obtain rfl:n=i:=by omega
  simp only [Co,Option.some.injEq] at he;rw [Af (h0 a j),stop,he]
 | succ d ih =>
  intro i a j q e hi hq he;obtain ⟨q,rfl⟩:∃ o,q=o+1:=⟨q-1,by omega⟩;simp only [Co] at he;split at he
  ·rename_i b hb
   rw [Af (h i a j _ (by omega) hb)];show (Av f lp q (S (wr .i64 (Ai (Int.ofNat i) 1)) b λ_=>.und)).sem=_;rw [EF (show i<n by omega) hn];exact ih (by omega) (by omega) he
  ·rename_i b hb
   rw [Af (h i a j _ (by omega) hb)];simp only [Option.some.injEq] at he;subst he;exact stop
  ·cases he
def nzE:Ex->Ex
 | .nm=>.rt
 | e=>e
def exR (e:Ex×St):Ex×St:=(nzE e.1,e.2)
theorem BF (e:Ex×St):(exR e).1 ≠ .nm:=by
 obtain ⟨x,s⟩:=e;cases x <;> exact λh=>by cases h
def YX (st:St):List (Nat×(Nat->V))->St
 | []=>st
 | (id,g)::l=>YX (match st.h[id]? with
   | some (.row e s 0 _)=>⟨st.t,st.h.set id (.row e s 0 g)⟩
   | some (.jag j)=>⟨st.t,st.h.set id (.jag { j with mem:=λk q=>bif Nat.blt q (j.len k) then j.mem k q else g q })⟩
   | _=>st) l
theorem VV {Γ:Cx0}:∀ (l:List (Nat×(Nat->V))) (st:St),LE Γ st (YX st l)
 | [],st=>LE.refl st
 | (id,g)::l,st=>by
   refine LE.trans ?_ (VV l _);split
   ·rename_i hb
    exact Afc hb λj hj=>absurd hj (Nat.not_lt_zero _)
   ·rename_i j hb
    exact Afd hb (λ_ _=>rfl) (λ_ _=>rfl) (λ_ _=>rfl) λk _ q hq=>by
     show (bif Nat.blt q (j.len k) then j.mem k q else g q)=_;rw [show Nat.blt q (j.len k)=true from Nat.ble_eq_true_of_le hq];rfl
   ·exact LE.refl st
def askL (ls:List (Nat×Lp×List (Nat×(Nat->V)))) (id:Nat) (f:St->T (Ex×St)) (st:St):T (Ex×St) :=
 match Ka id ls with
 | some (l,z)=>.ask (Av f l l.fuel (YX (HN l.ks l.n st) z)).sem .leaf
 | none=>.fail
theorem Fp (c:FuncId->List V->St->T (V×Res)) (G:Nat->V) (ls:List (Nat×Lp×List (Nat×(Nat->V)))):Cr ⟨c,askL ls,G⟩:=λid f st r hr=>by
 have hr:(askL ls id f st).sem=some r:=hr;unfold askL at hr;split at hr
 ·rename_i l z _
  cases hi:(Av f l l.fuel (YX (HN l.ks l.n st) z)).sem with
  | none=>rw [hi] at hr; cases hr
  | some r' =>rw [hi] at hr;cases hr;exact .run (.weak ((Qg _ _ _).trans (VV _ _)) (HL hi))
 ·cases hr
def Lj (f:St->T (Ex×St)) (l:Lp) (q:Nat) (st:St) (p:Nat×Nat×Nat×(Nat->V)):Option (Ex×St) :=
 match (Av f l l.fuel (O3 st q p)).sem with
 | some r=>match JL st.h r.2.h with
  | true=>some (r.1,⟨Pe st.h.length r.2.t,st.h⟩)
  | false=>none
 | none=>none
def askF (fs:List (Nat×Nat×Lp×Lp)) (ls:List (Nat×Lp×List (Nat×(Nat->V)))) (id:Nat) (f:St->T (Ex×St)) (st:St):T (Ex×St) :=
 match Ka id fs with
 | some (q,l0,l)=>(UO (HN l0.ks l0.n st).h (nth (HN l0.ks l0.n st).t q)).bind λp=>.ask (Lj f l q (HN l0.ks l0.n st) p) .leaf
 | none=>askL ls id f st
theorem Zs (c:FuncId->List V->St->T (V×Res)) (G:Nat->V) (fs:List (Nat×Nat×Lp×Lp)) (ls:List (Nat×Lp×List (Nat×(Nat->V)))):Cr ⟨c,askF fs ls,G⟩:=λid f st r hr=>by
 have hr:(askF fs ls id f st).sem=some r:=hr;unfold askF at hr;split at hr
 ·rename_i q l0 l _
  obtain ⟨p,hp,h⟩:=Ag hr;cases hi:Lj f l q (HN l0.ks l0.n st) p with
  | none=>rw [hi] at h; cases h
  | some r' =>
   rw [hi] at h;cases h;unfold Lj at hi;split at hi
   ·rename_i r2 h2
    split at hi
    ·rename_i ha
     cases hi;exact .lend (Qg _ _ _) hp (HL h2) ha
    ·cases hi
   ·cases hi
 ·exact Fp c G ls id f st r hr
def cxA (G:Nat->V) (tbl:A7) (ls:List (Nat×Lp×List (Nat×(Nat->V)))):Cx:=⟨Aw tbl,askL ls,G⟩
theorem AS {P:Program} {G:Nat->V} {tbl:A7} (h:Ao P G tbl) (ls:List (Nat×Lp×List (Nat×(Nat->V)))):Bu P (cxA G tbl ls).base∧Cr (cxA G tbl ls):=⟨Ek rfl h,Fp _ _ _⟩
theorem AsZ {v v':V} {l:List V} (h:∀ (S:Nat->Prop) (w:World) (u:Value),VR S w v noK u->VR S w v' noK u):Ba (v::l) (v'::l):=λS w cs hv=>by
 obtain ⟨c,m,e,q1,q2⟩:=hv;exact ⟨c,m,e,h S w c q1,q2⟩
theorem eN {b c:Bool} (h:b=c):AQ b=AQ c:=congrArg AQ h
theorem eA {b c b' c':Bool} (h:b=c) (h':b'=c'):Al b b'=Al c c':=by rw [h,h']
theorem eT:true=true:=rfl
theorem eF:false=false:=rfl
theorem eI (x:Int):ieq x x=true:=by simp [ieq]
theorem eJ (n:Nat):BN n n=true:=Nat.beq_refl n
theorem eG:∀ l:List Nat,BO (l.map λn=>.jag ⟨0,0,n,λ_=>.und,0,0,0,λ_=>true,λ_=>0,λ_ _=>.und,none⟩)=true
 | []=>rfl
 | n::l=>by simpa [BO] using eG l
theorem eR:∀ l:List (Nat×Option (Nat->Nat)),Cj (l.map λp=>match p.2 with
  | none=>.row 0 0 p.1 λ_=>iV 0
  | some f=>.jag ⟨0,1,p.1,λ_=>.und,0,0,0,λ_=>true,f,λ_ _=>iV 0,none⟩)=true
 | []=>rfl
 | (n,none)::l=>by
   have:=eR l;simp only [List.map_cons,Cj,this,Bool.and_true,List.all_eq_true];exact λ_ _=>rfl
 | (n,some f)::l=>by
   have:=eR l;simp only [List.map_cons,Cj,this,Bool.and_true,List.all_eq_true,Bool.and_eq_true];exact λ_ _=>⟨rfl,λ_ _=>rfl⟩
end Go.Sy
