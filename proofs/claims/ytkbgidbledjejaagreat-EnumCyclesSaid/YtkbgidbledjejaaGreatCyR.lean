/-
  crowded: the first event whose part has too many. No conditions.
-/
import Derived.Test.YtkbgidbledjejaaGreatCyQ
namespace Go.Proofs.YtkbgidbledjejaaGreat.Ed
open Go.Sy
open Int (ofNat)
theorem AhQ {v u:V} (h:∀ (S:Nat->Prop) (w:World) (c:Value),VR S w v noK c->VR S w u noK c) (S:Nat->Prop) (w:World) (κ:Aj) (c:Value) (hv:VR S w (.pp (.agg [v])) κ c):VR S w (.pp (.agg [u])) κ c:=by
 obtain ⟨b,o,cv,q1,⟨ca,q2,a,l',q3,q4,q5⟩,q6⟩:=hv;exact ⟨b,o,cv,q1,⟨ca,q2,a,l',q3,h S w a q4,q5⟩,q6⟩
def Ak4:List V->A3
 | [.val (.int .i64 i),.pp (.agg [v])]=>apL v λn f=>.br (Av (ile 0 i) (ilt i (ofNat n))) (out (bV (isW (f (toN i))))) .fail
 | _=>.fail
def AbS:List V->A3
 | [.val (.int .i64 _)]=>out (bV true)
 | _=>.fail
theorem p90:As Tryz.prog Gl 89 Ak4:=by
 refine Ah A2 mixed Tryz.func89 (by kernel_rfl) (by kernel_rfl) λvs v h' h=>?_;unfold Ak4 at h;split at h
 ·rename_i i u
  obtain ⟨n,f,ha,h1⟩:=Bd h;obtain ⟨hi,hq⟩:=Ab h1;have:=Aa hq;simp only [Prod.mk.injEq] at this;obtain ⟨rfl,rfl⟩:=this;have hA:By [.val (.int .i64 i),.pp (.agg [u])] [iV i,.pp (.agg [Ap n f])]:=λS w cs hv=>by
   obtain ⟨c,l,rfl,q1,c2,l2,rfl,q2,q3⟩:=hv;exact ⟨c,_,rfl,q1,c2,l2,rfl,AhQ ha S w noK c2 q2,q3⟩
  have hx:=Bi H2 [];exact ⟨_,B7 Gl tb0 [],_,hA,rfl,hx.1,hx.2,Ag (ks:=[kn hi]) (by kernel_rfl)/-W:wc90-/,Au.refl _⟩
 ·cases h
theorem p93:As Tryz.prog Gl 92 AbS:=by
 refine Ah A2 mixed Tryz.func92 (by kernel_rfl) (by kernel_rfl) λvs v h' h=>?_;unfold AbS at h;split at h
 ·have:=Aa h
  simp only [Prod.mk.injEq] at this;obtain ⟨rfl,rfl⟩:=this;have hx:=Bi H2 [];exact ⟨_,B7 Gl tb0 [],_,By.refl _,rfl,hx.1,hx.2,Ag (ks:=[]) (by kernel_rfl)/-W:wc93-/,Au.refl _⟩
 ·cases h
noncomputable def MQ:AG:=(89,Ak4)::(92,AbS)::[]
theorem Y4:Al Tryz.prog Gl MQ:=.cons p90 <| .cons p93 .nil
def gK (l:Nat->Int) (c:Nat->Bool) (i:Nat) (x:Int):Int:=ofNat (AA (D6 l c x) i)
theorem AnB (l:Nat->Int) (c:Nat->Bool):gK l c 0=λ_=>0:=rfl
theorem AnA {l:Nat->Int} {c:Nat->Bool} {i:Nat} (h:c i=false):gK l c (i+1)=gK l c i:=by
 funext x;unfold gK;rw [N9];rw [D6,h];cases ieq (l i) x <;> rfl
theorem Aef {l:Nat->Int} {c:Nat->Bool} {i n:Nat} (h:c i=true) (hi:i<n) (hn:n <= 4611686018427387904):(λk=>sel (ieq k (l i)) (wr .i64 (Ai (gK l c i (l i)) 1)) (gK l c i k))=gK l c (i+1):=by
 funext x;by_cases hx:x=l i
 ·subst hx
  have h1:ieq (l i) (l i)=true:=by simp [ieq]
  rw [h1];show wr .i64 (Ai (ofNat (AA (D6 l c (l i)) i)) 1)=_;have:=DU (D6 l c (l i)) i;rw [AT (show AA (D6 l c (l i)) i<n by omega) hn];unfold gK;rw [Lb (show D6 l c (l i) i=true by rw [D6,h,h1]; rfl)]
 ·have h1:ieq x (l i)=false:=by simp [ieq,hx]
  rw [h1];show gK l c i x=_;unfold gK;rw [N9 (show D6 l c x i=false by rw [D6,show ieq (l i) x=false by simp [ieq]; omega]; rfl)]
theorem Uo {a:Nat} (h:a <= 4611686018427387904):Fj (ofNat a)=true:=by
 simp only [Fj,Bool.and_eq_true,decide_eq_true_eq,Int.ofNat_eq_natCast];omega
def okP (n:Nat) (l:Nat->Int):Bool:=Dl n λi=>Fj (l i)
def Bf (n:Nat) (l:Nat->Int) (c:Nat->Bool) (q:Int) (i:Nat):Bool:=Av (c i) (ilt q (U1 n l c (l i)))
def crR (n:Nat) (l:Nat->Int) (c:Nat->Bool) (q:Int):Int×Bool :=
 match A0 (Bf n l c q) n 0 with
 | some t=>(ofNat t,true)
 | none=>(0,false)
def NZ (n:Nat) (_:Nat->E6) (_:Nat->Int) (_:Int):Lp:=⟨bmK 48 0 [0,1,2,6,7,8,14,15,16],1,bmK 48 0 [0,1,2,6,7,8],1,n+1⟩
def RU (n:Nat) (f:Nat->E6) (l:Nat->Int) (q:Int) (t:Nat) (g:Int->Int) (i:Nat) (j:Nat->V):St:=⟨jsV 48 0 j [(0,.sl 1 n (λk=>iV (l k))),(1,.fn 89 [.pp (.agg [Ap n f])]),(2,iV q),(6,iV 0),(7,bV false),(8,.ref 0),(14,.sl 1 n (λk=>iV (l k))),(15,nV n),(16,nV i)],[.imap 116 t g]⟩
def KZ (n:Nat) (f:Nat->E6) (l:Nat->Int) (q:Int) (t:Nat) (g:Int->Int) (_:Nat):Ex×St:=(.ex 0,⟨jsV 48 0 Ac [(0,.sl 1 n (λk=>iV (l k))),(1,.fn 89 [.pp (.agg [Ap n f])]),(2,iV q),(6,iV 0),(7,bV false),(8,.ref 0)],[.imap 116 t g]⟩)
noncomputable def Ko (L:LT):St->T (Ex×St):=λst=>A6 tab ⟨A5 MQ,L,Gl⟩ (Aw Tryz.f90 0) 0 st
section
variable (L:LT) (n:Nat) (f:Nat->E6) (l:Nat->Int) (q:Int) (t:Nat) (g:Int->Int) (i:Nat)  (j:Nat->V)
include L n f l q t g i j
theorem AjH (h0:ilt (ofNat i) (ofNat n)=false):Am (Ko L) (NZ n f l q) (RU n f l q t g i j)=some ((.ex 0),⟨jsV 48 0 Ac [(0,.sl 1 n (λk=>iV (l k))),(1,.fn 89 [.pp (.agg [.sl 6 n (λi=>eV (f i))])]),(2,iV q),(6,iV 0),(7,bV false),(8,.ref 0)],[.imap 116 t g]⟩):=by
 exact Ag (ks:=[kn h0]) (by kernel_rfl)
theorem AjG (h0:ilt (ofNat i) (ofNat n)=true) (h1:Av (ile 0 (ofNat i)) (ilt (ofNat i) (ofNat n))=true) (h2:isW (f i)=false):Am (Ko L) (NZ n f l q) (RU n f l q t g i j)=some (.nm,⟨jsV 48 0 Ac [(0,.sl 1 n (λk=>iV (l k))),(1,.fn 89 [.pp (.agg [.sl 6 n (λi=>eV (f i))])]),(2,iV q),(6,iV 0),(7,bV false),(8,.ref 0),(14,.sl 1 n (λk=>iV (l k))),(15,nV n),(16,iV (wr .i64 (Ai (ofNat i) 1)))],[.imap 116 t g]⟩):=by
 exact Ag (ks:=[kn h0,kn h1,kL n,kn h1,kn h2]) (by kernel_rfl)
theorem AjF (h0:ilt (ofNat i) (ofNat n)=true) (h1:Av (ile 0 (ofNat i)) (ilt (ofNat i) (ofNat n))=true) (h2:isW (f i)=true) (h4:Fj (l i)=true) (h3:nlt t 4611686018427387904=true) (h5:Fj (wr .i64 (Ai (g (l i)) 1))=true):Am (Ko L) (NZ n f l q) (RU n f l q t g i j)=some (.nm,⟨jsV 48 0 Ac [(0,.sl 1 n (λk=>iV (l k))),(1,.fn 89 [.pp (.agg [.sl 6 n (λi=>eV (f i))])]),(2,iV q),(6,iV 0),(7,bV false),(8,.ref 0),(14,.sl 1 n (λk=>iV (l k))),(15,nV n),(16,iV (wr .i64 (Ai (ofNat i) 1)))],[.imap 116 (Bv t 1) (λz=>sel (ieq z (l i)) (wr .i64 (Ai (g (l i)) 1)) (g z))]⟩):=by
 exact Ag (ks:=[kn h0,kn h1,kL n,kn h1,kn h2,kn h4,kn h3,kn h4,kn h5]) (by kernel_rfl)
end
def Aim (_:Nat) (_:Nat->E6) (_:Nat->Int) (_:Int) :Nat->V:=lkV A7 [(13,.ref 0)]
def G0 (n:Nat) (_:Nat->E6) (_:Nat->Int) (_:Int):Lp:=⟨bmK 48 0 [1,2,6,7,8,29,30,31],1,bmK 48 0 [6,7],0,n+1⟩
def I1 (n:Nat) (f:Nat->E6) (l:Nat->Int) (q:Int) (t:Nat) (g:Int->Int) (i:Nat) (j:Nat->V):St:=⟨jsV 48 0 j [(1,.fn 89 [.pp (.agg [Ap n f])]),(2,iV q),(6,iV 0),(7,bV false),(8,.ref 0),(29,.sl 1 n (λk=>iV (l k))),(30,nV n),(31,nV i)],[.imap 116 t g]⟩
def Mq (_:Nat) (_:Nat->E6) (_:Nat->Int) (_:Int) (_:Nat) (_:Int->Int) (_:Nat):Ex×St:=(.ex 2,⟨jsV 48 0 Ac [(6,iV 0),(7,bV false)],[]⟩)
def Mo (_:Nat) (_:Nat->E6) (_:Nat->Int) (_:Int) (_:Nat) (_:Int->Int) (i:Nat):Ex×St:=(.rt,⟨jsV 48 0 Ac [(6,nV i),(7,bV true)],[]⟩)
noncomputable def FK (L:LT):St->T (Ex×St):=λst=>A6 tab ⟨A5 MQ,L,Gl⟩ (Aw Tryz.f90 2) 2 st
section
variable (L:LT) (n:Nat) (f:Nat->E6) (l:Nat->Int) (q:Int) (t:Nat) (g:Int->Int) (i:Nat)  (j:Nat->V)
include L n f l q t g i j
theorem Aj4 (h0:ilt (ofNat i) (ofNat n)=false):Am (FK L) (G0 n f l q) (I1 n f l q t g i j)=some ((.ex 2),⟨jsV 48 0 Ac [(6,iV 0),(7,bV false)],[]⟩):=by
 exact Ag (ks:=[kn h0]) (by kernel_rfl)
theorem Aj7 (h0:ilt (ofNat i) (ofNat n)=true) (h1:Av (ile 0 (ofNat i)) (ilt (ofNat i) (ofNat n))=true) (h2:isW (f i)=false):Am (FK L) (G0 n f l q) (I1 n f l q t g i j)=some (.nm,⟨jsV 48 0 Ac [(1,.fn 89 [.pp (.agg [.sl 6 n (λi=>eV (f i))])]),(2,iV q),(6,iV 0),(7,bV false),(8,.ref 0),(29,.sl 1 n (λk=>iV (l k))),(30,nV n),(31,iV (wr .i64 (Ai (ofNat i) 1)))],[.imap 116 t g]⟩):=by
 exact Ag (ks:=[kn h0,kn h1,kL n,kn h1,kn h2,kn h2,kn h2,kn h2,kn h2,kn h2,kF]) (by kernel_rfl)
theorem Aj6 (h0:ilt (ofNat i) (ofNat n)=true) (h1:Av (ile 0 (ofNat i)) (ilt (ofNat i) (ofNat n))=true) (h2:isW (f i)=true) (h3:Fj (l i)=true) (h4:ilt q (g (l i))=false):Am (FK L) (G0 n f l q) (I1 n f l q t g i j)=some (.nm,⟨jsV 48 0 Ac [(1,.fn 89 [.pp (.agg [.sl 6 n (λi=>eV (f i))])]),(2,iV q),(6,iV 0),(7,bV false),(8,.ref 0),(29,.sl 1 n (λk=>iV (l k))),(30,nV n),(31,iV (wr .i64 (Ai (ofNat i) 1)))],[.imap 116 t g]⟩):=by
 exact Ag (ks:=[kn h0,kn h1,kL n,kn h1,kn h2,kn h2,kn h2,kn h3,kn h2,kn h2,kn h2,kn h4]) (by kernel_rfl)
theorem Aj5 (h0:ilt (ofNat i) (ofNat n)=true) (h1:Av (ile 0 (ofNat i)) (ilt (ofNat i) (ofNat n))=true) (h2:isW (f i)=true) (h3:Fj (l i)=true) (h4:ilt q (g (l i))=true):Am (FK L) (G0 n f l q) (I1 n f l q t g i j)=some (.rt,⟨jsV 48 0 Ac [(6,nV i),(7,bV true)],[]⟩):=by
 exact Ag (ks:=[kn h0,kn h1,kL n,kn h1,kn h2,kn h2,kn h2,kn h3,kn h2,kn h2,kn h2,kn h4]) (by kernel_rfl)
end
def Zk (n:Nat) (_:Nat->E6) (l:Nat->Int) (_:Int) (_:Nat) (_:Int->Int) (_:Nat):Nat->V:=lkU 281471218613816 [(0,.sl 1 n (λk=>iV (l k)))]
section
variable (L:LT) (p0:PT) (p2:PT) (n:Nat) (f:Nat->E6) (l:Nat->Int) (q:Int) (t:Nat) (g:Int->Int) (i m:Nat)
include L p0 p2 n f l q t g i m
theorem AiE  (hp0:p0 (Ko (onP 0 p0 (KZ n f l q t g i) (onP 2 p2 (Mq n f l q t g m) L))) (RU n f l q 0 (λ_=>0) 0 (Aim n f l q ))=true) (hp2:p2 (FK (onP 0 p0 (KZ n f l q t g i) (onP 2 p2 (Mq n f l q t g m) L))) (I1 n f l q t g 0 (Zk n f l q t g i))=true):(AL (Ar tab ⟨A5 MQ,onP 0 p0 (KZ n f l q t g i) (onP 2 p2 (Mq n f l q t g m) L),Gl⟩ Tryz.f90 [CH n l,.fn 89 [.pp (.agg [Ap n f])],iV q] [])).sem=some ((.tup [iV 0,bV false]),[]):=by
 exact Ag (ks:=[kn hp0,kn hp2]) (by kernel_rfl)
theorem AiD  (hp0:p0 (Ko (onP 0 p0 (KZ n f l q t g i) (onP 2 p2 (Mo n f l q t g m) L))) (RU n f l q 0 (λ_=>0) 0 (Aim n f l q ))=true) (hp2:p2 (FK (onP 0 p0 (KZ n f l q t g i) (onP 2 p2 (Mo n f l q t g m) L))) (I1 n f l q t g 0 (Zk n f l q t g i))=true):(AL (Ar tab ⟨A5 MQ,onP 0 p0 (KZ n f l q t g i) (onP 2 p2 (Mo n f l q t g m) L),Gl⟩ Tryz.f90 [CH n l,.fn 89 [.pp (.agg [Ap n f])],iV q] [])).sem=some ((.tup [nV m,bV true]),[]):=by
 exact Ag (ks:=[kn hp0,kn hp2]) (by kernel_rfl)
end
theorem Xl (L:LT) (n:Nat) (f:Nat->E6) (l:Nat->Int) (q:Int) (hn:n <= 4611686018427387904) (ho:okP n l=true):∀ (d i:Nat) (j:Nat->V) (p:Nat),n=i+d->d<p ->
  (Ax (Ko L) (NZ n f l q) p (RU n f l q (AA (λi=>isW (f i)) i) (gK l (λi=>isW (f i)) i) i j)).sem=some (KZ n f l q (AA (λi=>isW (f i)) n) (gK l (λi=>isW (f i)) n) n)
 | 0,i,j,p+1,h,_=>by
  have:n=i:=by omega
  subst this;exact Ae (AjH L n f l q (AA (λi=>isW (f i)) n) (gK l (λi=>isW (f i)) n) n j (A1 (Nat.le_refl _)))
 | d+1,i,j,p+1,h,h2=>by
  have hl:i<n:=by omega
  have hc:=DU (λi=>isW (f i)) i;have hc2:=DU (D6 l (λi=>isW (f i)) (l i)) i;have ht:nlt (AA (λi=>isW (f i)) i) 4611686018427387904=true:=by simp only [nlt,decide_eq_true_eq]; omega
  have hf:Fj (wr .i64 (Ai (gK l (λi=>isW (f i)) i (l i)) 1))=true:=by
   show Fj (wr .i64 (Ai (ofNat (AA (D6 l (λi=>isW (f i)) (l i)) i)) 1))=true;rw [AT (show AA (D6 l (λi=>isW (f i)) (l i)) i<n by omega) hn];exact Uo (by omega)
  cases cw:isW (f i) with
  | false =>rw [Ae (AjG L n f l q (AA (λi=>isW (f i)) i) (gK l (λi=>isW (f i)) i) i j (ofNat_lt hl) (Af hl) cw),AK,AT hl hn,<- AnA (l:=l) (c:=(λi=>isW (f i))) cw,<- N9 (p:=(λi=>isW (f i))) cw];exact Xl L n f l q hn ho d (i+1) Ac p (by omega) (by omega)
  | true =>rw [Ae (AjF L n f l q (AA (λi=>isW (f i)) i) (gK l (λi=>isW (f i)) i) i j (ofNat_lt hl) (Af hl) cw (AS.1 ho i hl) ht hf),AK,AT hl hn,Aef (l:=l) (c:=(λi=>isW (f i))) (i:=i) cw hl hn,show Bv (AA (λi=>isW (f i)) i) 1=AA (λi=>isW (f i)) (i+1) from (Lb (p:=(λi=>isW (f i))) cw).symm];exact Xl L n f l q hn ho d (i+1) Ac p (by omega) (by omega)
theorem T9 (L:LT) (n:Nat) (f:Nat->E6) (l:Nat->Int) (q:Int) (t:Nat) (hn:n <= 4611686018427387904) (ho:okP n l=true):∀ (d i:Nat) (j:Nat->V) (p:Nat),n=i+d->d<p ->
  (Ax (FK L) (G0 n f l q) p (I1 n f l q t (gK l (λi=>isW (f i)) n) i j)).sem=some (match A0 (Bf n l (λi=>isW (f i)) q) d i with
   | none=>Mq n f l q t (gK l (λi=>isW (f i)) n) 0
   | some m=>Mo n f l q t (gK l (λi=>isW (f i)) n) m)
 | 0,i,j,p+1,h,_=>by
  have:n=i:=by omega
  subst this;exact Ae (Aj4 L n f l q t (gK l (λi=>isW (f i)) n) n j (A1 (Nat.le_refl _)))
 | d+1,i,j,p+1,h,h2=>by
  have hl:i<n:=by omega
  cases cw:isW (f i) with
  | false =>rw [EF (show Bf n l (λi=>isW (f i)) q i=false by unfold Bf; rw [show (λi=>isW (f i)) i=false from cw]; rfl),Ae (Aj7 L n f l q t (gK l (λi=>isW (f i)) n) i j (ofNat_lt hl) (Af hl) cw),AK,AT hl hn];exact T9 L n f l q t hn ho d (i+1) Ac p (by omega) (by omega)
  | true =>
   cases cg:ilt q (gK l (λi=>isW (f i)) n (l i)) with
   | false =>rw [EF (show Bf n l (λi=>isW (f i)) q i=false by unfold Bf; rw [show ilt q (U1 n l (λi=>isW (f i)) (l i))=false from cg]; cases (λi=>isW (f i)) i <;> rfl),Ae (Aj6 L n f l q t (gK l (λi=>isW (f i)) n) i j (ofNat_lt hl) (Af hl) cw (AS.1 ho i hl) cg),AK,AT hl hn];exact T9 L n f l q t hn ho d (i+1) Ac p (by omega) (by omega)
   | true =>rw [EE (show Bf n l (λi=>isW (f i)) q i=true by unfold Bf; rw [show ilt q (U1 n l (λi=>isW (f i)) (l i))=true from cg,show (λi=>isW (f i)) i=true from cw]; rfl)];exact Ae (Aj5 L n f l q t (gK l (λi=>isW (f i)) n) i j (ofNat_lt hl) (Af hl) cw (AS.1 ho i hl) cg)
theorem Afx (n:Nat) (f:Nat->E6) (l:Nat->Int) (q:Int) (hn:n <= 4611686018427387904) (ho:okP n l=true) :
  (AL (Ar tab (B7 Gl MQ [(0,NZ n f l q),(2,G0 n f l q)]) Tryz.f90 [CH n l,.fn 89 [.pp (.agg [Ap n f])],iV q] [])).sem=some (.tup [iV (crR n l (λi=>isW (f i)) q).1,bV (crR n l (λi=>isW (f i)) q).2],[]):=by
 have hL:=AV [(0,NZ n f l q),(2,G0 n f l q)];have h0:=λL j=>Xl L n f l q hn ho n 0 j (n+1) (by omega) (by omega);have h2:=λL j=>T9 L n f l q (AA (λi=>isW (f i)) n) hn ho n 0 j (n+1) (by omega) (by omega);rw [AnB] at h0;unfold crR;cases c1:A0 (Bf n l (λi=>isW (f i)) q) n 0 with
 | some m =>rw [c1] at h2;exact Bh (Bg (Bg hL hL) hL) _ (AiD _ _ _ n f l q (AA (λi=>isW (f i)) n) (gK l (λi=>isW (f i)) n) n m (AB (h0 _ _)) (AB (h2 _ _)))
 | none =>rw [c1] at h2;exact Bh (Bg (Bg hL hL) hL) _ (AiE _ _ _ n f l q (AA (λi=>isW (f i)) n) (gK l (λi=>isW (f i)) n) n 0 (AB (h0 _ _)) (AB (h2 _ _)))
def PY (n:Nat) (_:Nat->Int) (_:Int):Lp:=⟨bmK 48 0 [0,1,2,6,7,8,14,15,16],1,bmK 48 0 [0,1,2,6,7,8],1,n+1⟩
def UR (n:Nat) (l:Nat->Int) (q:Int) (t:Nat) (g:Int->Int) (i:Nat) (j:Nat->V):St:=⟨jsV 48 0 j [(0,.sl 1 n (λk=>iV (l k))),(1,.fn 92 []),(2,iV q),(6,iV 0),(7,bV false),(8,.ref 0),(14,.sl 1 n (λk=>iV (l k))),(15,nV n),(16,nV i)],[.imap 116 t g]⟩
def La (n:Nat) (l:Nat->Int) (q:Int) (t:Nat) (g:Int->Int) (_:Nat):Ex×St:=(.ex 0,⟨jsV 48 0 Ac [(0,.sl 1 n (λk=>iV (l k))),(1,.fn 92 []),(2,iV q),(6,iV 0),(7,bV false),(8,.ref 0)],[.imap 116 t g]⟩)
noncomputable def M7 (L:LT):St->T (Ex×St):=λst=>A6 tab ⟨A5 MQ,L,Gl⟩ (Aw Tryz.f90 0) 0 st
section
variable (L:LT) (n:Nat) (l:Nat->Int) (q:Int) (t:Nat) (g:Int->Int) (i:Nat)  (j:Nat->V)
include L n l q t g i j
theorem AjJ (h0:ilt (ofNat i) (ofNat n)=false):Am (M7 L) (PY n l q) (UR n l q t g i j)=some ((.ex 0),⟨jsV 48 0 Ac [(0,.sl 1 n (λk=>iV (l k))),(1,.fn 92 []),(2,iV q),(6,iV 0),(7,bV false),(8,.ref 0)],[.imap 116 t g]⟩):=by
 exact Ag (ks:=[kn h0]) (by kernel_rfl)
theorem AjI (h0:ilt (ofNat i) (ofNat n)=true) (h1:Av (ile 0 (ofNat i)) (ilt (ofNat i) (ofNat n))=true) (h3:Fj (l i)=true) (h2:nlt t 4611686018427387904=true) (h4:Fj (wr .i64 (Ai (g (l i)) 1))=true):Am (M7 L) (PY n l q) (UR n l q t g i j)=some (.nm,⟨jsV 48 0 Ac [(0,.sl 1 n (λk=>iV (l k))),(1,.fn 92 []),(2,iV q),(6,iV 0),(7,bV false),(8,.ref 0),(14,.sl 1 n (λk=>iV (l k))),(15,nV n),(16,iV (wr .i64 (Ai (ofNat i) 1)))],[.imap 116 (Bv t 1) (λz=>sel (ieq z (l i)) (wr .i64 (Ai (g (l i)) 1)) (g z))]⟩):=by
 exact Ag (ks:=[kn h0,kn h1,kT,kn h3,kn h2,kn h3,kn h4]) (by kernel_rfl)
end
def Ain (_:Nat) (_:Nat->Int) (_:Int) :Nat->V:=lkV A7 [(13,.ref 0)]
def Ht (n:Nat) (_:Nat->Int) (_:Int):Lp:=⟨bmK 48 0 [1,2,6,7,8,29,30,31],1,bmK 48 0 [6,7],0,n+1⟩
def JL (n:Nat) (l:Nat->Int) (q:Int) (t:Nat) (g:Int->Int) (i:Nat) (j:Nat->V):St:=⟨jsV 48 0 j [(1,.fn 92 []),(2,iV q),(6,iV 0),(7,bV false),(8,.ref 0),(29,.sl 1 n (λk=>iV (l k))),(30,nV n),(31,nV i)],[.imap 116 t g]⟩
def Ms (_:Nat) (_:Nat->Int) (_:Int) (_:Nat) (_:Int->Int) (_:Nat):Ex×St:=(.ex 2,⟨jsV 48 0 Ac [(6,iV 0),(7,bV false)],[]⟩)
def Mr (_:Nat) (_:Nat->Int) (_:Int) (_:Nat) (_:Int->Int) (i:Nat):Ex×St:=(.rt,⟨jsV 48 0 Ac [(6,nV i),(7,bV true)],[]⟩)
noncomputable def GI (L:LT):St->T (Ex×St):=λst=>A6 tab ⟨A5 MQ,L,Gl⟩ (Aw Tryz.f90 2) 2 st
section
variable (L:LT) (n:Nat) (l:Nat->Int) (q:Int) (t:Nat) (g:Int->Int) (i:Nat)  (j:Nat->V)
include L n l q t g i j
theorem Aj8 (h0:ilt (ofNat i) (ofNat n)=false):Am (GI L) (Ht n l q) (JL n l q t g i j)=some ((.ex 2),⟨jsV 48 0 Ac [(6,iV 0),(7,bV false)],[]⟩):=by
 exact Ag (ks:=[kn h0]) (by kernel_rfl)
theorem AjA (h0:ilt (ofNat i) (ofNat n)=true) (h1:Av (ile 0 (ofNat i)) (ilt (ofNat i) (ofNat n))=true) (h2:Fj (l i)=true) (h3:ilt q (g (l i))=false):Am (GI L) (Ht n l q) (JL n l q t g i j)=some (.nm,⟨jsV 48 0 Ac [(1,.fn 92 []),(2,iV q),(6,iV 0),(7,bV false),(8,.ref 0),(29,.sl 1 n (λk=>iV (l k))),(30,nV n),(31,iV (wr .i64 (Ai (ofNat i) 1)))],[.imap 116 t g]⟩):=by
 exact Ag (ks:=[kn h0,kn h1,kT,kT,kT,kn h2,kT,kT,kT,kn h3]) (by kernel_rfl)
theorem Aj9 (h0:ilt (ofNat i) (ofNat n)=true) (h1:Av (ile 0 (ofNat i)) (ilt (ofNat i) (ofNat n))=true) (h2:Fj (l i)=true) (h3:ilt q (g (l i))=true):Am (GI L) (Ht n l q) (JL n l q t g i j)=some (.rt,⟨jsV 48 0 Ac [(6,nV i),(7,bV true)],[]⟩):=by
 exact Ag (ks:=[kn h0,kn h1,kT,kT,kT,kn h2,kT,kT,kT,kn h3]) (by kernel_rfl)
end
def Zl (n:Nat) (l:Nat->Int) (_:Int) (_:Nat) (_:Int->Int) (_:Nat):Nat->V:=lkU 281471218613816 [(0,.sl 1 n (λk=>iV (l k)))]
section
variable (L:LT) (p0:PT) (p2:PT) (n:Nat) (l:Nat->Int) (q:Int) (t:Nat) (g:Int->Int) (i m:Nat)
include L p0 p2 n l q t g i m
theorem AiG  (hp0:p0 (M7 (onP 0 p0 (La n l q t g i) (onP 2 p2 (Ms n l q t g m) L))) (UR n l q 0 (λ_=>0) 0 (Ain n l q ))=true) (hp2:p2 (GI (onP 0 p0 (La n l q t g i) (onP 2 p2 (Ms n l q t g m) L))) (JL n l q t g 0 (Zl n l q t g i))=true):(AL (Ar tab ⟨A5 MQ,onP 0 p0 (La n l q t g i) (onP 2 p2 (Ms n l q t g m) L),Gl⟩ Tryz.f90 [CH n l,.fn 92 [],iV q] [])).sem=some ((.tup [iV 0,bV false]),[]):=by
 exact Ag (ks:=[kn hp0,kn hp2]) (by kernel_rfl)
theorem AiF  (hp0:p0 (M7 (onP 0 p0 (La n l q t g i) (onP 2 p2 (Mr n l q t g m) L))) (UR n l q 0 (λ_=>0) 0 (Ain n l q ))=true) (hp2:p2 (GI (onP 0 p0 (La n l q t g i) (onP 2 p2 (Mr n l q t g m) L))) (JL n l q t g 0 (Zl n l q t g i))=true):(AL (Ar tab ⟨A5 MQ,onP 0 p0 (La n l q t g i) (onP 2 p2 (Mr n l q t g m) L),Gl⟩ Tryz.f90 [CH n l,.fn 92 [],iV q] [])).sem=some ((.tup [nV m,bV true]),[]):=by
 exact Ag (ks:=[kn hp0,kn hp2]) (by kernel_rfl)
end
theorem Acy (L:LT) (n:Nat) (l:Nat->Int) (q:Int) (hn:n <= 4611686018427387904) (ho:okP n l=true):∀ (d i:Nat) (j:Nat->V) (p:Nat),n=i+d->d<p ->
  (Ax (M7 L) (PY n l q) p (UR n l q (AA (λ_=>true) i) (gK l (λ_=>true) i) i j)).sem=some (La n l q (AA (λ_=>true) n) (gK l (λ_=>true) n) n)
 | 0,i,j,p+1,h,_=>by
  have:n=i:=by omega
  subst this;exact Ae (AjJ L n l q (AA (λ_=>true) n) (gK l (λ_=>true) n) n j (A1 (Nat.le_refl _)))
 | d+1,i,j,p+1,h,h2=>by
  have hl:i<n:=by omega
  have hc:=DU (λ_=>true) i;have hc2:=DU (D6 l (λ_=>true) (l i)) i;have ht:nlt (AA (λ_=>true) i) 4611686018427387904=true:=by simp only [nlt,decide_eq_true_eq]; omega
  have hf:Fj (wr .i64 (Ai (gK l (λ_=>true) i (l i)) 1))=true:=by
   show Fj (wr .i64 (Ai (ofNat (AA (D6 l (λ_=>true) (l i)) i)) 1))=true;rw [AT (show AA (D6 l (λ_=>true) (l i)) i<n by omega) hn];exact Uo (by omega)
  rw [Ae (AjI L n l q (AA (λ_=>true) i) (gK l (λ_=>true) i) i j (ofNat_lt hl) (Af hl) (AS.1 ho i hl) ht hf),AK,AT hl hn,Aef (l:=l) (c:=(λ_=>true)) (i:=i) rfl hl hn,show Bv (AA (λ_=>true) i) 1=AA (λ_=>true) (i+1) from (Lb (p:=(λ_=>true)) rfl).symm];exact Acy L n l q hn ho d (i+1) Ac p (by omega) (by omega)
theorem YB (L:LT) (n:Nat) (l:Nat->Int) (q:Int) (t:Nat) (hn:n <= 4611686018427387904) (ho:okP n l=true):∀ (d i:Nat) (j:Nat->V) (p:Nat),n=i+d->d<p ->
  (Ax (GI L) (Ht n l q) p (JL n l q t (gK l (λ_=>true) n) i j)).sem=some (match A0 (Bf n l (λ_=>true) q) d i with
   | none=>Ms n l q t (gK l (λ_=>true) n) 0
   | some m=>Mr n l q t (gK l (λ_=>true) n) m)
 | 0,i,j,p+1,h,_=>by
  have:n=i:=by omega
  subst this;exact Ae (Aj8 L n l q t (gK l (λ_=>true) n) n j (A1 (Nat.le_refl _)))
 | d+1,i,j,p+1,h,h2=>by
  have hl:i<n:=by omega
  cases cg:ilt q (gK l (λ_=>true) n (l i)) with
  | false =>rw [EF (show Bf n l (λ_=>true) q i=false by unfold Bf; rw [show ilt q (U1 n l (λ_=>true) (l i))=false from cg]; cases (λ_=>true) i <;> rfl),Ae (AjA L n l q t (gK l (λ_=>true) n) i j (ofNat_lt hl) (Af hl) (AS.1 ho i hl) cg),AK,AT hl hn];exact YB L n l q t hn ho d (i+1) Ac p (by omega) (by omega)
  | true =>rw [EE (show Bf n l (λ_=>true) q i=true by unfold Bf; rw [show ilt q (U1 n l (λ_=>true) (l i))=true from cg,show (λ_=>true) i=true from rfl]; rfl)];exact Ae (Aj9 L n l q t (gK l (λ_=>true) n) i j (ofNat_lt hl) (Af hl) (AS.1 ho i hl) cg)
theorem Afy (n:Nat) (l:Nat->Int) (q:Int) (hn:n <= 4611686018427387904) (ho:okP n l=true) :
  (AL (Ar tab (B7 Gl MQ [(0,PY n l q),(2,Ht n l q)]) Tryz.f90 [CH n l,.fn 92 [],iV q] [])).sem=some (.tup [iV (crR n l (λ_=>true) q).1,bV (crR n l (λ_=>true) q).2],[]):=by
 have hL:=AV [(0,PY n l q),(2,Ht n l q)];have h0:=λL j=>Acy L n l q hn ho n 0 j (n+1) (by omega) (by omega);have h2:=λL j=>YB L n l q (AA (λ_=>true) n) hn ho n 0 j (n+1) (by omega) (by omega);rw [AnB] at h0;unfold crR;cases c1:A0 (Bf n l (λ_=>true) q) n 0 with
 | some m =>rw [c1] at h2;exact Bh (Bg (Bg hL hL) hL) _ (AiF _ _ _ n l q (AA (λ_=>true) n) (gK l (λ_=>true) n) n m (AB (h0 _ _)) (AB (h2 _ _)))
 | none =>rw [c1] at h2;exact Bh (Bg (Bg hL hL) hL) _ (AiG _ _ _ n l q (AA (λ_=>true) n) (gK l (λ_=>true) n) n 0 (AB (h0 _ _)) (AB (h2 _ _)))
def Yi:List V->A3
 | [u,.fn 89 [.pp (.agg [v])],.val (.int .i64 q)]=>apI u λm l=>apL v λn f=>.br (Es n m) (.br (BX n) (.br (okP m l) (out (.tup [iV (crR m l (λi=>isW (f i)) q).1,bV (crR m l (λi=>isW (f i)) q).2])) .fail) .fail) .fail
 | [u,.fn 92 [],.val (.int .i64 q)]=>apI u λm l=>.br (BX m) (.br (okP m l) (out (.tup [iV (crR m l (λ_=>true) q).1,bV (crR m l (λ_=>true) q).2])) .fail) .fail
 | _=>.fail
theorem p91:As Tryz.prog Gl 90 Yi:=by
 refine Ah A2 mixed Tryz.func90 (by kernel_rfl) (by kernel_rfl) λvs v h' h=>?_;unfold Yi at h;split at h
 ·rename_i u1 v1 q
  obtain ⟨m,l,ha,h1⟩:=Ge h;obtain ⟨n,f,hb,h2⟩:=Bd h1;obtain ⟨hm,h3⟩:=Ab h2;obtain ⟨hn,h4⟩:=Ab h3;obtain ⟨ho,hq⟩:=Ab h4;have hm:n=m:=Nat.eq_of_beq_eq_true hm;subst hm;have:=Aa hq;simp only [Prod.mk.injEq] at this;obtain ⟨rfl,rfl⟩:=this;have hn:n <= 4611686018427387904:=of_decide_eq_true hn;have hA:By [u1,.fn 89 [.pp (.agg [v1])],.val (.int .i64 q)] [CH n l,.fn 89 [.pp (.agg [Ap n f])],iV q]:=λS w cs hv=>by
   obtain ⟨c,l1,rfl,q1,c2,l2,rfl,⟨ca,q4,c5,l5,q5,q6,q7⟩,q3⟩:=hv;exact ⟨c,_,rfl,ha S w c q1,c2,l2,rfl,⟨ca,q4,c5,l5,q5,AhQ hb S w noK c5 q6,q7⟩,q3⟩
  have hx:=Bi Y4 [(0,NZ n f l q),(2,G0 n f l q)];exact ⟨_,B7 Gl MQ [(0,NZ n f l q),(2,G0 n f l q)],_,hA,rfl,hx.1,hx.2,Afx n f l q hn ho,Au.refl _⟩
 ·rename_i u1 q
  obtain ⟨n,l,ha,h1⟩:=Ge h;obtain ⟨hn,h4⟩:=Ab h1;obtain ⟨ho,hq⟩:=Ab h4;have:=Aa hq;simp only [Prod.mk.injEq] at this;obtain ⟨rfl,rfl⟩:=this;have hn:n <= 4611686018427387904:=of_decide_eq_true hn;have hA:By [u1,.fn 92 [],.val (.int .i64 q)] [CH n l,.fn 92 [],iV q]:=λS w cs hv=>by
   obtain ⟨c,l1,rfl,q1,q3⟩:=hv;exact ⟨c,_,rfl,ha S w c q1,q3⟩
  have hx:=Bi Y4 [(0,PY n l q),(2,Ht n l q)];exact ⟨_,B7 Gl MQ [(0,PY n l q),(2,Ht n l q)],_,hA,rfl,hx.1,hx.2,Afy n l q hn ho,Au.refl _⟩
 ·cases h
end Go.Proofs.YtkbgidbledjejaaGreat.Ed
