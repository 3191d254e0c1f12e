/-
  crowded: the first event whose part has too many. No conditions.
-/
import Derived.Test.YtkgdhhieomndeaaGreatDoorCyQ
import Derived.Test.YtkgdhhieomndeaaGreatDoorCyA
namespace Go.Proofs.YtkgdhhieomndeaaGreatDoor.Ed
open Go.Sy
open Int (ofNat)
theorem Agk {v u:V} (h:∀ (S:Nat->Prop) (w:World) (c:Value),VR S w v noK c->VR S w u noK c) (S:Nat->Prop) (w:World) (κ:A2) (c:Value) (hv:VR S w (.pp (.agg [v])) κ c):VR S w (.pp (.agg [u])) κ c:=by
 obtain ⟨b,o,cv,q1,⟨ca,q2,a,l',q3,q4,q5⟩,q6⟩:=hv;exact ⟨b,o,cv,q1,⟨ca,q2,a,l',q3,h S w a q4,q5⟩,q6⟩
def Aji:List V->AR
 | [.val (.int .i64 i),.pp (.agg [v])]=>apL v λn f=>.br (Al (ile 0 i) (ilt i (ofNat n))) (out (bV (isW (f (toN i))))) .fail
 | _=>.fail
def ZD:List V->AR
 | [.val (.int .i64 _)]=>out (bV true)
 | _=>.fail
theorem p90:Ax Tryz.prog Gl 114 Aji:=by
 refine Am A8 mixed Tryz.func114 (by kernel_rfl) (by kernel_rfl) λvs v h' h=>?_;unfold Aji at h;split at h
 ·rename_i i u
  obtain ⟨n,f,ha,h1⟩:=Cl h;obtain ⟨hi,hq⟩:=Ad h1;have:=Ac hq;simp only [Prod.mk.injEq] at this;obtain ⟨rfl,rfl⟩:=this;have hA:Bf [.val (.int .i64 i),.pp (.agg [u])] [iV i,.pp (.agg [AQ n f])]:=λS w cs hv=>by
   obtain ⟨c,l,rfl,q1,c2,l2,rfl,q2,q3⟩:=hv;exact ⟨c,_,rfl,q1,c2,l2,rfl,Agk ha S w noK c2 q2,q3⟩
  have hx:=AI C8 [];exact ⟨_,AC Gl tb0 [],_,hA,rfl,hx.1,hx.2,Ab (ks:=[kn hi]) (by kernel_rfl),Aw.refl _⟩
 ·cases h
theorem p93:Ax Tryz.prog Gl 117 ZD:=by
 refine Am A8 mixed Tryz.func117 (by kernel_rfl) (by kernel_rfl) λvs v h' h=>?_;unfold ZD at h;split at h
 ·have:=Ac h
  simp only [Prod.mk.injEq] at this;obtain ⟨rfl,rfl⟩:=this;have hx:=AI C8 [];exact ⟨_,AC Gl tb0 [],_,Bf.refl _,rfl,hx.1,hx.2,Ab (ks:=[]) (by kernel_rfl),Aw.refl _⟩
 ·cases h
noncomputable def Ly:AP:=(114,Aji)::(117,ZD)::[]
theorem WC:Av Tryz.prog Gl Ly:=.cons p90 <| .cons p93 .nil
def gK (l:Nat->Int) (c:Nat->Bool) (i:Nat) (x:Int):Int:=ofNat (An (C4 l c x) i)
theorem Am7 (l:Nat->Int) (c:Nat->Bool):gK l c 0=λ_=>0:=rfl
theorem Am6 {l:Nat->Int} {c:Nat->Bool} {i:Nat} (h:c i=false):gK l c (i+1)=gK l c i:=by
 funext x;unfold gK;rw [BU];rw [C4,h];cases ieq (l i) x <;> rfl
theorem AbN {l:Nat->Int} {c:Nat->Bool} {i n:Nat} (h:c i=true) (hi:i<n) (hn:n <= 4611686018427387904):(λk=>sel (ieq k (l i)) (wr .i64 (Af (gK l c i (l i)) 1)) (gK l c i k))=gK l c (i+1):=by
 funext x;by_cases hx:x=l i
 ·subst hx
  have h1:ieq (l i) (l i)=true:=by simp [ieq]
  rw [h1];show wr .i64 (Af (ofNat (An (C4 l c (l i)) i)) 1)=_;have:=Be (C4 l c (l i)) i;rw [Aq (show An (C4 l c (l i)) i<n by omega) hn];unfold gK;rw [Bx (show C4 l c (l i) i=true by rw [C4,h,h1]; rfl)]
 ·have h1:ieq x (l i)=false:=by simp [ieq,hx]
  rw [h1];show gK l c i x=_;unfold gK;rw [BU (show C4 l c x i=false by rw [C4,show ieq (l i) x=false by simp [ieq]; omega]; rfl)]
theorem RP {a:Nat} (h:a <= 4611686018427387904):Fr (ofNat a)=true:=by
 simp only [Fr,Bool.and_eq_true,decide_eq_true_eq,Int.ofNat_eq_natCast];omega
def okP (n:Nat) (l:Nat->Int):Bool:=AB n λi=>Fr (l i)
def Bd (n:Nat) (l:Nat->Int) (c:Nat->Bool) (q:Int) (i:Nat):Bool:=Al (c i) (ilt q (OT n l c (l i)))
def crR (n:Nat) (l:Nat->Int) (c:Nat->Bool) (q:Int):Int×Bool :=
 match Bg (Bd n l c q) n 0 with
 | some t=>(ofNat t,true)
 | none=>(0,false)
def M0 (n:Nat) (f:Nat->E6) (l:Nat->Int) (q:Int):Lp:=⟨bmK 48 0 [0,1,2,6,7,8,14,15,16],1,bmK 48 0 [0,1,2,6,7,8],1,n+1⟩
def PH (n:Nat) (f:Nat->E6) (l:Nat->Int) (q:Int) (t:Nat) (g:Int->Int) (i:Nat) (j:Nat->V):St:=⟨jsV 48 0 j [(0,.sl 1 n (λk=>iV (l k))),(1,.fn 114 [.pp (.agg [AQ n f])]),(2,iV q),(6,iV 0),(7,bV false),(8,.ref 0),(14,.sl 1 n (λk=>iV (l k))),(15,nV n),(16,nV i)],[.imap 139 t g]⟩
def JG (n:Nat) (f:Nat->E6) (l:Nat->Int) (q:Int) (t:Nat) (g:Int->Int) (i:Nat):Ex×St:=(.ex 0,⟨jsV 48 0 Aa [(0,.sl 1 n (λk=>iV (l k))),(1,.fn 114 [.pp (.agg [AQ n f])]),(2,iV q),(6,iV 0),(7,bV false),(8,.ref 0)],[.imap 139 t g]⟩)
noncomputable def Jd (L:LT):St->T (Ex×St):=λst=>A7 tab ⟨Ap Ly,L,Gl⟩ (Ar Tryz.f115 0) 0 st
section
variable (L:LT) (n:Nat) (f:Nat->E6) (l:Nat->Int) (q:Int) (t:Nat) (g:Int->Int) (i:Nat)  (j:Nat->V)
include L n f l q t g i j
theorem Aiq (h0:ilt (ofNat i) (ofNat n)=false):Ah (Jd L) (M0 n f l q) (PH n f l q t g i j)=some ((.ex 0),⟨jsV 48 0 Aa [(0,.sl 1 n (λk=>iV (l k))),(1,.fn 114 [.pp (.agg [.sl 6 n (λi=>eV (f i))])]),(2,iV q),(6,iV 0),(7,bV false),(8,.ref 0)],[.imap 139 t g]⟩):=by
 exact Ab (ks:=[kn h0]) (by kernel_rfl)
theorem Aip (h0:ilt (ofNat i) (ofNat n)=true) (h1:Al (ile 0 (ofNat i)) (ilt (ofNat i) (ofNat n))=true) (h2:isW (f i)=false):Ah (Jd L) (M0 n f l q) (PH n f l q t g i j)=some (.nm,⟨jsV 48 0 Aa [(0,.sl 1 n (λk=>iV (l k))),(1,.fn 114 [.pp (.agg [.sl 6 n (λi=>eV (f i))])]),(2,iV q),(6,iV 0),(7,bV false),(8,.ref 0),(14,.sl 1 n (λk=>iV (l k))),(15,nV n),(16,iV (wr .i64 (Af (ofNat i) 1)))],[.imap 139 t g]⟩):=by
 exact Ab (ks:=[kn h0,kn h1,kL n,kn h1,kn h2]) (by kernel_rfl)
theorem Aio (h0:ilt (ofNat i) (ofNat n)=true) (h1:Al (ile 0 (ofNat i)) (ilt (ofNat i) (ofNat n))=true) (h2:isW (f i)=true) (h4:Fr (l i)=true) (h3:nlt t 4611686018427387904=true) (h5:Fr (wr .i64 (Af (g (l i)) 1))=true):Ah (Jd L) (M0 n f l q) (PH n f l q t g i j)=some (.nm,⟨jsV 48 0 Aa [(0,.sl 1 n (λk=>iV (l k))),(1,.fn 114 [.pp (.agg [.sl 6 n (λi=>eV (f i))])]),(2,iV q),(6,iV 0),(7,bV false),(8,.ref 0),(14,.sl 1 n (λk=>iV (l k))),(15,nV n),(16,iV (wr .i64 (Af (ofNat i) 1)))],[.imap 139 (AS t 1) (λz=>sel (ieq z (l i)) (wr .i64 (Af (g (l i)) 1)) (g z))]⟩):=by
 exact Ab (ks:=[kn h0,kn h1,kL n,kn h1,kn h2,kn h4,kn h3,kn h4,kn h5]) (by kernel_rfl)
end
def Ag2 (n:Nat) (f:Nat->E6) (l:Nat->Int) (q:Int) :Nat->V:=lkV A9 [(13,.ref 0)]
def Fo (n:Nat) (f:Nat->E6) (l:Nat->Int) (q:Int):Lp:=⟨bmK 48 0 [1,2,6,7,8,29,30,31],1,bmK 48 0 [6,7],0,n+1⟩
def Hg (n:Nat) (f:Nat->E6) (l:Nat->Int) (q:Int) (t:Nat) (g:Int->Int) (i:Nat) (j:Nat->V):St:=⟨jsV 48 0 j [(1,.fn 114 [.pp (.agg [AQ n f])]),(2,iV q),(6,iV 0),(7,bV false),(8,.ref 0),(29,.sl 1 n (λk=>iV (l k))),(30,nV n),(31,nV i)],[.imap 139 t g]⟩
def KK (n:Nat) (f:Nat->E6) (l:Nat->Int) (q:Int) (t:Nat) (g:Int->Int) (i:Nat):Ex×St:=(.ex 2,⟨jsV 48 0 Aa [(6,iV 0),(7,bV false)],[]⟩)
def KJ (n:Nat) (f:Nat->E6) (l:Nat->Int) (q:Int) (t:Nat) (g:Int->Int) (i:Nat):Ex×St:=(.rt,⟨jsV 48 0 Aa [(6,nV i),(7,bV true)],[]⟩)
noncomputable def Ew (L:LT):St->T (Ex×St):=λst=>A7 tab ⟨Ap Ly,L,Gl⟩ (Ar Tryz.f115 2) 2 st
section
variable (L:LT) (n:Nat) (f:Nat->E6) (l:Nat->Int) (q:Int) (t:Nat) (g:Int->Int) (i:Nat)  (j:Nat->V)
include L n f l q t g i j
theorem AhY (h0:ilt (ofNat i) (ofNat n)=false):Ah (Ew L) (Fo n f l q) (Hg n f l q t g i j)=some ((.ex 2),⟨jsV 48 0 Aa [(6,iV 0),(7,bV false)],[]⟩):=by
 exact Ab (ks:=[kn h0]) (by kernel_rfl)
theorem Aib (h0:ilt (ofNat i) (ofNat n)=true) (h1:Al (ile 0 (ofNat i)) (ilt (ofNat i) (ofNat n))=true) (h2:isW (f i)=false):Ah (Ew L) (Fo n f l q) (Hg n f l q t g i j)=some (.nm,⟨jsV 48 0 Aa [(1,.fn 114 [.pp (.agg [.sl 6 n (λi=>eV (f i))])]),(2,iV q),(6,iV 0),(7,bV false),(8,.ref 0),(29,.sl 1 n (λk=>iV (l k))),(30,nV n),(31,iV (wr .i64 (Af (ofNat i) 1)))],[.imap 139 t g]⟩):=by
 exact Ab (ks:=[kn h0,kn h1,kL n,kn h1,kn h2,kn h2,kn h2,kn h2,kn h2,kn h2,kF]) (by kernel_rfl)
theorem Aia (h0:ilt (ofNat i) (ofNat n)=true) (h1:Al (ile 0 (ofNat i)) (ilt (ofNat i) (ofNat n))=true) (h2:isW (f i)=true) (h3:Fr (l i)=true) (h4:ilt q (g (l i))=false):Ah (Ew L) (Fo n f l q) (Hg n f l q t g i j)=some (.nm,⟨jsV 48 0 Aa [(1,.fn 114 [.pp (.agg [.sl 6 n (λi=>eV (f i))])]),(2,iV q),(6,iV 0),(7,bV false),(8,.ref 0),(29,.sl 1 n (λk=>iV (l k))),(30,nV n),(31,iV (wr .i64 (Af (ofNat i) 1)))],[.imap 139 t g]⟩):=by
 exact Ab (ks:=[kn h0,kn h1,kL n,kn h1,kn h2,kn h2,kn h2,kn h3,kn h2,kn h2,kn h2,kn h4]) (by kernel_rfl)
theorem AhZ (h0:ilt (ofNat i) (ofNat n)=true) (h1:Al (ile 0 (ofNat i)) (ilt (ofNat i) (ofNat n))=true) (h2:isW (f i)=true) (h3:Fr (l i)=true) (h4:ilt q (g (l i))=true):Ah (Ew L) (Fo n f l q) (Hg n f l q t g i j)=some (.rt,⟨jsV 48 0 Aa [(6,nV i),(7,bV true)],[]⟩):=by
 exact Ab (ks:=[kn h0,kn h1,kL n,kn h1,kn h2,kn h2,kn h2,kn h3,kn h2,kn h2,kn h2,kn h4]) (by kernel_rfl)
end
def Xr (n:Nat) (f:Nat->E6) (l:Nat->Int) (q:Int) (t:Nat) (g:Int->Int) (i:Nat):Nat->V:=lkU 281471218613816 [(0,.sl 1 n (λk=>iV (l k)))]
section
variable (L:LT) (p0:PT) (p2:PT) (n:Nat) (f:Nat->E6) (l:Nat->Int) (q:Int) (t:Nat) (g:Int->Int) (i m:Nat)
include L p0 p2 n f l q t g i m
theorem AgZ  (hp0:p0 (Jd (onP 0 p0 (JG n f l q t g i) (onP 2 p2 (KK n f l q t g m) L))) (PH n f l q 0 (λ_=>0) 0 (Ag2 n f l q ))=true) (hp2:p2 (Ew (onP 0 p0 (JG n f l q t g i) (onP 2 p2 (KK n f l q t g m) L))) (Hg n f l q t g 0 (Xr n f l q t g i))=true):(Az (Ak tab ⟨Ap Ly,onP 0 p0 (JG n f l q t g i) (onP 2 p2 (KK n f l q t g m) L),Gl⟩ Tryz.f115 [EJ n l,.fn 114 [.pp (.agg [AQ n f])],iV q] [])).sem=some ((.tup [iV 0,bV false]),[]):=by
 exact Ab (ks:=[kn hp0,kn hp2]) (by kernel_rfl)
theorem AgY  (hp0:p0 (Jd (onP 0 p0 (JG n f l q t g i) (onP 2 p2 (KJ n f l q t g m) L))) (PH n f l q 0 (λ_=>0) 0 (Ag2 n f l q ))=true) (hp2:p2 (Ew (onP 0 p0 (JG n f l q t g i) (onP 2 p2 (KJ n f l q t g m) L))) (Hg n f l q t g 0 (Xr n f l q t g i))=true):(Az (Ak tab ⟨Ap Ly,onP 0 p0 (JG n f l q t g i) (onP 2 p2 (KJ n f l q t g m) L),Gl⟩ Tryz.f115 [EJ n l,.fn 114 [.pp (.agg [AQ n f])],iV q] [])).sem=some ((.tup [nV m,bV true]),[]):=by
 exact Ab (ks:=[kn hp0,kn hp2]) (by kernel_rfl)
end
theorem Vj (L:LT) (n:Nat) (f:Nat->E6) (l:Nat->Int) (q:Int) (hn:n <= 4611686018427387904) (ho:okP n l=true):∀ (d i:Nat) (j:Nat->V) (p:Nat),n=i+d->d<p ->
  (A3 (Jd L) (M0 n f l q) p (PH n f l q (An (λi=>isW (f i)) i) (gK l (λi=>isW (f i)) i) i j)).sem=some (JG n f l q (An (λi=>isW (f i)) n) (gK l (λi=>isW (f i)) n) n)
 | 0,i,j,p+1,h,_=>by
  have:n=i:=by omega
  subst this;exact Ae (Aiq L n f l q (An (λi=>isW (f i)) n) (gK l (λi=>isW (f i)) n) n j (A1 (Nat.le_refl _)))
 | d+1,i,j,p+1,h,h2=>by
  have hl:i<n:=by omega
  have hc:=Be (λi=>isW (f i)) i;have hc2:=Be (C4 l (λi=>isW (f i)) (l i)) i;have ht:nlt (An (λi=>isW (f i)) i) 4611686018427387904=true:=by simp only [nlt,decide_eq_true_eq]; omega
  have hf:Fr (wr .i64 (Af (gK l (λi=>isW (f i)) i (l i)) 1))=true:=by
   show Fr (wr .i64 (Af (ofNat (An (C4 l (λi=>isW (f i)) (l i)) i)) 1))=true;rw [Aq (show An (C4 l (λi=>isW (f i)) (l i)) i<n by omega) hn];exact RP (by omega)
  cases cw:isW (f i) with
  | false =>rw [Ae (Aip L n f l q (An (λi=>isW (f i)) i) (gK l (λi=>isW (f i)) i) i j (ofNat_lt hl) (Ao hl) cw),Ay,Aq hl hn,<- Am6 (l:=l) (c:=(λi=>isW (f i))) cw,<- BU (p:=(λi=>isW (f i))) cw];exact Vj L n f l q hn ho d (i+1) Aa p (by omega) (by omega)
  | true =>rw [Ae (Aio L n f l q (An (λi=>isW (f i)) i) (gK l (λi=>isW (f i)) i) i j (ofNat_lt hl) (Ao hl) cw (A0.1 ho i hl) ht hf),Ay,Aq hl hn,AbN (l:=l) (c:=(λi=>isW (f i))) (i:=i) cw hl hn,show AS (An (λi=>isW (f i)) i) 1=An (λi=>isW (f i)) (i+1) from (Bx (p:=(λi=>isW (f i))) cw).symm];exact Vj L n f l q hn ho d (i+1) Aa p (by omega) (by omega)
theorem Re (L:LT) (n:Nat) (f:Nat->E6) (l:Nat->Int) (q:Int) (t:Nat) (hn:n <= 4611686018427387904) (ho:okP n l=true):∀ (d i:Nat) (j:Nat->V) (p:Nat),n=i+d->d<p ->
  (A3 (Ew L) (Fo n f l q) p (Hg n f l q t (gK l (λi=>isW (f i)) n) i j)).sem=some (match Bg (Bd n l (λi=>isW (f i)) q) d i with
   | none=>KK n f l q t (gK l (λi=>isW (f i)) n) 0
   | some m=>KJ n f l q t (gK l (λi=>isW (f i)) n) m)
 | 0,i,j,p+1,h,_=>by
  have:n=i:=by omega
  subst this;exact Ae (AhY L n f l q t (gK l (λi=>isW (f i)) n) n j (A1 (Nat.le_refl _)))
 | d+1,i,j,p+1,h,h2=>by
  have hl:i<n:=by omega
  cases cw:isW (f i) with
  | false =>rw [Dk (show Bd n l (λi=>isW (f i)) q i=false by unfold Bd; rw [show (λi=>isW (f i)) i=false from cw]; rfl),Ae (Aib L n f l q t (gK l (λi=>isW (f i)) n) i j (ofNat_lt hl) (Ao hl) cw),Ay,Aq hl hn];exact Re L n f l q t hn ho d (i+1) Aa p (by omega) (by omega)
  | true =>
   cases cg:ilt q (gK l (λi=>isW (f i)) n (l i)) with
   | false =>rw [Dk (show Bd n l (λi=>isW (f i)) q i=false by unfold Bd; rw [show ilt q (OT n l (λi=>isW (f i)) (l i))=false from cg]; cases (λi=>isW (f i)) i <;> rfl),Ae (Aia L n f l q t (gK l (λi=>isW (f i)) n) i j (ofNat_lt hl) (Ao hl) cw (A0.1 ho i hl) cg),Ay,Aq hl hn];exact Re L n f l q t hn ho d (i+1) Aa p (by omega) (by omega)
   | true =>rw [Dj (show Bd n l (λi=>isW (f i)) q i=true by unfold Bd; rw [show ilt q (OT n l (λi=>isW (f i)) (l i))=true from cg,show (λi=>isW (f i)) i=true from cw]; rfl)];exact Ae (AhZ L n f l q t (gK l (λi=>isW (f i)) n) i j (ofNat_lt hl) (Ao hl) cw (A0.1 ho i hl) cg)
theorem Adl (n:Nat) (f:Nat->E6) (l:Nat->Int) (q:Int) (hn:n <= 4611686018427387904) (ho:okP n l=true) :
  (Az (Ak tab (AC Gl Ly [(0,M0 n f l q),(2,Fo n f l q)]) Tryz.f115 [EJ n l,.fn 114 [.pp (.agg [AQ n f])],iV q] [])).sem=some (.tup [iV (crR n l (λi=>isW (f i)) q).1,bV (crR n l (λi=>isW (f i)) q).2],[]):=by
 have hL:=AL [(0,M0 n f l q),(2,Fo n f l q)];have h0:=λL j=>Vj L n f l q hn ho n 0 j (n+1) (by omega) (by omega);have h2:=λL j=>Re L n f l q (An (λi=>isW (f i)) n) hn ho n 0 j (n+1) (by omega) (by omega);rw [Am7] at h0;unfold crR;cases c1:Bg (Bd n l (λi=>isW (f i)) q) n 0 with
 | some m =>rw [c1] at h2;exact AH (AA (AA hL hL) hL) _ (AgY _ _ _ n f l q (An (λi=>isW (f i)) n) (gK l (λi=>isW (f i)) n) n m (Au (h0 _ _)) (Au (h2 _ _)))
 | none =>rw [c1] at h2;exact AH (AA (AA hL hL) hL) _ (AgZ _ _ _ n f l q (An (λi=>isW (f i)) n) (gK l (λi=>isW (f i)) n) n 0 (Au (h0 _ _)) (Au (h2 _ _)))
def Ok (n:Nat) (l:Nat->Int) (q:Int):Lp:=⟨bmK 48 0 [0,1,2,6,7,8,14,15,16],1,bmK 48 0 [0,1,2,6,7,8],1,n+1⟩
def SI (n:Nat) (l:Nat->Int) (q:Int) (t:Nat) (g:Int->Int) (i:Nat) (j:Nat->V):St:=⟨jsV 48 0 j [(0,.sl 1 n (λk=>iV (l k))),(1,.fn 117 []),(2,iV q),(6,iV 0),(7,bV false),(8,.ref 0),(14,.sl 1 n (λk=>iV (l k))),(15,nV n),(16,nV i)],[.imap 139 t g]⟩
def JH (n:Nat) (l:Nat->Int) (q:Int) (t:Nat) (g:Int->Int) (i:Nat):Ex×St:=(.ex 0,⟨jsV 48 0 Aa [(0,.sl 1 n (λk=>iV (l k))),(1,.fn 117 []),(2,iV q),(6,iV 0),(7,bV false),(8,.ref 0)],[.imap 139 t g]⟩)
noncomputable def KY (L:LT):St->T (Ex×St):=λst=>A7 tab ⟨Ap Ly,L,Gl⟩ (Ar Tryz.f115 0) 0 st
section
variable (L:LT) (n:Nat) (l:Nat->Int) (q:Int) (t:Nat) (g:Int->Int) (i:Nat)  (j:Nat->V)
include L n l q t g i j
theorem Ais (h0:ilt (ofNat i) (ofNat n)=false):Ah (KY L) (Ok n l q) (SI n l q t g i j)=some ((.ex 0),⟨jsV 48 0 Aa [(0,.sl 1 n (λk=>iV (l k))),(1,.fn 117 []),(2,iV q),(6,iV 0),(7,bV false),(8,.ref 0)],[.imap 139 t g]⟩):=by
 exact Ab (ks:=[kn h0]) (by kernel_rfl)
theorem Air (h0:ilt (ofNat i) (ofNat n)=true) (h1:Al (ile 0 (ofNat i)) (ilt (ofNat i) (ofNat n))=true) (h3:Fr (l i)=true) (h2:nlt t 4611686018427387904=true) (h4:Fr (wr .i64 (Af (g (l i)) 1))=true):Ah (KY L) (Ok n l q) (SI n l q t g i j)=some (.nm,⟨jsV 48 0 Aa [(0,.sl 1 n (λk=>iV (l k))),(1,.fn 117 []),(2,iV q),(6,iV 0),(7,bV false),(8,.ref 0),(14,.sl 1 n (λk=>iV (l k))),(15,nV n),(16,iV (wr .i64 (Af (ofNat i) 1)))],[.imap 139 (AS t 1) (λz=>sel (ieq z (l i)) (wr .i64 (Af (g (l i)) 1)) (g z))]⟩):=by
 exact Ab (ks:=[kn h0,kn h1,kT,kn h3,kn h2,kn h3,kn h4]) (by kernel_rfl)
end
def Ag3 (n:Nat) (l:Nat->Int) (q:Int) :Nat->V:=lkV A9 [(13,.ref 0)]
def Gh (n:Nat) (l:Nat->Int) (q:Int):Lp:=⟨bmK 48 0 [1,2,6,7,8,29,30,31],1,bmK 48 0 [6,7],0,n+1⟩
def IB (n:Nat) (l:Nat->Int) (q:Int) (t:Nat) (g:Int->Int) (i:Nat) (j:Nat->V):St:=⟨jsV 48 0 j [(1,.fn 117 []),(2,iV q),(6,iV 0),(7,bV false),(8,.ref 0),(29,.sl 1 n (λk=>iV (l k))),(30,nV n),(31,nV i)],[.imap 139 t g]⟩
def KM (n:Nat) (l:Nat->Int) (q:Int) (t:Nat) (g:Int->Int) (i:Nat):Ex×St:=(.ex 2,⟨jsV 48 0 Aa [(6,iV 0),(7,bV false)],[]⟩)
def KL (n:Nat) (l:Nat->Int) (q:Int) (t:Nat) (g:Int->Int) (i:Nat):Ex×St:=(.rt,⟨jsV 48 0 Aa [(6,nV i),(7,bV true)],[]⟩)
noncomputable def F0 (L:LT):St->T (Ex×St):=λst=>A7 tab ⟨Ap Ly,L,Gl⟩ (Ar Tryz.f115 2) 2 st
section
variable (L:LT) (n:Nat) (l:Nat->Int) (q:Int) (t:Nat) (g:Int->Int) (i:Nat)  (j:Nat->V)
include L n l q t g i j
theorem Aic (h0:ilt (ofNat i) (ofNat n)=false):Ah (F0 L) (Gh n l q) (IB n l q t g i j)=some ((.ex 2),⟨jsV 48 0 Aa [(6,iV 0),(7,bV false)],[]⟩):=by
 exact Ab (ks:=[kn h0]) (by kernel_rfl)
theorem Aie (h0:ilt (ofNat i) (ofNat n)=true) (h1:Al (ile 0 (ofNat i)) (ilt (ofNat i) (ofNat n))=true) (h2:Fr (l i)=true) (h3:ilt q (g (l i))=false):Ah (F0 L) (Gh n l q) (IB n l q t g i j)=some (.nm,⟨jsV 48 0 Aa [(1,.fn 117 []),(2,iV q),(6,iV 0),(7,bV false),(8,.ref 0),(29,.sl 1 n (λk=>iV (l k))),(30,nV n),(31,iV (wr .i64 (Af (ofNat i) 1)))],[.imap 139 t g]⟩):=by
 exact Ab (ks:=[kn h0,kn h1,kT,kT,kT,kn h2,kT,kT,kT,kn h3]) (by kernel_rfl)
theorem Aid (h0:ilt (ofNat i) (ofNat n)=true) (h1:Al (ile 0 (ofNat i)) (ilt (ofNat i) (ofNat n))=true) (h2:Fr (l i)=true) (h3:ilt q (g (l i))=true):Ah (F0 L) (Gh n l q) (IB n l q t g i j)=some (.rt,⟨jsV 48 0 Aa [(6,nV i),(7,bV true)],[]⟩):=by
 exact Ab (ks:=[kn h0,kn h1,kT,kT,kT,kn h2,kT,kT,kT,kn h3]) (by kernel_rfl)
end
def Xs (n:Nat) (l:Nat->Int) (q:Int) (t:Nat) (g:Int->Int) (i:Nat):Nat->V:=lkU 281471218613816 [(0,.sl 1 n (λk=>iV (l k)))]
section
variable (L:LT) (p0:PT) (p2:PT) (n:Nat) (l:Nat->Int) (q:Int) (t:Nat) (g:Int->Int) (i m:Nat)
include L p0 p2 n l q t g i m
theorem Ahb  (hp0:p0 (KY (onP 0 p0 (JH n l q t g i) (onP 2 p2 (KM n l q t g m) L))) (SI n l q 0 (λ_=>0) 0 (Ag3 n l q ))=true) (hp2:p2 (F0 (onP 0 p0 (JH n l q t g i) (onP 2 p2 (KM n l q t g m) L))) (IB n l q t g 0 (Xs n l q t g i))=true):(Az (Ak tab ⟨Ap Ly,onP 0 p0 (JH n l q t g i) (onP 2 p2 (KM n l q t g m) L),Gl⟩ Tryz.f115 [EJ n l,.fn 117 [],iV q] [])).sem=some ((.tup [iV 0,bV false]),[]):=by
 exact Ab (ks:=[kn hp0,kn hp2]) (by kernel_rfl)
theorem Aha  (hp0:p0 (KY (onP 0 p0 (JH n l q t g i) (onP 2 p2 (KL n l q t g m) L))) (SI n l q 0 (λ_=>0) 0 (Ag3 n l q ))=true) (hp2:p2 (F0 (onP 0 p0 (JH n l q t g i) (onP 2 p2 (KL n l q t g m) L))) (IB n l q t g 0 (Xs n l q t g i))=true):(Az (Ak tab ⟨Ap Ly,onP 0 p0 (JH n l q t g i) (onP 2 p2 (KL n l q t g m) L),Gl⟩ Tryz.f115 [EJ n l,.fn 117 [],iV q] [])).sem=some ((.tup [nV m,bV true]),[]):=by
 exact Ab (ks:=[kn hp0,kn hp2]) (by kernel_rfl)
end
theorem Aat (L:LT) (n:Nat) (l:Nat->Int) (q:Int) (hn:n <= 4611686018427387904) (ho:okP n l=true):∀ (d i:Nat) (j:Nat->V) (p:Nat),n=i+d->d<p ->
  (A3 (KY L) (Ok n l q) p (SI n l q (An (λ_=>true) i) (gK l (λ_=>true) i) i j)).sem=some (JH n l q (An (λ_=>true) n) (gK l (λ_=>true) n) n)
 | 0,i,j,p+1,h,_=>by
  have:n=i:=by omega
  subst this;exact Ae (Ais L n l q (An (λ_=>true) n) (gK l (λ_=>true) n) n j (A1 (Nat.le_refl _)))
 | d+1,i,j,p+1,h,h2=>by
  have hl:i<n:=by omega
  have hc:=Be (λ_=>true) i;have hc2:=Be (C4 l (λ_=>true) (l i)) i;have ht:nlt (An (λ_=>true) i) 4611686018427387904=true:=by simp only [nlt,decide_eq_true_eq]; omega
  have hf:Fr (wr .i64 (Af (gK l (λ_=>true) i (l i)) 1))=true:=by
   show Fr (wr .i64 (Af (ofNat (An (C4 l (λ_=>true) (l i)) i)) 1))=true;rw [Aq (show An (C4 l (λ_=>true) (l i)) i<n by omega) hn];exact RP (by omega)
  rw [Ae (Air L n l q (An (λ_=>true) i) (gK l (λ_=>true) i) i j (ofNat_lt hl) (Ao hl) (A0.1 ho i hl) ht hf),Ay,Aq hl hn,AbN (l:=l) (c:=(λ_=>true)) (i:=i) rfl hl hn,show AS (An (λ_=>true) i) 1=An (λ_=>true) (i+1) from (Bx (p:=(λ_=>true)) rfl).symm];exact Aat L n l q hn ho d (i+1) Aa p (by omega) (by omega)
theorem WL (L:LT) (n:Nat) (l:Nat->Int) (q:Int) (t:Nat) (hn:n <= 4611686018427387904) (ho:okP n l=true):∀ (d i:Nat) (j:Nat->V) (p:Nat),n=i+d->d<p ->
  (A3 (F0 L) (Gh n l q) p (IB n l q t (gK l (λ_=>true) n) i j)).sem=some (match Bg (Bd n l (λ_=>true) q) d i with
   | none=>KM n l q t (gK l (λ_=>true) n) 0
   | some m=>KL n l q t (gK l (λ_=>true) n) m)
 | 0,i,j,p+1,h,_=>by
  have:n=i:=by omega
  subst this;exact Ae (Aic L n l q t (gK l (λ_=>true) n) n j (A1 (Nat.le_refl _)))
 | d+1,i,j,p+1,h,h2=>by
  have hl:i<n:=by omega
  cases cg:ilt q (gK l (λ_=>true) n (l i)) with
  | false =>rw [Dk (show Bd n l (λ_=>true) q i=false by unfold Bd; rw [show ilt q (OT n l (λ_=>true) (l i))=false from cg]; cases (λ_=>true) i <;> rfl),Ae (Aie L n l q t (gK l (λ_=>true) n) i j (ofNat_lt hl) (Ao hl) (A0.1 ho i hl) cg),Ay,Aq hl hn];exact WL L n l q t hn ho d (i+1) Aa p (by omega) (by omega)
  | true =>rw [Dj (show Bd n l (λ_=>true) q i=true by unfold Bd; rw [show ilt q (OT n l (λ_=>true) (l i))=true from cg,show (λ_=>true) i=true from rfl]; rfl)];exact Ae (Aid L n l q t (gK l (λ_=>true) n) i j (ofNat_lt hl) (Ao hl) (A0.1 ho i hl) cg)
theorem Adm (n:Nat) (l:Nat->Int) (q:Int) (hn:n <= 4611686018427387904) (ho:okP n l=true) :
  (Az (Ak tab (AC Gl Ly [(0,Ok n l q),(2,Gh n l q)]) Tryz.f115 [EJ n l,.fn 117 [],iV q] [])).sem=some (.tup [iV (crR n l (λ_=>true) q).1,bV (crR n l (λ_=>true) q).2],[]):=by
 have hL:=AL [(0,Ok n l q),(2,Gh n l q)];have h0:=λL j=>Aat L n l q hn ho n 0 j (n+1) (by omega) (by omega);have h2:=λL j=>WL L n l q (An (λ_=>true) n) hn ho n 0 j (n+1) (by omega) (by omega);rw [Am7] at h0;unfold crR;cases c1:Bg (Bd n l (λ_=>true) q) n 0 with
 | some m =>rw [c1] at h2;exact AH (AA (AA hL hL) hL) _ (Aha _ _ _ n l q (An (λ_=>true) n) (gK l (λ_=>true) n) n m (Au (h0 _ _)) (Au (h2 _ _)))
 | none =>rw [c1] at h2;exact AH (AA (AA hL hL) hL) _ (Ahb _ _ _ n l q (An (λ_=>true) n) (gK l (λ_=>true) n) n 0 (Au (h0 _ _)) (Au (h2 _ _)))
def Wp:List V->AR
 | [u,.fn 114 [.pp (.agg [v])],.val (.int .i64 q)]=>apI u λm l=>apL v λn f=>.br (AE n m) (.br (Aj n) (.br (okP m l) (out (.tup [iV (crR m l (λi=>isW (f i)) q).1,bV (crR m l (λi=>isW (f i)) q).2])) .fail) .fail) .fail
 | [u,.fn 117 [],.val (.int .i64 q)]=>apI u λm l=>.br (Aj m) (.br (okP m l) (out (.tup [iV (crR m l (λ_=>true) q).1,bV (crR m l (λ_=>true) q).2])) .fail) .fail
 | _=>.fail
theorem p91:Ax Tryz.prog Gl 115 Wp:=by
 refine Am A8 mixed Tryz.func115 (by kernel_rfl) (by kernel_rfl) λvs v h' h=>?_;unfold Wp at h;split at h
 ·rename_i u1 v1 q
  obtain ⟨m,l,ha,h1⟩:=He h;obtain ⟨n,f,hb,h2⟩:=Cl h1;obtain ⟨hm,h3⟩:=Ad h2;obtain ⟨hn,h4⟩:=Ad h3;obtain ⟨ho,hq⟩:=Ad h4;have hm:n=m:=Nat.eq_of_beq_eq_true hm;subst hm;have:=Ac hq;simp only [Prod.mk.injEq] at this;obtain ⟨rfl,rfl⟩:=this;have hn:n <= 4611686018427387904:=of_decide_eq_true hn;have hA:Bf [u1,.fn 114 [.pp (.agg [v1])],.val (.int .i64 q)] [EJ n l,.fn 114 [.pp (.agg [AQ n f])],iV q]:=λS w cs hv=>by
   obtain ⟨c,l1,rfl,q1,c2,l2,rfl,⟨ca,q4,c5,l5,q5,q6,q7⟩,q3⟩:=hv;exact ⟨c,_,rfl,ha S w c q1,c2,l2,rfl,⟨ca,q4,c5,l5,q5,Agk hb S w noK c5 q6,q7⟩,q3⟩
  have hx:=AI WC [(0,M0 n f l q),(2,Fo n f l q)];exact ⟨_,AC Gl Ly [(0,M0 n f l q),(2,Fo n f l q)],_,hA,rfl,hx.1,hx.2,Adl n f l q hn ho,Aw.refl _⟩
 ·rename_i u1 q
  obtain ⟨n,l,ha,h1⟩:=He h;obtain ⟨hn,h4⟩:=Ad h1;obtain ⟨ho,hq⟩:=Ad h4;have:=Ac hq;simp only [Prod.mk.injEq] at this;obtain ⟨rfl,rfl⟩:=this;have hn:n <= 4611686018427387904:=of_decide_eq_true hn;have hA:Bf [u1,.fn 117 [],.val (.int .i64 q)] [EJ n l,.fn 117 [],iV q]:=λS w cs hv=>by
   obtain ⟨c,l1,rfl,q1,q3⟩:=hv;exact ⟨c,_,rfl,ha S w c q1,q3⟩
  have hx:=AI WC [(0,Ok n l q),(2,Gh n l q)];exact ⟨_,AC Gl Ly [(0,Ok n l q),(2,Gh n l q)],_,hA,rfl,hx.1,hx.2,Adm n l q hn ho,Aw.refl _⟩
 ·cases h
end Go.Proofs.YtkgdhhieomndeaaGreatDoor.Ed
namespace Go.Sy
inductive DT (α:Type) where
 | lf (a:α)
 | fl
 | kn (b c:Bool) (d:DT α)
 | ak (o:Option (Ex×St)) (r:Ex×St) (d:DT α)
 | sp (d e:DT α)
def DT.cs {α:Type}:DT α->List Bool
 | .lf _=>[]
 | .fl=>[]
 | .kn b _ d=>b::d.cs
 | .ak _ _ d=>d.cs
 | .sp d e=>d.cs++e.cs
def DT.os {α:Type}:DT α->List (Option (Ex×St))
 | .lf _=>[]
 | .fl=>[]
 | .kn _ _ d=>d.os
 | .ak o _ d=>o::d.os
 | .sp d e=>d.os++e.os
def DT.ls {α:Type}:DT α->List α
 | .lf a=>[a]
 | .fl=>[]
 | .kn _ _ d=>d.ls
 | .ak _ _ d=>d.ls
 | .sp d e=>d.ls++e.ls
def DT.run {α:Type}:DT α->T α->Option (List Bool×List (Option (Ex×St))×List α)
 | .lf _,.leaf a=>some ([],[],[a])
 | .fl,_=>some ([],[],[])
 | .kn _ c d,.br b x y=>match (match c with | true=>d.run x | false=>d.run y) with
  | some (cs,os,ls)=>some (b::cs,os,ls)
  | none=>none
 | .ak _ r d,.ask o k=>match d.run (k r) with
  | some (cs,os,ls)=>some (cs,o::os,ls)
  | none=>none
 | .sp d e,t=>match d.run t,e.run t with
  | some (cs,os,ls),some (cs',os',ls')=>some (cs++cs',os++os',ls++ls')
  | _,_=>none
 | _,_=>none
inductive DK {α β:Type} (L:β->α):T β->DT α->Prop where
 | e {a:β} {b:α} (h:b=L a):DK L (.leaf a) (.lf b)
 | f:DK L .fail .fl
 | k {C:T β} {b c:Bool} {d:DT α} (h:b=c) (w:DK L C d):DK L C (.kn b c d)
 | a {C:T β} {o:Option (Ex×St)} {r:Ex×St} {d:DT α} (h:o=some r) (w:DK L C d):DK L C (.ak o r d)
 | c {b:Bool} {X Y:T β} {d e:DT α} (w:b=true->DK L X d) (u:b=false->DK L Y e):DK L (.br b X Y) (.sp d e)
 | g {b:Bool} {X:T β} {d:DT α} (w:b=true->DK L X d):DK L (.br b X .fail) d
def DT.knR {α:Type}:Nat->Bool->Bool->DT α->DT α
 | 0,_,_,d=>d
 | n+1,b,c,d=>.kn b c (knR n b c d)
theorem DK.r {α β:Type} {L:β->α} {C:T β} {b c:Bool} {d:DT α} (n:Nat) (h:b=c) (w:DK L C d):DK L C (DT.knR n b c d):=by
 induction n with
 | zero=>exact w
 | succ n ih=>exact .k h ih
theorem DK.l {α β:Type} {L:β->α} {a:β}:DK L (.leaf a) (.lf (L a)):=.e rfl
theorem DT.run_len {α:Type} {d:DT α}:∀ {t:T α} {cs:List Bool} {os:List (Option (Ex×St))} {ls:List α},d.run t=some (cs,os,ls)->cs.length=d.cs.length∧os.length=d.os.length∧ls.length=d.ls.length:=by
 induction d with
 | lf a =>intro t cs os ls h;cases t <;> cases h;exact ⟨rfl,rfl,rfl⟩
 | fl=>intro t cs os ls h; simp only [DT.run] at h; cases h; exact ⟨rfl,rfl,rfl⟩
 | kn b c d ih =>
  intro t cs os ls h;cases t with
  | br b' x y =>
   simp only [DT.run] at h;split at h
   ·rename_i cs' os' ls' hr
    cases h;cases c <;> (obtain ⟨e1,e2⟩:=ih hr; exact ⟨congrArg Nat.succ e1,e2⟩)
   ·cases h
  | _=>cases h
 | ak o r d ih =>
  intro t cs os ls h;cases t with
  | ask o' k =>
   simp only [DT.run] at h;split at h
   ·rename_i hr
    cases h;obtain ⟨e1,e2,e3⟩:=ih hr;exact ⟨e1,congrArg Nat.succ e2,e3⟩
   ·cases h
  | _=>cases h
 | sp d e ih ih' =>
  intro t cs os ls h;simp only [DT.run] at h;split at h
  ·rename_i hx hy
   cases h;obtain ⟨e1,e2,e3⟩:=ih hx;obtain ⟨f1,f2,f3⟩:=ih' hy;simp only [DT.cs,DT.os,DT.ls,List.length_append,e1,e2,e3,f1,f2,f3,and_self]
  ·cases h
theorem DK.ok {α β:Type} {L:β->α} {C:T β} {d:DT α} (w:DK L C d):∀ {t:T α},d.run t=some (d.cs,d.os,d.ls)->∀ {r:β},C.sem=some r->t.sem=some (L r):=by
 induction w with
 | e hab =>
  intro t h r hr;cases t with
  | leaf b =>simp only [DT.run,DT.cs,DT.os,DT.ls,Option.some.injEq,Prod.mk.injEq,List.cons.injEq,and_true,true_and] at h;subst h;rw [hab];exact congrArg (λo=>o.map L) hr
  | _=>cases h
 | f=>intro t h r hr; cases hr
 | k hb w ih =>
  rename_i C b c d;intro t h r hr;cases t with
  | br b' x y =>
   simp only [DT.run] at h;split at h
   ·rename_i hx
    simp only [DT.cs,DT.os,DT.ls,Option.some.injEq,Prod.mk.injEq,List.cons.injEq] at h;obtain ⟨⟨rfl,rfl⟩,rfl,rfl⟩:=h;subst hb;cases b' with
    | true=>exact ih hx hr
    | false=>exact ih hx hr
   ·cases h
  | _=>cases h
 | a ho w ih =>
  rename_i C o q d;intro t h r hr;cases t with
  | ask o' k =>
   simp only [DT.run] at h;split at h
   ·rename_i hx
    simp only [DT.cs,DT.os,DT.ls,Option.some.injEq,Prod.mk.injEq,List.cons.injEq] at h;obtain ⟨rfl,⟨rfl,rfl⟩,rfl⟩:=h;subst ho;exact ih hx hr
   ·cases h
  | _=>cases h
 | c w u ih ih' =>
  rename_i b X Y d e;intro t h r hr;simp only [DT.run] at h;split at h
  ·rename_i hx hy
   simp only [DT.cs,DT.os,DT.ls,Option.some.injEq,Prod.mk.injEq] at h;obtain ⟨hc,ho,hl⟩:=h;obtain ⟨e1,e2,e3⟩:=DT.run_len hx;obtain ⟨rfl,rfl⟩:=List.append_inj hc e1;obtain ⟨rfl,rfl⟩:=List.append_inj ho e2;obtain ⟨rfl,rfl⟩:=List.append_inj hl e3;cases hb:b with
   | true=>rw [hb] at hr; exact ih hb hx hr
   | false=>rw [hb] at hr; exact ih' hb hy hr
  ·cases h
 | g w ih =>intro t h r hr;obtain ⟨hb,hr⟩:=Ad hr;exact ih hb h hr
theorem DK.of {α:Type} {C t:T α} {r:α} (h:C.sem=some r) {d:DT α} (w:DK (λa=>a) C d) (e:d.run t=some (d.cs,d.os,d.ls)):t.sem=some r:=w.ok e h
def Cy {σ ρ:Type} (g:Nat->σ->T (σ ⊕ ρ)) (fin:σ->ρ):Nat->Nat->σ->Option ρ
 | 0,_,a=>some (fin a)
 | d+1,i,a=>match (g i a).sem with
  | some (.inl b)=>Cy g fin d (i+1) b
  | some (.inr e)=>some e
  | none=>none
def goR {σ ρ:Type} (S:Int->σ->(Nat->V)->St) (R:ρ->Ex×St) (i:Nat):σ ⊕ ρ->Ex×St
 | .inl b=>(.nm,S (wr .i64 (Af (Int.ofNat i) 1)) b λ_=>.und)
 | .inr e=>R e
theorem MQ {i n:Nat} (h:i<n) (hn:n <= 4611686018427387904):wr .i64 (Af (Int.ofNat i) 1)=Int.ofNat (i+1):=by
 unfold wr Af IntKind.wrap;simp [IntKind.bits,IntKind.signed];omega
theorem Cd {σ ρ:Type} {f:St->T (Ex×St)} {lp:Lp} {S:Int->σ->(Nat->V)->St} {R:ρ->Ex×St} (hR:∀ e,(R e).1 ≠ .nm) {n:Nat} (hn:n <= 4611686018427387904) {g:Nat->σ->T (σ ⊕ ρ)} {fin:σ->ρ}
  (h:∀ i a j r,i<n->(g i a).sem=some r->Ah f lp (S (Int.ofNat i) a j)=some (goR S R i r)) (h0:∀ a j,Ah f lp (S (Int.ofNat n) a j)=some (R (fin a))) :
  ∀ {d i:Nat} {a:σ} {j:Nat->V} {q:Nat} {e:ρ},n=i+d->d<q->Cy g fin d i a=some e->(A3 f lp q (S (Int.ofNat i) a j)).sem=some (R e):=by
 have stop:∀ {o:Nat} {e:ρ},AbK f lp o (some (R e))=some (R e):=fun {o e}=>by
  have:=hR e;cases hr:R e with
  | mk x s =>rw [hr] at this;cases x <;> first | exact absurd rfl this | rfl
 intro d
 induction d with
 | zero =>
  intro i a j q e hi hq he;obtain ⟨q,rfl⟩:∃ o,q=o+1:=⟨q-1,by omega⟩;obtain rfl:n=i:=by omega
  simp only [Cy,Option.some.injEq] at he;rw [Ae (h0 a j),stop,he]
 | succ d ih =>
  intro i a j q e hi hq he;obtain ⟨q,rfl⟩:∃ o,q=o+1:=⟨q-1,by omega⟩;simp only [Cy] at he;split at he
  ·rename_i b hb
   rw [Ae (h i a j _ (by omega) hb)];show (A3 f lp q (S (wr .i64 (Af (Int.ofNat i) 1)) b λ_=>.und)).sem=_;rw [MQ (show i<n by omega) hn];exact ih (by omega) (by omega) he
  ·rename_i b hb
   rw [Ae (h i a j _ (by omega) hb)];simp only [Option.some.injEq] at he;subst he;exact stop
  ·cases he
def nzE:Ex->Ex
 | .nm=>.rt
 | e=>e
def exR (e:Ex×St):Ex×St:=(nzE e.1,e.2)
theorem Dx (e:Ex×St):(exR e).1 ≠ .nm:=by
 obtain ⟨x,s⟩:=e;cases x <;> exact λh=>by cases h
def X5 (st:St):List (Nat×(Nat->V))->St
 | []=>st
 | (id,g)::l=>X5 (match st.h[id]? with
   | some (.row e s 0 _)=>⟨st.t,st.h.set id (.row e s 0 g)⟩
   | _=>st) l
theorem U3 {Γ:Cx0}:∀ (l:List (Nat×(Nat->V))) (st:St),LE Γ st (X5 st l)
 | [],st=>LE.refl st
 | (id,g)::l,st=>by
   refine LE.trans ?_ (U3 l _);split
   ·rename_i hb
    exact Fe hb λj hj=>absurd hj (Nat.not_lt_zero _)
   ·exact LE.refl st
def askL (ls:List (Nat×Lp×List (Nat×(Nat->V)))) (id:Nat) (f:St->T (Ex×St)) (st:St):T (Ex×St) :=
 match Kz id ls with
 | some (l,z)=>.ask (A3 f l l.fuel (X5 (Jk l.ks l.n st) z)).sem .leaf
 | none=>.fail
def cxA (G:Nat->V) (tbl:AP) (ls:List (Nat×Lp×List (Nat×(Nat->V)))):Cx:=⟨Ap tbl,askL ls,G⟩
theorem FK {P:Program} {G:Nat->V} {tbl:AP} (h:Av P G tbl) (ls:List (Nat×Lp×List (Nat×(Nat->V)))):Bo P (cxA G tbl ls).base∧BQ (cxA G tbl ls):=by
 refine ⟨D3 rfl h,λid f st r hr=>?_⟩;have hr:(askL ls id f st).sem=some r:=hr;unfold askL at hr;split at hr
 ·rename_i l z _
  cases hi:(A3 f l l.fuel (X5 (Jk l.ks l.n st) z)).sem with
  | none=>rw [hi] at hr; cases hr
  | some r' =>rw [hi] at hr;cases hr;exact .weak ((JW _ _ _).trans (U3 _ _)) (Es hi)
 ·cases hr
theorem Anc {v v':V} {l:List V} (h:∀ (S:Nat->Prop) (w:World) (u:Value),VR S w v noK u->VR S w v' noK u):Bf (v::l) (v'::l):=λS w cs hv=>by
 obtain ⟨c,m,e,q1,q2⟩:=hv;exact ⟨c,m,e,h S w c q1,q2⟩
theorem eN {b c:Bool} (h:b=c):A6 b=A6 c:=congrArg A6 h
theorem eT:true=true:=rfl
theorem eF:false=false:=rfl
theorem eI (x:Int):ieq x x=true:=by simp [ieq]
theorem eJ (n:Nat):AE n n=true:=Nat.beq_refl n
theorem eG:∀ l:List Nat,Bv (l.map λn=>.jag ⟨0,0,n,λ_=>.und,0,0,0,λ_=>true,λ_=>0,λ_ _=>.und⟩)=true
 | []=>rfl
 | n::l=>by simpa [Bv] using eG l
theorem eR:∀ l:List (Nat×Option (Nat->Nat)),BC (l.map λp=>match p.2 with
  | none=>.row 0 0 p.1 λ_=>iV 0
  | some f=>.jag ⟨0,1,p.1,λ_=>.und,0,0,0,λ_=>true,f,λ_ _=>iV 0⟩)=true
 | []=>rfl
 | (n,none)::l=>by
   have:=eR l;simp only [List.map_cons,BC,this,Bool.and_true,List.all_eq_true];exact λ_ _=>rfl
 | (n,some f)::l=>by
   have:=eR l;simp only [List.map_cons,BC,this,Bool.and_true,List.all_eq_true,Bool.and_eq_true];exact λ_ _=>⟨rfl,λ_ _=>rfl⟩
end Go.Sy
namespace Go.Proofs.YtkgdhhieomndeaaGreatDoor.Ed
open Go.Sy Go
theorem eL (n:Nat):AB n (λ_=>true)=true:=A0.2 λ_ _=>rfl
theorem eL2 (q:Nat) (C:Nat->Nat×(Nat->Int)):(AB q λi=>AB (C i).1 λ_=>true)=true:=A0.2 λ_ _=>eL _
theorem V5 {i n:Nat} (h:i<n):ieq (Int.ofNat n) 0=false:=by simp [ieq]; omega
section
variable {σ ρ:Type} {g:Nat->σ->T (σ ⊕ ρ)} {fin:σ->ρ} {p:Nat->Bool} {a:σ} {x:ρ} {n:Nat} (hc:∀ i,i<n->(g i a).sem=sel (p i) (some (.inl a)) (some (.inr x)))
include hc
theorem O6:∀ d i,i+d=n->(∀ k,k<i->p k=true)->Cy g fin d i a=some (sel (AB n p) (fin a) x)
 | 0,i,h,hb=>by
  rw [show AB n p=true from A0.2 λk hk=>hb k (by omega)];rfl
 | d+1,i,h,hb=>by
  rw [Cy,hc i (by omega)];cases hp:p i with
  | true =>
   exact O6 d (i+1) (by omega) λk hk=>by
    by_cases e:k=i
    ·rw [e]; exact hp
    ·exact hb k (by omega)
  | false =>
   cases ha:AB n p with
   | false=>rfl
   | true =>have:=A0.1 ha i (by omega);rw [hp] at this;cases this
theorem Pe (h:AB n p=true):Cy g fin n 0 a=some (fin a):=by
 rw [O6 hc n 0 (Nat.zero_add n) λ_ h=>absurd h (Nat.not_lt_zero _),h];rfl
theorem Pf (h:AB n p=false):Cy g fin n 0 a=some x:=by
 rw [O6 hc n 0 (Nat.zero_add n) λ_ h=>absurd h (Nat.not_lt_zero _),h];rfl
end
end Go.Proofs.YtkgdhhieomndeaaGreatDoor.Ed
