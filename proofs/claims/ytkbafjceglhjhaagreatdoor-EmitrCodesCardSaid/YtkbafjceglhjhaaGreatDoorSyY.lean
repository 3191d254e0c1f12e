/-
  crowded: the first event whose part has too many. No conditions.
-/
import Derived.Test.YtkbafjceglhjhaaGreatDoorCyQ
import Derived.Test.YtkbafjceglhjhaaGreatDoorCyA
namespace Go.Proofs.YtkbafjceglhjhaaGreatDoor.Ed
open Go.Sy
open Int (ofNat)
theorem AgO {v u:V} (h:∀ (S:Nat->Prop) (w:World) (c:Value),VR S w v noK c->VR S w u noK c) (S:Nat->Prop) (w:World) (κ:Ar) (c:Value) (hv:VR S w (.pp (.agg [v])) κ c):VR S w (.pp (.agg [u])) κ c:=by
 obtain ⟨b,o,cv,q1,⟨ca,q2,a,l',q3,q4,q5⟩,q6⟩:=hv;exact ⟨b,o,cv,q1,⟨ca,q2,a,l',q3,h S w a q4,q5⟩,q6⟩
def Ake:List V->A3
 | [.val (.int .i64 i),.pp (.agg [v])]=>apL v λn f=>.br (Aj (ile 0 i) (ilt i (ofNat n))) (out (bV (isW (f (toN i))))) .fail
 | _=>.fail
def ZI:List V->A3
 | [.val (.int .i64 _)]=>out (bV true)
 | _=>.fail
theorem p90:An Tryz.prog Gl 173 Ake:=by
 refine Al A2 mixed Tryz.func173 (by kernel_rfl) (by kernel_rfl) λvs v h' h=>?_;unfold Ake at h;split at h
 ·rename_i i u
  obtain ⟨n,f,ha,h1⟩:=Cz h;obtain ⟨hi,hq⟩:=Ac h1;have:=Aa hq;simp only [Prod.mk.injEq] at this;obtain ⟨rfl,rfl⟩:=this;have hA:Bz [.val (.int .i64 i),.pp (.agg [u])] [iV i,.pp (.agg [AL n f])]:=λS w cs hv=>by
   obtain ⟨c,l,rfl,q1,c2,l2,rfl,q2,q3⟩:=hv;exact ⟨c,_,rfl,q1,c2,l2,rfl,AgO ha S w noK c2 q2,q3⟩
  have hx:=Bq BS [];exact ⟨_,AP Gl tb0 [],_,hA,rfl,hx.1,hx.2,Ad (ks:=[kn hi]) (by kernel_rfl)/-W:wc90-/,Ap.refl _⟩
 ·cases h
theorem p93:An Tryz.prog Gl 176 ZI:=by
 refine Al A2 mixed Tryz.func176 (by kernel_rfl) (by kernel_rfl) λvs v h' h=>?_;unfold ZI at h;split at h
 ·have:=Aa h
  simp only [Prod.mk.injEq] at this;obtain ⟨rfl,rfl⟩:=this;have hx:=Bq BS [];exact ⟨_,AP Gl tb0 [],_,Bz.refl _,rfl,hx.1,hx.2,Ad (ks:=[]) (by kernel_rfl)/-W:wc93-/,Ap.refl _⟩
 ·cases h
noncomputable def Lv:A9:=(173,Ake)::(176,ZI)::[]
theorem WE:Ao Tryz.prog Gl Lv:=.cons p90 <| .cons p93 .nil
def gK (l:Nat->Int) (c:Nat->Bool) (i:Nat) (x:Int):Int:=ofNat (Ak (CG l c x) i)
theorem AnG (l:Nat->Int) (c:Nat->Bool):gK l c 0=λ_=>0:=rfl
theorem AnF {l:Nat->Int} {c:Nat->Bool} {i:Nat} (h:c i=false):gK l c (i+1)=gK l c i:=by
 funext x;unfold gK;rw [BZ];rw [CG,h];cases ieq (l i) x <;> rfl
theorem Acf {l:Nat->Int} {c:Nat->Bool} {i n:Nat} (h:c i=true) (hi:i<n) (hn:n <= 4611686018427387904):(λk=>sel (ieq k (l i)) (wr .i64 (Ah (gK l c i (l i)) 1)) (gK l c i k))=gK l c (i+1):=by
 funext x;by_cases hx:x=l i
 ·subst hx
  have h1:ieq (l i) (l i)=true:=by simp [ieq]
  rw [h1];show wr .i64 (Ah (ofNat (Ak (CG l c (l i)) i)) 1)=_;have:=BK (CG l c (l i)) i;rw [A1 (show Ak (CG l c (l i)) i<n by omega) hn];unfold gK;rw [BH (show CG l c (l i) i=true by rw [CG,h,h1]; rfl)]
 ·have h1:ieq x (l i)=false:=by simp [ieq,hx]
  rw [h1];show gK l c i x=_;unfold gK;rw [BZ (show CG l c x i=false by rw [CG,show ieq (l i) x=false by simp [ieq]; omega]; rfl)]
theorem Sg {a:Nat} (h:a <= 4611686018427387904):DR (ofNat a)=true:=by
 simp only [DR,Bool.and_eq_true,decide_eq_true_eq,Int.ofNat_eq_natCast];omega
def okP (n:Nat) (l:Nat->Int):Bool:=Bi n λi=>DR (l i)
def Ba (n:Nat) (l:Nat->Int) (c:Nat->Bool) (q:Int) (i:Nat):Bool:=Aj (c i) (ilt q (OU n l c (l i)))
def crR (n:Nat) (l:Nat->Int) (c:Nat->Bool) (q:Int):Int×Bool :=
 match AO (Ba n l c q) n 0 with
 | some t=>(ofNat t,true)
 | none=>(0,false)
def M1 (n:Nat) (_:Nat->E6) (_:Nat->Int) (_:Int):Lp:=⟨bmK 48 0 [0,1,2,6,7,8,14,15,16],1,bmK 48 0 [0,1,2,6,7,8],1,n+1⟩
def PP (n:Nat) (f:Nat->E6) (l:Nat->Int) (q:Int) (t:Nat) (g:Int->Int) (i:Nat) (j:Nat->V):St:=⟨jsV 48 0 j [(0,.sl 1 n (λk=>iV (l k))),(1,.fn 173 [.pp (.agg [AL n f])]),(2,iV q),(6,iV 0),(7,bV false),(8,.ref 0),(14,.sl 1 n (λk=>iV (l k))),(15,nV n),(16,nV i)],[.imap 92 t g]⟩
def JR (n:Nat) (f:Nat->E6) (l:Nat->Int) (q:Int) (t:Nat) (g:Int->Int) (_:Nat):Ex×St:=(.ex 0,⟨jsV 48 0 Ab [(0,.sl 1 n (λk=>iV (l k))),(1,.fn 173 [.pp (.agg [AL n f])]),(2,iV q),(6,iV 0),(7,bV false),(8,.ref 0)],[.imap 92 t g]⟩)
noncomputable def Ju (L:LT):St->T (Ex×St):=λst=>A8 tab ⟨Ax Lv,L,Gl⟩ (As Tryz.f174 0) 0 st
section
variable (L:LT) (n:Nat) (f:Nat->E6) (l:Nat->Int) (q:Int) (t:Nat) (g:Int->Int) (i:Nat)  (j:Nat->V)
include L n f l q t g i j
theorem Ajh (h0:ilt (ofNat i) (ofNat n)=false):Ay (Ju L) (M1 n f l q) (PP n f l q t g i j)=some ((.ex 0),⟨jsV 48 0 Ab [(0,.sl 1 n (λk=>iV (l k))),(1,.fn 173 [.pp (.agg [.sl 6 n (λi=>eV (f i))])]),(2,iV q),(6,iV 0),(7,bV false),(8,.ref 0)],[.imap 92 t g]⟩):=by
 exact Ad (ks:=[kn h0]) (by kernel_rfl)
theorem Ajg (h0:ilt (ofNat i) (ofNat n)=true) (h1:Aj (ile 0 (ofNat i)) (ilt (ofNat i) (ofNat n))=true) (h2:isW (f i)=false):Ay (Ju L) (M1 n f l q) (PP n f l q t g i j)=some (.nm,⟨jsV 48 0 Ab [(0,.sl 1 n (λk=>iV (l k))),(1,.fn 173 [.pp (.agg [.sl 6 n (λi=>eV (f i))])]),(2,iV q),(6,iV 0),(7,bV false),(8,.ref 0),(14,.sl 1 n (λk=>iV (l k))),(15,nV n),(16,iV (wr .i64 (Ah (ofNat i) 1)))],[.imap 92 t g]⟩):=by
 exact Ad (ks:=[kn h0,kn h1,kL n,kn h1,kn h2]) (by kernel_rfl)
theorem Ajf (h0:ilt (ofNat i) (ofNat n)=true) (h1:Aj (ile 0 (ofNat i)) (ilt (ofNat i) (ofNat n))=true) (h2:isW (f i)=true) (h4:DR (l i)=true) (h3:nlt t 4611686018427387904=true) (h5:DR (wr .i64 (Ah (g (l i)) 1))=true):Ay (Ju L) (M1 n f l q) (PP n f l q t g i j)=some (.nm,⟨jsV 48 0 Ab [(0,.sl 1 n (λk=>iV (l k))),(1,.fn 173 [.pp (.agg [.sl 6 n (λi=>eV (f i))])]),(2,iV q),(6,iV 0),(7,bV false),(8,.ref 0),(14,.sl 1 n (λk=>iV (l k))),(15,nV n),(16,iV (wr .i64 (Ah (ofNat i) 1)))],[.imap 92 (AD t 1) (λz=>sel (ieq z (l i)) (wr .i64 (Ah (g (l i)) 1)) (g z))]⟩):=by
 exact Ad (ks:=[kn h0,kn h1,kL n,kn h1,kn h2,kn h4,kn h3,kn h4,kn h5]) (by kernel_rfl)
end
def Ahg (_:Nat) (_:Nat->E6) (_:Nat->Int) (_:Int) :Nat->V:=lkV AI [(13,.ref 0)]
def FD (n:Nat) (_:Nat->E6) (_:Nat->Int) (_:Int):Lp:=⟨bmK 48 0 [1,2,6,7,8,29,30,31],1,bmK 48 0 [6,7],0,n+1⟩
def H8 (n:Nat) (f:Nat->E6) (l:Nat->Int) (q:Int) (t:Nat) (g:Int->Int) (i:Nat) (j:Nat->V):St:=⟨jsV 48 0 j [(1,.fn 173 [.pp (.agg [AL n f])]),(2,iV q),(6,iV 0),(7,bV false),(8,.ref 0),(29,.sl 1 n (λk=>iV (l k))),(30,nV n),(31,nV i)],[.imap 92 t g]⟩
def KT (_:Nat) (_:Nat->E6) (_:Nat->Int) (_:Int) (_:Nat) (_:Int->Int) (_:Nat):Ex×St:=(.ex 2,⟨jsV 48 0 Ab [(6,iV 0),(7,bV false)],[]⟩)
def KR (_:Nat) (_:Nat->E6) (_:Nat->Int) (_:Int) (_:Nat) (_:Int->Int) (i:Nat):Ex×St:=(.rt,⟨jsV 48 0 Ab [(6,nV i),(7,bV true)],[]⟩)
noncomputable def EN (L:LT):St->T (Ex×St):=λst=>A8 tab ⟨Ax Lv,L,Gl⟩ (As Tryz.f174 2) 2 st
section
variable (L:LT) (n:Nat) (f:Nat->E6) (l:Nat->Int) (q:Int) (t:Nat) (g:Int->Int) (i:Nat)  (j:Nat->V)
include L n f l q t g i j
theorem AiP (h0:ilt (ofNat i) (ofNat n)=false):Ay (EN L) (FD n f l q) (H8 n f l q t g i j)=some ((.ex 2),⟨jsV 48 0 Ab [(6,iV 0),(7,bV false)],[]⟩):=by
 exact Ad (ks:=[kn h0]) (by kernel_rfl)
theorem AiS (h0:ilt (ofNat i) (ofNat n)=true) (h1:Aj (ile 0 (ofNat i)) (ilt (ofNat i) (ofNat n))=true) (h2:isW (f i)=false):Ay (EN L) (FD n f l q) (H8 n f l q t g i j)=some (.nm,⟨jsV 48 0 Ab [(1,.fn 173 [.pp (.agg [.sl 6 n (λi=>eV (f i))])]),(2,iV q),(6,iV 0),(7,bV false),(8,.ref 0),(29,.sl 1 n (λk=>iV (l k))),(30,nV n),(31,iV (wr .i64 (Ah (ofNat i) 1)))],[.imap 92 t g]⟩):=by
 exact Ad (ks:=[kn h0,kn h1,kL n,kn h1,kn h2,kn h2,kn h2,kn h2,kn h2,kn h2,kF]) (by kernel_rfl)
theorem AiR (h0:ilt (ofNat i) (ofNat n)=true) (h1:Aj (ile 0 (ofNat i)) (ilt (ofNat i) (ofNat n))=true) (h2:isW (f i)=true) (h3:DR (l i)=true) (h4:ilt q (g (l i))=false):Ay (EN L) (FD n f l q) (H8 n f l q t g i j)=some (.nm,⟨jsV 48 0 Ab [(1,.fn 173 [.pp (.agg [.sl 6 n (λi=>eV (f i))])]),(2,iV q),(6,iV 0),(7,bV false),(8,.ref 0),(29,.sl 1 n (λk=>iV (l k))),(30,nV n),(31,iV (wr .i64 (Ah (ofNat i) 1)))],[.imap 92 t g]⟩):=by
 exact Ad (ks:=[kn h0,kn h1,kL n,kn h1,kn h2,kn h2,kn h2,kn h3,kn h2,kn h2,kn h2,kn h4]) (by kernel_rfl)
theorem AiQ (h0:ilt (ofNat i) (ofNat n)=true) (h1:Aj (ile 0 (ofNat i)) (ilt (ofNat i) (ofNat n))=true) (h2:isW (f i)=true) (h3:DR (l i)=true) (h4:ilt q (g (l i))=true):Ay (EN L) (FD n f l q) (H8 n f l q t g i j)=some (.rt,⟨jsV 48 0 Ab [(6,nV i),(7,bV true)],[]⟩):=by
 exact Ad (ks:=[kn h0,kn h1,kL n,kn h1,kn h2,kn h2,kn h2,kn h3,kn h2,kn h2,kn h2,kn h4]) (by kernel_rfl)
end
def Xt (n:Nat) (_:Nat->E6) (l:Nat->Int) (_:Int) (_:Nat) (_:Int->Int) (_:Nat):Nat->V:=lkU 281471218613816 [(0,.sl 1 n (λk=>iV (l k)))]
section
variable (L:LT) (p0:PT) (p2:PT) (n:Nat) (f:Nat->E6) (l:Nat->Int) (q:Int) (t:Nat) (g:Int->Int) (i m:Nat)
include L p0 p2 n f l q t g i m
theorem AhL  (hp0:p0 (Ju (onP 0 p0 (JR n f l q t g i) (onP 2 p2 (KT n f l q t g m) L))) (PP n f l q 0 (λ_=>0) 0 (Ahg n f l q ))=true) (hp2:p2 (EN (onP 0 p0 (JR n f l q t g i) (onP 2 p2 (KT n f l q t g m) L))) (H8 n f l q t g 0 (Xt n f l q t g i))=true):(A0 (Ai tab ⟨Ax Lv,onP 0 p0 (JR n f l q t g i) (onP 2 p2 (KT n f l q t g m) L),Gl⟩ Tryz.f174 [Fh n l,.fn 173 [.pp (.agg [AL n f])],iV q] [])).sem=some ((.tup [iV 0,bV false]),[]):=by
 exact Ad (ks:=[kn hp0,kn hp2]) (by kernel_rfl)
theorem AhK  (hp0:p0 (Ju (onP 0 p0 (JR n f l q t g i) (onP 2 p2 (KR n f l q t g m) L))) (PP n f l q 0 (λ_=>0) 0 (Ahg n f l q ))=true) (hp2:p2 (EN (onP 0 p0 (JR n f l q t g i) (onP 2 p2 (KR n f l q t g m) L))) (H8 n f l q t g 0 (Xt n f l q t g i))=true):(A0 (Ai tab ⟨Ax Lv,onP 0 p0 (JR n f l q t g i) (onP 2 p2 (KR n f l q t g m) L),Gl⟩ Tryz.f174 [Fh n l,.fn 173 [.pp (.agg [AL n f])],iV q] [])).sem=some ((.tup [nV m,bV true]),[]):=by
 exact Ad (ks:=[kn hp0,kn hp2]) (by kernel_rfl)
end
theorem Vy (L:LT) (n:Nat) (f:Nat->E6) (l:Nat->Int) (q:Int) (hn:n <= 4611686018427387904) (ho:okP n l=true):∀ (d i:Nat) (j:Nat->V) (p:Nat),n=i+d->d<p ->
  (Au (Ju L) (M1 n f l q) p (PP n f l q (Ak (λi=>isW (f i)) i) (gK l (λi=>isW (f i)) i) i j)).sem=some (JR n f l q (Ak (λi=>isW (f i)) n) (gK l (λi=>isW (f i)) n) n)
 | 0,i,j,p+1,h,_=>by
  have:n=i:=by omega
  subst this;exact Ag (Ajh L n f l q (Ak (λi=>isW (f i)) n) (gK l (λi=>isW (f i)) n) n j (Az (Nat.le_refl _)))
 | d+1,i,j,p+1,h,h2=>by
  have hl:i<n:=by omega
  have hc:=BK (λi=>isW (f i)) i;have hc2:=BK (CG l (λi=>isW (f i)) (l i)) i;have ht:nlt (Ak (λi=>isW (f i)) i) 4611686018427387904=true:=by simp only [nlt,decide_eq_true_eq]; omega
  have hf:DR (wr .i64 (Ah (gK l (λi=>isW (f i)) i (l i)) 1))=true:=by
   show DR (wr .i64 (Ah (ofNat (Ak (CG l (λi=>isW (f i)) (l i)) i)) 1))=true;rw [A1 (show Ak (CG l (λi=>isW (f i)) (l i)) i<n by omega) hn];exact Sg (by omega)
  cases cw:isW (f i) with
  | false =>rw [Ag (Ajg L n f l q (Ak (λi=>isW (f i)) i) (gK l (λi=>isW (f i)) i) i j (ofNat_lt hl) (Ae hl) cw),AV,A1 hl hn,<- AnF (l:=l) (c:=(λi=>isW (f i))) cw,<- BZ (p:=(λi=>isW (f i))) cw];exact Vy L n f l q hn ho d (i+1) Ab p (by omega) (by omega)
  | true =>rw [Ag (Ajf L n f l q (Ak (λi=>isW (f i)) i) (gK l (λi=>isW (f i)) i) i j (ofNat_lt hl) (Ae hl) cw (AE.1 ho i hl) ht hf),AV,A1 hl hn,Acf (l:=l) (c:=(λi=>isW (f i))) (i:=i) cw hl hn,show AD (Ak (λi=>isW (f i)) i) 1=Ak (λi=>isW (f i)) (i+1) from (BH (p:=(λi=>isW (f i))) cw).symm];exact Vy L n f l q hn ho d (i+1) Ab p (by omega) (by omega)
theorem Rh (L:LT) (n:Nat) (f:Nat->E6) (l:Nat->Int) (q:Int) (t:Nat) (hn:n <= 4611686018427387904) (ho:okP n l=true):∀ (d i:Nat) (j:Nat->V) (p:Nat),n=i+d->d<p ->
  (Au (EN L) (FD n f l q) p (H8 n f l q t (gK l (λi=>isW (f i)) n) i j)).sem=some (match AO (Ba n l (λi=>isW (f i)) q) d i with
   | none=>KT n f l q t (gK l (λi=>isW (f i)) n) 0
   | some m=>KR n f l q t (gK l (λi=>isW (f i)) n) m)
 | 0,i,j,p+1,h,_=>by
  have:n=i:=by omega
  subst this;exact Ag (AiP L n f l q t (gK l (λi=>isW (f i)) n) n j (Az (Nat.le_refl _)))
 | d+1,i,j,p+1,h,h2=>by
  have hl:i<n:=by omega
  cases cw:isW (f i) with
  | false =>rw [E3 (show Ba n l (λi=>isW (f i)) q i=false by unfold Ba; rw [show (λi=>isW (f i)) i=false from cw]; rfl),Ag (AiS L n f l q t (gK l (λi=>isW (f i)) n) i j (ofNat_lt hl) (Ae hl) cw),AV,A1 hl hn];exact Rh L n f l q t hn ho d (i+1) Ab p (by omega) (by omega)
  | true =>
   cases cg:ilt q (gK l (λi=>isW (f i)) n (l i)) with
   | false =>rw [E3 (show Ba n l (λi=>isW (f i)) q i=false by unfold Ba; rw [show ilt q (OU n l (λi=>isW (f i)) (l i))=false from cg]; cases (λi=>isW (f i)) i <;> rfl),Ag (AiR L n f l q t (gK l (λi=>isW (f i)) n) i j (ofNat_lt hl) (Ae hl) cw (AE.1 ho i hl) cg),AV,A1 hl hn];exact Rh L n f l q t hn ho d (i+1) Ab p (by omega) (by omega)
   | true =>rw [E2 (show Ba n l (λi=>isW (f i)) q i=true by unfold Ba; rw [show ilt q (OU n l (λi=>isW (f i)) (l i))=true from cg,show (λi=>isW (f i)) i=true from cw]; rfl)];exact Ag (AiQ L n f l q t (gK l (λi=>isW (f i)) n) i j (ofNat_lt hl) (Ae hl) cw (AE.1 ho i hl) cg)
theorem Ady (n:Nat) (f:Nat->E6) (l:Nat->Int) (q:Int) (hn:n <= 4611686018427387904) (ho:okP n l=true) :
  (A0 (Ai tab (AP Gl Lv [(0,M1 n f l q),(2,FD n f l q)]) Tryz.f174 [Fh n l,.fn 173 [.pp (.agg [AL n f])],iV q] [])).sem=some (.tup [iV (crR n l (λi=>isW (f i)) q).1,bV (crR n l (λi=>isW (f i)) q).2],[]):=by
 have hL:=Bh [(0,M1 n f l q),(2,FD n f l q)];have h0:=λL j=>Vy L n f l q hn ho n 0 j (n+1) (by omega) (by omega);have h2:=λL j=>Rh L n f l q (Ak (λi=>isW (f i)) n) hn ho n 0 j (n+1) (by omega) (by omega);rw [AnG] at h0;unfold crR;cases c1:AO (Ba n l (λi=>isW (f i)) q) n 0 with
 | some m =>rw [c1] at h2;exact Bn (Be (Be hL hL) hL) _ (AhK _ _ _ n f l q (Ak (λi=>isW (f i)) n) (gK l (λi=>isW (f i)) n) n m (A5 (h0 _ _)) (A5 (h2 _ _)))
 | none =>rw [c1] at h2;exact Bn (Be (Be hL hL) hL) _ (AhL _ _ _ n f l q (Ak (λi=>isW (f i)) n) (gK l (λi=>isW (f i)) n) n 0 (A5 (h0 _ _)) (A5 (h2 _ _)))
def Oi (n:Nat) (_:Nat->Int) (_:Int):Lp:=⟨bmK 48 0 [0,1,2,6,7,8,14,15,16],1,bmK 48 0 [0,1,2,6,7,8],1,n+1⟩
def SY (n:Nat) (l:Nat->Int) (q:Int) (t:Nat) (g:Int->Int) (i:Nat) (j:Nat->V):St:=⟨jsV 48 0 j [(0,.sl 1 n (λk=>iV (l k))),(1,.fn 176 []),(2,iV q),(6,iV 0),(7,bV false),(8,.ref 0),(14,.sl 1 n (λk=>iV (l k))),(15,nV n),(16,nV i)],[.imap 92 t g]⟩
def JS (n:Nat) (l:Nat->Int) (q:Int) (t:Nat) (g:Int->Int) (_:Nat):Ex×St:=(.ex 0,⟨jsV 48 0 Ab [(0,.sl 1 n (λk=>iV (l k))),(1,.fn 176 []),(2,iV q),(6,iV 0),(7,bV false),(8,.ref 0)],[.imap 92 t g]⟩)
noncomputable def Ld (L:LT):St->T (Ex×St):=λst=>A8 tab ⟨Ax Lv,L,Gl⟩ (As Tryz.f174 0) 0 st
section
variable (L:LT) (n:Nat) (l:Nat->Int) (q:Int) (t:Nat) (g:Int->Int) (i:Nat)  (j:Nat->V)
include L n l q t g i j
theorem Ajj (h0:ilt (ofNat i) (ofNat n)=false):Ay (Ld L) (Oi n l q) (SY n l q t g i j)=some ((.ex 0),⟨jsV 48 0 Ab [(0,.sl 1 n (λk=>iV (l k))),(1,.fn 176 []),(2,iV q),(6,iV 0),(7,bV false),(8,.ref 0)],[.imap 92 t g]⟩):=by
 exact Ad (ks:=[kn h0]) (by kernel_rfl)
theorem Aji (h0:ilt (ofNat i) (ofNat n)=true) (h1:Aj (ile 0 (ofNat i)) (ilt (ofNat i) (ofNat n))=true) (h3:DR (l i)=true) (h2:nlt t 4611686018427387904=true) (h4:DR (wr .i64 (Ah (g (l i)) 1))=true):Ay (Ld L) (Oi n l q) (SY n l q t g i j)=some (.nm,⟨jsV 48 0 Ab [(0,.sl 1 n (λk=>iV (l k))),(1,.fn 176 []),(2,iV q),(6,iV 0),(7,bV false),(8,.ref 0),(14,.sl 1 n (λk=>iV (l k))),(15,nV n),(16,iV (wr .i64 (Ah (ofNat i) 1)))],[.imap 92 (AD t 1) (λz=>sel (ieq z (l i)) (wr .i64 (Ah (g (l i)) 1)) (g z))]⟩):=by
 exact Ad (ks:=[kn h0,kn h1,kT,kn h3,kn h2,kn h3,kn h4]) (by kernel_rfl)
end
def Ahh (_:Nat) (_:Nat->Int) (_:Int) :Nat->V:=lkV AI [(13,.ref 0)]
def G7 (n:Nat) (_:Nat->Int) (_:Int):Lp:=⟨bmK 48 0 [1,2,6,7,8,29,30,31],1,bmK 48 0 [6,7],0,n+1⟩
def IT (n:Nat) (l:Nat->Int) (q:Int) (t:Nat) (g:Int->Int) (i:Nat) (j:Nat->V):St:=⟨jsV 48 0 j [(1,.fn 176 []),(2,iV q),(6,iV 0),(7,bV false),(8,.ref 0),(29,.sl 1 n (λk=>iV (l k))),(30,nV n),(31,nV i)],[.imap 92 t g]⟩
def KV (_:Nat) (_:Nat->Int) (_:Int) (_:Nat) (_:Int->Int) (_:Nat):Ex×St:=(.ex 2,⟨jsV 48 0 Ab [(6,iV 0),(7,bV false)],[]⟩)
def KU (_:Nat) (_:Nat->Int) (_:Int) (_:Nat) (_:Int->Int) (i:Nat):Ex×St:=(.rt,⟨jsV 48 0 Ab [(6,nV i),(7,bV true)],[]⟩)
noncomputable def FP (L:LT):St->T (Ex×St):=λst=>A8 tab ⟨Ax Lv,L,Gl⟩ (As Tryz.f174 2) 2 st
section
variable (L:LT) (n:Nat) (l:Nat->Int) (q:Int) (t:Nat) (g:Int->Int) (i:Nat)  (j:Nat->V)
include L n l q t g i j
theorem AiT (h0:ilt (ofNat i) (ofNat n)=false):Ay (FP L) (G7 n l q) (IT n l q t g i j)=some ((.ex 2),⟨jsV 48 0 Ab [(6,iV 0),(7,bV false)],[]⟩):=by
 exact Ad (ks:=[kn h0]) (by kernel_rfl)
theorem AiV (h0:ilt (ofNat i) (ofNat n)=true) (h1:Aj (ile 0 (ofNat i)) (ilt (ofNat i) (ofNat n))=true) (h2:DR (l i)=true) (h3:ilt q (g (l i))=false):Ay (FP L) (G7 n l q) (IT n l q t g i j)=some (.nm,⟨jsV 48 0 Ab [(1,.fn 176 []),(2,iV q),(6,iV 0),(7,bV false),(8,.ref 0),(29,.sl 1 n (λk=>iV (l k))),(30,nV n),(31,iV (wr .i64 (Ah (ofNat i) 1)))],[.imap 92 t g]⟩):=by
 exact Ad (ks:=[kn h0,kn h1,kT,kT,kT,kn h2,kT,kT,kT,kn h3]) (by kernel_rfl)
theorem AiU (h0:ilt (ofNat i) (ofNat n)=true) (h1:Aj (ile 0 (ofNat i)) (ilt (ofNat i) (ofNat n))=true) (h2:DR (l i)=true) (h3:ilt q (g (l i))=true):Ay (FP L) (G7 n l q) (IT n l q t g i j)=some (.rt,⟨jsV 48 0 Ab [(6,nV i),(7,bV true)],[]⟩):=by
 exact Ad (ks:=[kn h0,kn h1,kT,kT,kT,kn h2,kT,kT,kT,kn h3]) (by kernel_rfl)
end
def Xu (n:Nat) (l:Nat->Int) (_:Int) (_:Nat) (_:Int->Int) (_:Nat):Nat->V:=lkU 281471218613816 [(0,.sl 1 n (λk=>iV (l k)))]
section
variable (L:LT) (p0:PT) (p2:PT) (n:Nat) (l:Nat->Int) (q:Int) (t:Nat) (g:Int->Int) (i m:Nat)
include L p0 p2 n l q t g i m
theorem AhN  (hp0:p0 (Ld (onP 0 p0 (JS n l q t g i) (onP 2 p2 (KV n l q t g m) L))) (SY n l q 0 (λ_=>0) 0 (Ahh n l q ))=true) (hp2:p2 (FP (onP 0 p0 (JS n l q t g i) (onP 2 p2 (KV n l q t g m) L))) (IT n l q t g 0 (Xu n l q t g i))=true):(A0 (Ai tab ⟨Ax Lv,onP 0 p0 (JS n l q t g i) (onP 2 p2 (KV n l q t g m) L),Gl⟩ Tryz.f174 [Fh n l,.fn 176 [],iV q] [])).sem=some ((.tup [iV 0,bV false]),[]):=by
 exact Ad (ks:=[kn hp0,kn hp2]) (by kernel_rfl)
theorem AhM  (hp0:p0 (Ld (onP 0 p0 (JS n l q t g i) (onP 2 p2 (KU n l q t g m) L))) (SY n l q 0 (λ_=>0) 0 (Ahh n l q ))=true) (hp2:p2 (FP (onP 0 p0 (JS n l q t g i) (onP 2 p2 (KU n l q t g m) L))) (IT n l q t g 0 (Xu n l q t g i))=true):(A0 (Ai tab ⟨Ax Lv,onP 0 p0 (JS n l q t g i) (onP 2 p2 (KU n l q t g m) L),Gl⟩ Tryz.f174 [Fh n l,.fn 176 [],iV q] [])).sem=some ((.tup [nV m,bV true]),[]):=by
 exact Ad (ks:=[kn hp0,kn hp2]) (by kernel_rfl)
end
theorem Aaq (L:LT) (n:Nat) (l:Nat->Int) (q:Int) (hn:n <= 4611686018427387904) (ho:okP n l=true):∀ (d i:Nat) (j:Nat->V) (p:Nat),n=i+d->d<p ->
  (Au (Ld L) (Oi n l q) p (SY n l q (Ak (λ_=>true) i) (gK l (λ_=>true) i) i j)).sem=some (JS n l q (Ak (λ_=>true) n) (gK l (λ_=>true) n) n)
 | 0,i,j,p+1,h,_=>by
  have:n=i:=by omega
  subst this;exact Ag (Ajj L n l q (Ak (λ_=>true) n) (gK l (λ_=>true) n) n j (Az (Nat.le_refl _)))
 | d+1,i,j,p+1,h,h2=>by
  have hl:i<n:=by omega
  have hc:=BK (λ_=>true) i;have hc2:=BK (CG l (λ_=>true) (l i)) i;have ht:nlt (Ak (λ_=>true) i) 4611686018427387904=true:=by simp only [nlt,decide_eq_true_eq]; omega
  have hf:DR (wr .i64 (Ah (gK l (λ_=>true) i (l i)) 1))=true:=by
   show DR (wr .i64 (Ah (ofNat (Ak (CG l (λ_=>true) (l i)) i)) 1))=true;rw [A1 (show Ak (CG l (λ_=>true) (l i)) i<n by omega) hn];exact Sg (by omega)
  rw [Ag (Aji L n l q (Ak (λ_=>true) i) (gK l (λ_=>true) i) i j (ofNat_lt hl) (Ae hl) (AE.1 ho i hl) ht hf),AV,A1 hl hn,Acf (l:=l) (c:=(λ_=>true)) (i:=i) rfl hl hn,show AD (Ak (λ_=>true) i) 1=Ak (λ_=>true) (i+1) from (BH (p:=(λ_=>true)) rfl).symm];exact Aaq L n l q hn ho d (i+1) Ab p (by omega) (by omega)
theorem WO (L:LT) (n:Nat) (l:Nat->Int) (q:Int) (t:Nat) (hn:n <= 4611686018427387904) (ho:okP n l=true):∀ (d i:Nat) (j:Nat->V) (p:Nat),n=i+d->d<p ->
  (Au (FP L) (G7 n l q) p (IT n l q t (gK l (λ_=>true) n) i j)).sem=some (match AO (Ba n l (λ_=>true) q) d i with
   | none=>KV n l q t (gK l (λ_=>true) n) 0
   | some m=>KU n l q t (gK l (λ_=>true) n) m)
 | 0,i,j,p+1,h,_=>by
  have:n=i:=by omega
  subst this;exact Ag (AiT L n l q t (gK l (λ_=>true) n) n j (Az (Nat.le_refl _)))
 | d+1,i,j,p+1,h,h2=>by
  have hl:i<n:=by omega
  cases cg:ilt q (gK l (λ_=>true) n (l i)) with
  | false =>rw [E3 (show Ba n l (λ_=>true) q i=false by unfold Ba; rw [show ilt q (OU n l (λ_=>true) (l i))=false from cg]; cases (λ_=>true) i <;> rfl),Ag (AiV L n l q t (gK l (λ_=>true) n) i j (ofNat_lt hl) (Ae hl) (AE.1 ho i hl) cg),AV,A1 hl hn];exact WO L n l q t hn ho d (i+1) Ab p (by omega) (by omega)
  | true =>rw [E2 (show Ba n l (λ_=>true) q i=true by unfold Ba; rw [show ilt q (OU n l (λ_=>true) (l i))=true from cg,show (λ_=>true) i=true from rfl]; rfl)];exact Ag (AiU L n l q t (gK l (λ_=>true) n) i j (ofNat_lt hl) (Ae hl) (AE.1 ho i hl) cg)
theorem Adz (n:Nat) (l:Nat->Int) (q:Int) (hn:n <= 4611686018427387904) (ho:okP n l=true) :
  (A0 (Ai tab (AP Gl Lv [(0,Oi n l q),(2,G7 n l q)]) Tryz.f174 [Fh n l,.fn 176 [],iV q] [])).sem=some (.tup [iV (crR n l (λ_=>true) q).1,bV (crR n l (λ_=>true) q).2],[]):=by
 have hL:=Bh [(0,Oi n l q),(2,G7 n l q)];have h0:=λL j=>Aaq L n l q hn ho n 0 j (n+1) (by omega) (by omega);have h2:=λL j=>WO L n l q (Ak (λ_=>true) n) hn ho n 0 j (n+1) (by omega) (by omega);rw [AnG] at h0;unfold crR;cases c1:AO (Ba n l (λ_=>true) q) n 0 with
 | some m =>rw [c1] at h2;exact Bn (Be (Be hL hL) hL) _ (AhM _ _ _ n l q (Ak (λ_=>true) n) (gK l (λ_=>true) n) n m (A5 (h0 _ _)) (A5 (h2 _ _)))
 | none =>rw [c1] at h2;exact Bn (Be (Be hL hL) hL) _ (AhN _ _ _ n l q (Ak (λ_=>true) n) (gK l (λ_=>true) n) n 0 (A5 (h0 _ _)) (A5 (h2 _ _)))
def Ws:List V->A3
 | [u,.fn 173 [.pp (.agg [v])],.val (.int .i64 q)]=>apI u λm l=>apL v λn f=>.br (BI n m) (.br (Av n) (.br (okP m l) (out (.tup [iV (crR m l (λi=>isW (f i)) q).1,bV (crR m l (λi=>isW (f i)) q).2])) .fail) .fail) .fail
 | [u,.fn 176 [],.val (.int .i64 q)]=>apI u λm l=>.br (Av m) (.br (okP m l) (out (.tup [iV (crR m l (λ_=>true) q).1,bV (crR m l (λ_=>true) q).2])) .fail) .fail
 | _=>.fail
theorem p91:An Tryz.prog Gl 174 Ws:=by
 refine Al A2 mixed Tryz.func174 (by kernel_rfl) (by kernel_rfl) λvs v h' h=>?_;unfold Ws at h;split at h
 ·rename_i u1 v1 q
  obtain ⟨m,l,ha,h1⟩:=D2 h;obtain ⟨n,f,hb,h2⟩:=Cz h1;obtain ⟨hm,h3⟩:=Ac h2;obtain ⟨hn,h4⟩:=Ac h3;obtain ⟨ho,hq⟩:=Ac h4;have hm:n=m:=Nat.eq_of_beq_eq_true hm;subst hm;have:=Aa hq;simp only [Prod.mk.injEq] at this;obtain ⟨rfl,rfl⟩:=this;have hn:n <= 4611686018427387904:=of_decide_eq_true hn;have hA:Bz [u1,.fn 173 [.pp (.agg [v1])],.val (.int .i64 q)] [Fh n l,.fn 173 [.pp (.agg [AL n f])],iV q]:=λS w cs hv=>by
   obtain ⟨c,l1,rfl,q1,c2,l2,rfl,⟨ca,q4,c5,l5,q5,q6,q7⟩,q3⟩:=hv;exact ⟨c,_,rfl,ha S w c q1,c2,l2,rfl,⟨ca,q4,c5,l5,q5,AgO hb S w noK c5 q6,q7⟩,q3⟩
  have hx:=Bq WE [(0,M1 n f l q),(2,FD n f l q)];exact ⟨_,AP Gl Lv [(0,M1 n f l q),(2,FD n f l q)],_,hA,rfl,hx.1,hx.2,Ady n f l q hn ho,Ap.refl _⟩
 ·rename_i u1 q
  obtain ⟨n,l,ha,h1⟩:=D2 h;obtain ⟨hn,h4⟩:=Ac h1;obtain ⟨ho,hq⟩:=Ac h4;have:=Aa hq;simp only [Prod.mk.injEq] at this;obtain ⟨rfl,rfl⟩:=this;have hn:n <= 4611686018427387904:=of_decide_eq_true hn;have hA:Bz [u1,.fn 176 [],.val (.int .i64 q)] [Fh n l,.fn 176 [],iV q]:=λS w cs hv=>by
   obtain ⟨c,l1,rfl,q1,q3⟩:=hv;exact ⟨c,_,rfl,ha S w c q1,q3⟩
  have hx:=Bq WE [(0,Oi n l q),(2,G7 n l q)];exact ⟨_,AP Gl Lv [(0,Oi n l q),(2,G7 n l q)],_,hA,rfl,hx.1,hx.2,Adz n l q hn ho,Ap.refl _⟩
 ·cases h
end Go.Proofs.YtkbafjceglhjhaaGreatDoor.Ed
namespace Go.Sy
inductive DT (α:Type) where
 | lf (a:α)
 | fl
 | kn (b c:Bool) (d:DT α)
 | ak (o:Option (Ex×St)) (r:Ex×St) (d:DT α)
 | sp (d e:DT α)
def DT.cs {α:Type}:DT α->List Bool
 | .lf _=>[]
 | .fl=>[]
 | .kn b _ d=>b::d.cs
 | .ak _ _ d=>d.cs
 | .sp d e=>d.cs++e.cs
def DT.os {α:Type}:DT α->List (Option (Ex×St))
 | .lf _=>[]
 | .fl=>[]
 | .kn _ _ d=>d.os
 | .ak o _ d=>o::d.os
 | .sp d e=>d.os++e.os
def DT.ls {α:Type}:DT α->List α
 | .lf a=>[a]
 | .fl=>[]
 | .kn _ _ d=>d.ls
 | .ak _ _ d=>d.ls
 | .sp d e=>d.ls++e.ls
def DT.run {α:Type}:DT α->T α->Option (List Bool×List (Option (Ex×St))×List α)
 | .lf _,.leaf a=>some ([],[],[a])
 | .fl,_=>some ([],[],[])
 | .kn _ c d,.br b x y=>match (match c with | true=>d.run x | false=>d.run y) with
  | some (cs,os,ls)=>some (b::cs,os,ls)
  | none=>none
 | .ak _ r d,.ask o k=>match d.run (k r) with
  | some (cs,os,ls)=>some (cs,o::os,ls)
  | none=>none
 | .sp d e,t=>match d.run t,e.run t with
  | some (cs,os,ls),some (cs',os',ls')=>some (cs++cs',os++os',ls++ls')
  | _,_=>none
 | _,_=>none
inductive DK {α β:Type} (L:β->α):T β->DT α->Prop where
 | e {a:β} {b:α} (h:b=L a):DK L (.leaf a) (.lf b)
 | f:DK L .fail .fl
 | k {C:T β} {b c:Bool} {d:DT α} (h:b=c) (w:DK L C d):DK L C (.kn b c d)
 | a {C:T β} {o:Option (Ex×St)} {r:Ex×St} {d:DT α} (h:o=some r) (w:DK L C d):DK L C (.ak o r d)
 | c {b:Bool} {X Y:T β} {d e:DT α} (w:b=true->DK L X d) (u:b=false->DK L Y e):DK L (.br b X Y) (.sp d e)
 | g {b:Bool} {X:T β} {d:DT α} (w:b=true->DK L X d):DK L (.br b X .fail) d
def DT.knR {α:Type}:Nat->Bool->Bool->DT α->DT α
 | 0,_,_,d=>d
 | n+1,b,c,d=>.kn b c (knR n b c d)
theorem DK.r {α β:Type} {L:β->α} {C:T β} {b c:Bool} {d:DT α} (n:Nat) (h:b=c) (w:DK L C d):DK L C (DT.knR n b c d):=by
 induction n with
 | zero=>exact w
 | succ n ih=>exact .k h ih
theorem DK.l {α β:Type} {L:β->α} {a:β}:DK L (.leaf a) (.lf (L a)):=.e rfl
theorem DT.run_len {α:Type} {d:DT α}:∀ {t:T α} {cs:List Bool} {os:List (Option (Ex×St))} {ls:List α},d.run t=some (cs,os,ls)->cs.length=d.cs.length∧os.length=d.os.length∧ls.length=d.ls.length:=by
 induction d with
 | lf a =>intro t cs os ls h;cases t <;> cases h;exact ⟨rfl,rfl,rfl⟩
 | fl=>intro t cs os ls h; simp only [DT.run] at h; cases h; exact ⟨rfl,rfl,rfl⟩
 | kn b c d ih =>
  intro t cs os ls h;cases t with
  | br b' x y =>
   simp only [DT.run] at h;split at h
   ·rename_i cs' os' ls' hr
    cases h;cases c <;> (obtain ⟨e1,e2⟩:=ih hr; exact ⟨congrArg Nat.succ e1,e2⟩)
   ·cases h
  | _=>cases h
 | ak o r d ih =>
  intro t cs os ls h;cases t with
  | ask o' k =>
   simp only [DT.run] at h;split at h
   ·rename_i hr
    cases h;obtain ⟨e1,e2,e3⟩:=ih hr;exact ⟨e1,congrArg Nat.succ e2,e3⟩
   ·cases h
  | _=>cases h
 | sp d e ih ih' =>
  intro t cs os ls h;simp only [DT.run] at h;split at h
  ·rename_i hx hy
   cases h;obtain ⟨e1,e2,e3⟩:=ih hx;obtain ⟨f1,f2,f3⟩:=ih' hy;simp only [DT.cs,DT.os,DT.ls,List.length_append,e1,e2,e3,f1,f2,f3,and_self]
  ·cases h
theorem DK.ok {α β:Type} {L:β->α} {C:T β} {d:DT α} (w:DK L C d):∀ {t:T α},d.run t=some (d.cs,d.os,d.ls)->∀ {r:β},C.sem=some r->t.sem=some (L r):=by
 induction w with
 | e hab =>
  intro t h r hr;cases t with
  | leaf b =>simp only [DT.run,DT.cs,DT.os,DT.ls,Option.some.injEq,Prod.mk.injEq,List.cons.injEq,and_true,true_and] at h;subst h;rw [hab];exact congrArg (λo=>o.map L) hr
  | _=>cases h
 | f=>intro t h r hr; cases hr
 | k hb w ih =>
  rename_i C b c d;intro t h r hr;cases t with
  | br b' x y =>
   simp only [DT.run] at h;split at h
   ·rename_i hx
    simp only [DT.cs,DT.os,DT.ls,Option.some.injEq,Prod.mk.injEq,List.cons.injEq] at h;obtain ⟨⟨rfl,rfl⟩,rfl,rfl⟩:=h;subst hb;cases b' with
    | true=>exact ih hx hr
    | false=>exact ih hx hr
   ·cases h
  | _=>cases h
 | a ho w ih =>
  rename_i C o q d;intro t h r hr;cases t with
  | ask o' k =>
   simp only [DT.run] at h;split at h
   ·rename_i hx
    simp only [DT.cs,DT.os,DT.ls,Option.some.injEq,Prod.mk.injEq,List.cons.injEq] at h;obtain ⟨rfl,⟨rfl,rfl⟩,rfl⟩:=h;subst ho;exact ih hx hr
   ·cases h
  | _=>cases h
 | c w u ih ih' =>
  rename_i b X Y d e;intro t h r hr;simp only [DT.run] at h;split at h
  ·rename_i hx hy
   simp only [DT.cs,DT.os,DT.ls,Option.some.injEq,Prod.mk.injEq] at h;obtain ⟨hc,ho,hl⟩:=h;obtain ⟨e1,e2,e3⟩:=DT.run_len hx;obtain ⟨rfl,rfl⟩:=List.append_inj hc e1;obtain ⟨rfl,rfl⟩:=List.append_inj ho e2;obtain ⟨rfl,rfl⟩:=List.append_inj hl e3;cases hb:b with
   | true=>rw [hb] at hr; exact ih hb hx hr
   | false=>rw [hb] at hr; exact ih' hb hy hr
  ·cases h
 | g w ih =>intro t h r hr;obtain ⟨hb,hr⟩:=Ac hr;exact ih hb h hr
theorem DK.of {α:Type} {C t:T α} {r:α} (h:C.sem=some r) {d:DT α} (w:DK (λa=>a) C d) (e:d.run t=some (d.cs,d.os,d.ls)):t.sem=some r:=w.ok e h
def Ch {σ ρ:Type} (g:Nat->σ->T (σ ⊕ ρ)) (fin:σ->ρ):Nat->Nat->σ->Option ρ
 | 0,_,a=>some (fin a)
 | d+1,i,a=>match (g i a).sem with
  | some (.inl b)=>Ch g fin d (i+1) b
  | some (.inr e)=>some e
  | none=>none
def goR {σ ρ:Type} (S:Int->σ->(Nat->V)->St) (R:ρ->Ex×St) (i:Nat):σ ⊕ ρ->Ex×St
 | .inl b=>(.nm,S (wr .i64 (Ah (Int.ofNat i) 1)) b λ_=>.und)
 | .inr e=>R e
theorem Eu {i n:Nat} (h:i<n) (hn:n <= 4611686018427387904):wr .i64 (Ah (Int.ofNat i) 1)=Int.ofNat (i+1):=by
 unfold wr Ah IntKind.wrap;simp [IntKind.bits,IntKind.signed];omega
theorem AT {σ ρ:Type} {f:St->T (Ex×St)} {lp:Lp} {S:Int->σ->(Nat->V)->St} {R:ρ->Ex×St} (hR:∀ e,(R e).1 ≠ .nm) {n:Nat} (hn:n <= 4611686018427387904) {g:Nat->σ->T (σ ⊕ ρ)} {fin:σ->ρ}
  (h:∀ i a j r,i<n->(g i a).sem=some r->Ay f lp (S (Int.ofNat i) a j)=some (goR S R i r)) (h0:∀ a j,Ay f lp (S (Int.ofNat n) a j)=some (R (fin a))) :
  ∀ {d i:Nat} {a:σ} {j:Nat->V} {q:Nat} {e:ρ},n=i+d->d<q->Ch g fin d i a=some e->(Au f lp q (S (Int.ofNat i) a j)).sem=some (R e):=by
 have stop:∀ {o:Nat} {e:ρ},YZ f lp o (some (R e))=some (R e):=fun {o e}=>by
  have:=hR e;cases hr:R e with
  | mk x s =>rw [hr] at this;cases x <;> first | exact absurd rfl this | rfl
 intro d
 induction d with
 | zero =>
  intro i a j q e hi hq he;obtain ⟨q,rfl⟩:∃ o,q=o+1:=⟨q-1,by omega⟩;obtain rfl:n=i:=by omega
  simp only [Ch,Option.some.injEq] at he;rw [Ag (h0 a j),stop,he]
 | succ d ih =>
  intro i a j q e hi hq he;obtain ⟨q,rfl⟩:∃ o,q=o+1:=⟨q-1,by omega⟩;simp only [Ch] at he;split at he
  ·rename_i b hb
   rw [Ag (h i a j _ (by omega) hb)];show (Au f lp q (S (wr .i64 (Ah (Int.ofNat i) 1)) b λ_=>.und)).sem=_;rw [Eu (show i<n by omega) hn];exact ih (by omega) (by omega) he
  ·rename_i b hb
   rw [Ag (h i a j _ (by omega) hb)];simp only [Option.some.injEq] at he;subst he;exact stop
  ·cases he
def nzE:Ex->Ex
 | .nm=>.rt
 | e=>e
def exR (e:Ex×St):Ex×St:=(nzE e.1,e.2)
theorem BA (e:Ex×St):(exR e).1 ≠ .nm:=by
 obtain ⟨x,s⟩:=e;cases x <;> exact λh=>by cases h
def XA (st:St):List (Nat×(Nat->V))->St
 | []=>st
 | (id,g)::l=>XA (match st.h[id]? with
   | some (.row e s 0 _)=>⟨st.t,st.h.set id (.row e s 0 g)⟩
   | some (.jag j)=>⟨st.t,st.h.set id (.jag { j with mem:=λk q=>bif Nat.blt q (j.len k) then j.mem k q else g q })⟩
   | _=>st) l
theorem UO {Γ:Cx0}:∀ (l:List (Nat×(Nat->V))) (st:St),LE Γ st (XA st l)
 | [],st=>LE.refl st
 | (id,g)::l,st=>by
   refine LE.trans ?_ (UO l _);split
   ·rename_i hb
    exact Ado hb λj hj=>absurd hj (Nat.not_lt_zero _)
   ·rename_i j hb
    exact Adp hb (λ_ _=>rfl) (λ_ _=>rfl) (λ_ _=>rfl) λk _ q hq=>by
     show (bif Nat.blt q (j.len k) then j.mem k q else g q)=_;rw [show Nat.blt q (j.len k)=true from Nat.ble_eq_true_of_le hq];rfl
   ·exact LE.refl st
def askL (ls:List (Nat×Lp×List (Nat×(Nat->V)))) (id:Nat) (f:St->T (Ex×St)) (st:St):T (Ex×St) :=
 match I8 id ls with
 | some (l,z)=>.ask (Au f l l.fuel (XA (Hv l.ks l.n st) z)).sem .leaf
 | none=>.fail
theorem EV (c:FuncId->List V->St->T (V×Res)) (G:Nat->V) (ls:List (Nat×Lp×List (Nat×(Nat->V)))):Ca ⟨c,askL ls,G⟩:=λid f st r hr=>by
 have hr:(askL ls id f st).sem=some r:=hr;unfold askL at hr;split at hr
 ·rename_i l z _
  cases hi:(Au f l l.fuel (XA (Hv l.ks l.n st) z)).sem with
  | none=>rw [hi] at hr; cases hr
  | some r' =>rw [hi] at hr;cases hr;exact .run (.weak ((Py _ _ _).trans (UO _ _)) (Ht hi))
 ·cases hr
def Ou (f:St->T (Ex×St)) (l:Lp) (q:Nat) (st:St) (p:Nat×Nat×Nat×(Nat->V)):Option (Ex×St) :=
 match (Au f l l.fuel (Qg st q p)).sem with
 | some r=>match Jw st.h r.2.h with
  | true=>some (r.1,⟨O0 st.h.length r.2.t,st.h⟩)
  | false=>none
 | none=>none
def askF (fs:List (Nat×Nat×Lp×Lp)) (ls:List (Nat×Lp×List (Nat×(Nat->V)))) (id:Nat) (f:St->T (Ex×St)) (st:St):T (Ex×St) :=
 match I8 id fs with
 | some (q,l0,l)=>(TL (Hv l0.ks l0.n st).h (nth (Hv l0.ks l0.n st).t q)).bind λp=>.ask (Ou f l q (Hv l0.ks l0.n st) p) .leaf
 | none=>askL ls id f st
theorem AfX (c:FuncId->List V->St->T (V×Res)) (G:Nat->V) (fs:List (Nat×Nat×Lp×Lp)) (ls:List (Nat×Lp×List (Nat×(Nat->V)))):Ca ⟨c,askF fs ls,G⟩:=λid f st r hr=>by
 have hr:(askF fs ls id f st).sem=some r:=hr;unfold askF at hr;split at hr
 ·rename_i q l0 l _
  obtain ⟨p,hp,h⟩:=Af hr;cases hi:Ou f l q (Hv l0.ks l0.n st) p with
  | none=>rw [hi] at h; cases h
  | some r' =>
   rw [hi] at h;cases h;unfold Ou at hi;split at hi
   ·rename_i r2 h2
    split at hi
    ·rename_i ha
     cases hi;exact .lend (Py _ _ _) hp (Ht h2) ha
    ·cases hi
   ·cases hi
 ·exact EV c G ls id f st r hr
def cxA (G:Nat->V) (tbl:A9) (ls:List (Nat×Lp×List (Nat×(Nat->V)))):Cx:=⟨Ax tbl,askL ls,G⟩
theorem AU {P:Program} {G:Nat->V} {tbl:A9} (h:Ao P G tbl) (ls:List (Nat×Lp×List (Nat×(Nat->V)))):Bj P (cxA G tbl ls).base∧Ca (cxA G tbl ls):=⟨E7 rfl h,EV _ _ _⟩
theorem Aol {v v':V} {l:List V} (h:∀ (S:Nat->Prop) (w:World) (u:Value),VR S w v noK u->VR S w v' noK u):Bz (v::l) (v'::l):=λS w cs hv=>by
 obtain ⟨c,m,e,q1,q2⟩:=hv;exact ⟨c,m,e,h S w c q1,q2⟩
theorem eN {b c:Bool} (h:b=c):AQ b=AQ c:=congrArg AQ h
theorem eA {b c b' c':Bool} (h:b=c) (h':b'=c'):Aj b b'=Aj c c':=by rw [h,h']
theorem eT:true=true:=rfl
theorem eF:false=false:=rfl
theorem eI (x:Int):ieq x x=true:=by simp [ieq]
theorem eJ (n:Nat):BI n n=true:=Nat.beq_refl n
theorem eG:∀ l:List Nat,BG (l.map λn=>.jag ⟨0,0,n,λ_=>.und,0,0,0,λ_=>true,λ_=>0,λ_ _=>.und,none⟩)=true
 | []=>rfl
 | n::l=>by simpa [BG] using eG l
theorem eR:∀ l:List (Nat×Option (Nat->Nat)),Cm (l.map λp=>match p.2 with
  | none=>.row 0 0 p.1 λ_=>iV 0
  | some f=>.jag ⟨0,1,p.1,λ_=>.und,0,0,0,λ_=>true,f,λ_ _=>iV 0,none⟩)=true
 | []=>rfl
 | (n,none)::l=>by
   have:=eR l;simp only [List.map_cons,Cm,this,Bool.and_true,List.all_eq_true];exact λ_ _=>rfl
 | (n,some f)::l=>by
   have:=eR l;simp only [List.map_cons,Cm,this,Bool.and_true,List.all_eq_true,Bool.and_eq_true];exact λ_ _=>⟨rfl,λ_ _=>rfl⟩
end Go.Sy
