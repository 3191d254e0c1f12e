/-
  crowded: the first event whose part has too many. No conditions.
-/
import Derived.Test.YtkbafjceglhjhaaGreatDoorCyQ
import Derived.Test.YtkbafjceglhjhaaGreatDoorCyB
import Derived.Test.YtkbafjceglhjhaaGreatDoorEdK
namespace Go.Proofs.YtkbafjceglhjhaaGreatDoor.Ed
open Go.Sy
open Int (ofNat)
theorem AhI {v u:V} (h:∀ (S:Nat->Prop) (w:World) (c:Value),VR S w v noK c->VR S w u noK c) (S:Nat->Prop) (w:World) (κ:Aq) (c:Value) (hv:VR S w (.pp (.agg [v])) κ c):VR S w (.pp (.agg [u])) κ c:=by
 obtain ⟨b,o,cv,q1,⟨ca,q2,a,l',q3,q4,q5⟩,q6⟩:=hv;exact ⟨b,o,cv,q1,⟨ca,q2,a,l',q3,h S w a q4,q5⟩,q6⟩
def Al2:List V->AA
 | [.val (.int .i64 i),.pp (.agg [v])]=>apL v λn f=>.br (Ak (ile 0 i) (ilt i (ofNat n))) (out (bV (isW (f (toN i))))) .fail
 | _=>.fail
def AaG:List V->AA
 | [.val (.int .i64 _)]=>out (bV true)
 | _=>.fail
theorem p90:As Tryz.prog Gl 173 Al2:=by
 refine Am A0 mixed Tryz.func173 (by kernel_rfl) (by kernel_rfl) λvs v h' h=>?_;unfold Al2 at h;split at h
 ·rename_i i u
  obtain ⟨n,f,ha,h1⟩:=CG h;obtain ⟨hi,hq⟩:=Ad h1;have:=Aa hq;simp only [Prod.mk.injEq] at this;obtain ⟨rfl,rfl⟩:=this;have hA:Bw [.val (.int .i64 i),.pp (.agg [u])] [iV i,.pp (.agg [AN n f])]:=λS w cs hv=>by
   obtain ⟨c,l,rfl,q1,c2,l2,rfl,q2,q3⟩:=hv;exact ⟨c,_,rfl,q1,c2,l2,rfl,AhI ha S w noK c2 q2,q3⟩
  have hx:=Bs C5 [];exact ⟨_,AT Gl tb0 [],_,hA,rfl,hx.1,hx.2,Af (ks:=[kn hi]) (by kernel_rfl)/-W:wc90-/,Aw.refl _⟩
 ·cases h
theorem p93:As Tryz.prog Gl 176 AaG:=by
 refine Am A0 mixed Tryz.func176 (by kernel_rfl) (by kernel_rfl) λvs v h' h=>?_;unfold AaG at h;split at h
 ·have:=Aa h
  simp only [Prod.mk.injEq] at this;obtain ⟨rfl,rfl⟩:=this;have hx:=Bs C5 [];exact ⟨_,AT Gl tb0 [],_,Bw.refl _,rfl,hx.1,hx.2,Af (ks:=[]) (by kernel_rfl)/-W:wc93-/,Aw.refl _⟩
 ·cases h
noncomputable def Ml:AE:=(173,Al2)::(176,AaG)::[]
theorem X3:Ar Tryz.prog Gl Ml:=.cons p90 <| .cons p93 .nil
def gK (l:Nat->Int) (c:Nat->Bool) (i:Nat) (x:Int):Int:=ofNat (Al (CP l c x) i)
theorem AoP (l:Nat->Int) (c:Nat->Bool):gK l c 0=λ_=>0:=rfl
theorem AoO {l:Nat->Int} {c:Nat->Bool} {i:Nat} (h:c i=false):gK l c (i+1)=gK l c i:=by
 funext x;unfold gK;rw [BL];rw [CP,h];cases ieq (l i) x <;> rfl
theorem Adi {l:Nat->Int} {c:Nat->Bool} {i n:Nat} (h:c i=true) (hi:i<n) (hn:n <= 4611686018427387904):(λk=>sel (ieq k (l i)) (wr .i64 (Ai (gK l c i (l i)) 1)) (gK l c i k))=gK l c (i+1):=by
 funext x;by_cases hx:x=l i
 ·subst hx
  have h1:ieq (l i) (l i)=true:=by simp [ieq]
  rw [h1];show wr .i64 (Ai (ofNat (Al (CP l c (l i)) i)) 1)=_;have:=BI (CP l c (l i)) i;rw [A5 (show Al (CP l c (l i)) i<n by omega) hn];unfold gK;rw [Bz (show CP l c (l i) i=true by rw [CP,h,h1]; rfl)]
 ·have h1:ieq x (l i)=false:=by simp [ieq,hx]
  rw [h1];show gK l c i x=_;unfold gK;rw [BL (show CP l c x i=false by rw [CP,show ieq (l i) x=false by simp [ieq]; omega]; rfl)]
theorem Te {a:Nat} (h:a <= 4611686018427387904):Bn (ofNat a)=true:=by
 simp only [Bn,Bool.and_eq_true,decide_eq_true_eq,Int.ofNat_eq_natCast];omega
def okP (n:Nat) (l:Nat->Int):Bool:=Bo n λi=>Bn (l i)
def Be (n:Nat) (l:Nat->Int) (c:Nat->Bool) (q:Int) (i:Nat):Bool:=Ak (c i) (ilt q (MJ n l c (l i)))
def crR (n:Nat) (l:Nat->Int) (c:Nat->Bool) (q:Int):Int×Bool :=
 match AZ (Be n l c q) n 0 with
 | some t=>(ofNat t,true)
 | none=>(0,false)
def Np (n:Nat) (_:Nat->E6) (_:Nat->Int) (_:Int):Lp:=⟨bmK 48 0 [0,1,2,6,7,8,14,15,16],1,bmK 48 0 [0,1,2,6,7,8],1,n+1⟩
def Q5 (n:Nat) (f:Nat->E6) (l:Nat->Int) (q:Int) (t:Nat) (g:Int->Int) (i:Nat) (j:Nat->V):St:=⟨jsV 48 0 j [(0,.sl 1 n (λk=>iV (l k))),(1,.fn 173 [.pp (.agg [AN n f])]),(2,iV q),(6,iV 0),(7,bV false),(8,.ref 0),(14,.sl 1 n (λk=>iV (l k))),(15,nV n),(16,nV i)],[.imap 92 t g]⟩
def K6 (n:Nat) (f:Nat->E6) (l:Nat->Int) (q:Int) (t:Nat) (g:Int->Int) (_:Nat):Ex×St:=(.ex 0,⟨jsV 48 0 Ab [(0,.sl 1 n (λk=>iV (l k))),(1,.fn 173 [.pp (.agg [AN n f])]),(2,iV q),(6,iV 0),(7,bV false),(8,.ref 0)],[.imap 92 t g]⟩)
noncomputable def JP (L:LT):St->T (Ex×St):=λst=>AK tab ⟨A2 Ml,L,Gl⟩ (A3 Tryz.f174 0) 0 st
section
variable (L:LT) (n:Nat) (f:Nat->E6) (l:Nat->Int) (q:Int) (t:Nat) (g:Int->Int) (i:Nat)  (j:Nat->V)
include L n f l q t g i j
theorem Ak5 (h0:ilt (ofNat i) (ofNat n)=false):A1 (JP L) (Np n f l q) (Q5 n f l q t g i j)=some ((.ex 0),⟨jsV 48 0 Ab [(0,.sl 1 n (λk=>iV (l k))),(1,.fn 173 [.pp (.agg [.sl 6 n (λi=>eV (f i))])]),(2,iV q),(6,iV 0),(7,bV false),(8,.ref 0)],[.imap 92 t g]⟩):=by
 exact Af (ks:=[kn h0]) (by kernel_rfl)
theorem Ak4 (h0:ilt (ofNat i) (ofNat n)=true) (h1:Ak (ile 0 (ofNat i)) (ilt (ofNat i) (ofNat n))=true) (h2:isW (f i)=false):A1 (JP L) (Np n f l q) (Q5 n f l q t g i j)=some (.nm,⟨jsV 48 0 Ab [(0,.sl 1 n (λk=>iV (l k))),(1,.fn 173 [.pp (.agg [.sl 6 n (λi=>eV (f i))])]),(2,iV q),(6,iV 0),(7,bV false),(8,.ref 0),(14,.sl 1 n (λk=>iV (l k))),(15,nV n),(16,iV (wr .i64 (Ai (ofNat i) 1)))],[.imap 92 t g]⟩):=by
 exact Af (ks:=[kn h0,kn h1,kL n,kn h1,kn h2]) (by kernel_rfl)
theorem Ak3 (h0:ilt (ofNat i) (ofNat n)=true) (h1:Ak (ile 0 (ofNat i)) (ilt (ofNat i) (ofNat n))=true) (h2:isW (f i)=true) (h4:Bn (l i)=true) (h3:nlt t 4611686018427387904=true) (h5:Bn (wr .i64 (Ai (g (l i)) 1))=true):A1 (JP L) (Np n f l q) (Q5 n f l q t g i j)=some (.nm,⟨jsV 48 0 Ab [(0,.sl 1 n (λk=>iV (l k))),(1,.fn 173 [.pp (.agg [.sl 6 n (λi=>eV (f i))])]),(2,iV q),(6,iV 0),(7,bV false),(8,.ref 0),(14,.sl 1 n (λk=>iV (l k))),(15,nV n),(16,iV (wr .i64 (Ai (ofNat i) 1)))],[.imap 92 (BC t 1) (λz=>sel (ieq z (l i)) (wr .i64 (Ai (g (l i)) 1)) (g z))]⟩):=by
 exact Af (ks:=[kn h0,kn h1,kL n,kn h1,kn h2,kn h4,kn h3,kn h4,kn h5]) (by kernel_rfl)
end
def Aij (_:Nat) (_:Nat->E6) (_:Nat->Int) (_:Int) :Nat->V:=lkV AH [(13,.ref 0)]
def Ga (n:Nat) (_:Nat->E6) (_:Nat->Int) (_:Int):Lp:=⟨bmK 48 0 [1,2,6,7,8,29,30,31],1,bmK 48 0 [6,7],0,n+1⟩
def HV (n:Nat) (f:Nat->E6) (l:Nat->Int) (q:Int) (t:Nat) (g:Int->Int) (i:Nat) (j:Nat->V):St:=⟨jsV 48 0 j [(1,.fn 173 [.pp (.agg [AN n f])]),(2,iV q),(6,iV 0),(7,bV false),(8,.ref 0),(29,.sl 1 n (λk=>iV (l k))),(30,nV n),(31,nV i)],[.imap 92 t g]⟩
def LH (_:Nat) (_:Nat->E6) (_:Nat->Int) (_:Int) (_:Nat) (_:Int->Int) (_:Nat):Ex×St:=(.ex 2,⟨jsV 48 0 Ab [(6,iV 0),(7,bV false)],[]⟩)
def LG (_:Nat) (_:Nat->E6) (_:Nat->Int) (_:Int) (_:Nat) (_:Int->Int) (i:Nat):Ex×St:=(.rt,⟨jsV 48 0 Ab [(6,nV i),(7,bV true)],[]⟩)
noncomputable def Fi (L:LT):St->T (Ex×St):=λst=>AK tab ⟨A2 Ml,L,Gl⟩ (A3 Tryz.f174 2) 2 st
section
variable (L:LT) (n:Nat) (f:Nat->E6) (l:Nat->Int) (q:Int) (t:Nat) (g:Int->Int) (i:Nat)  (j:Nat->V)
include L n f l q t g i j
theorem Akn (h0:ilt (ofNat i) (ofNat n)=false):A1 (Fi L) (Ga n f l q) (HV n f l q t g i j)=some ((.ex 2),⟨jsV 48 0 Ab [(6,iV 0),(7,bV false)],[]⟩):=by
 exact Af (ks:=[kn h0]) (by kernel_rfl)
theorem Akq (h0:ilt (ofNat i) (ofNat n)=true) (h1:Ak (ile 0 (ofNat i)) (ilt (ofNat i) (ofNat n))=true) (h2:isW (f i)=false):A1 (Fi L) (Ga n f l q) (HV n f l q t g i j)=some (.nm,⟨jsV 48 0 Ab [(1,.fn 173 [.pp (.agg [.sl 6 n (λi=>eV (f i))])]),(2,iV q),(6,iV 0),(7,bV false),(8,.ref 0),(29,.sl 1 n (λk=>iV (l k))),(30,nV n),(31,iV (wr .i64 (Ai (ofNat i) 1)))],[.imap 92 t g]⟩):=by
 exact Af (ks:=[kn h0,kn h1,kL n,kn h1,kn h2,kn h2,kn h2,kn h2,kn h2,kn h2,kF]) (by kernel_rfl)
theorem Akp (h0:ilt (ofNat i) (ofNat n)=true) (h1:Ak (ile 0 (ofNat i)) (ilt (ofNat i) (ofNat n))=true) (h2:isW (f i)=true) (h3:Bn (l i)=true) (h4:ilt q (g (l i))=false):A1 (Fi L) (Ga n f l q) (HV n f l q t g i j)=some (.nm,⟨jsV 48 0 Ab [(1,.fn 173 [.pp (.agg [.sl 6 n (λi=>eV (f i))])]),(2,iV q),(6,iV 0),(7,bV false),(8,.ref 0),(29,.sl 1 n (λk=>iV (l k))),(30,nV n),(31,iV (wr .i64 (Ai (ofNat i) 1)))],[.imap 92 t g]⟩):=by
 exact Af (ks:=[kn h0,kn h1,kL n,kn h1,kn h2,kn h2,kn h2,kn h3,kn h2,kn h2,kn h2,kn h4]) (by kernel_rfl)
theorem Ako (h0:ilt (ofNat i) (ofNat n)=true) (h1:Ak (ile 0 (ofNat i)) (ilt (ofNat i) (ofNat n))=true) (h2:isW (f i)=true) (h3:Bn (l i)=true) (h4:ilt q (g (l i))=true):A1 (Fi L) (Ga n f l q) (HV n f l q t g i j)=some (.rt,⟨jsV 48 0 Ab [(6,nV i),(7,bV true)],[]⟩):=by
 exact Af (ks:=[kn h0,kn h1,kL n,kn h1,kn h2,kn h2,kn h2,kn h3,kn h2,kn h2,kn h2,kn h4]) (by kernel_rfl)
end
def Yo (n:Nat) (_:Nat->E6) (l:Nat->Int) (_:Int) (_:Nat) (_:Int->Int) (_:Nat):Nat->V:=lkU 281471218613816 [(0,.sl 1 n (λk=>iV (l k)))]
section
variable (L:LT) (p0:PT) (p2:PT) (n:Nat) (f:Nat->E6) (l:Nat->Int) (q:Int) (t:Nat) (g:Int->Int) (i m:Nat)
include L p0 p2 n f l q t g i m
theorem AiX  (hp0:p0 (JP (onP 0 p0 (K6 n f l q t g i) (onP 2 p2 (LH n f l q t g m) L))) (Q5 n f l q 0 (λ_=>0) 0 (Aij n f l q ))=true) (hp2:p2 (Fi (onP 0 p0 (K6 n f l q t g i) (onP 2 p2 (LH n f l q t g m) L))) (HV n f l q t g 0 (Yo n f l q t g i))=true):(Ay (Aj tab ⟨A2 Ml,onP 0 p0 (K6 n f l q t g i) (onP 2 p2 (LH n f l q t g m) L),Gl⟩ Tryz.f174 [F6 n l,.fn 173 [.pp (.agg [AN n f])],iV q] [])).sem=some ((.tup [iV 0,bV false]),[]):=by
 exact Af (ks:=[kn hp0,kn hp2]) (by kernel_rfl)
theorem AiW  (hp0:p0 (JP (onP 0 p0 (K6 n f l q t g i) (onP 2 p2 (LG n f l q t g m) L))) (Q5 n f l q 0 (λ_=>0) 0 (Aij n f l q ))=true) (hp2:p2 (Fi (onP 0 p0 (K6 n f l q t g i) (onP 2 p2 (LG n f l q t g m) L))) (HV n f l q t g 0 (Yo n f l q t g i))=true):(Ay (Aj tab ⟨A2 Ml,onP 0 p0 (K6 n f l q t g i) (onP 2 p2 (LG n f l q t g m) L),Gl⟩ Tryz.f174 [F6 n l,.fn 173 [.pp (.agg [AN n f])],iV q] [])).sem=some ((.tup [nV m,bV true]),[]):=by
 exact Af (ks:=[kn hp0,kn hp2]) (by kernel_rfl)
end
theorem Wj (L:LT) (n:Nat) (f:Nat->E6) (l:Nat->Int) (q:Int) (hn:n <= 4611686018427387904) (ho:okP n l=true):∀ (d i:Nat) (j:Nat->V) (p:Nat),n=i+d->d<p ->
  (A4 (JP L) (Np n f l q) p (Q5 n f l q (Al (λi=>isW (f i)) i) (gK l (λi=>isW (f i)) i) i j)).sem=some (K6 n f l q (Al (λi=>isW (f i)) n) (gK l (λi=>isW (f i)) n) n)
 | 0,i,j,p+1,h,_=>by
  have:n=i:=by omega
  subst this;exact Ah (Ak5 L n f l q (Al (λi=>isW (f i)) n) (gK l (λi=>isW (f i)) n) n j (Az (Nat.le_refl _)))
 | d+1,i,j,p+1,h,h2=>by
  have hl:i<n:=by omega
  have hc:=BI (λi=>isW (f i)) i;have hc2:=BI (CP l (λi=>isW (f i)) (l i)) i;have ht:nlt (Al (λi=>isW (f i)) i) 4611686018427387904=true:=by simp only [nlt,decide_eq_true_eq]; omega
  have hf:Bn (wr .i64 (Ai (gK l (λi=>isW (f i)) i (l i)) 1))=true:=by
   show Bn (wr .i64 (Ai (ofNat (Al (CP l (λi=>isW (f i)) (l i)) i)) 1))=true;rw [A5 (show Al (CP l (λi=>isW (f i)) (l i)) i<n by omega) hn];exact Te (by omega)
  cases cw:isW (f i) with
  | false =>rw [Ah (Ak4 L n f l q (Al (λi=>isW (f i)) i) (gK l (λi=>isW (f i)) i) i j (ofNat_lt hl) (Ae hl) cw),AY,A5 hl hn,<- AoO (l:=l) (c:=(λi=>isW (f i))) cw,<- BL (p:=(λi=>isW (f i))) cw];exact Wj L n f l q hn ho d (i+1) Ab p (by omega) (by omega)
  | true =>rw [Ah (Ak3 L n f l q (Al (λi=>isW (f i)) i) (gK l (λi=>isW (f i)) i) i j (ofNat_lt hl) (Ae hl) cw (AO.1 ho i hl) ht hf),AY,A5 hl hn,Adi (l:=l) (c:=(λi=>isW (f i))) (i:=i) cw hl hn,show BC (Al (λi=>isW (f i)) i) 1=Al (λi=>isW (f i)) (i+1) from (Bz (p:=(λi=>isW (f i))) cw).symm];exact Wj L n f l q hn ho d (i+1) Ab p (by omega) (by omega)
theorem Sb (L:LT) (n:Nat) (f:Nat->E6) (l:Nat->Int) (q:Int) (t:Nat) (hn:n <= 4611686018427387904) (ho:okP n l=true):∀ (d i:Nat) (j:Nat->V) (p:Nat),n=i+d->d<p ->
  (A4 (Fi L) (Ga n f l q) p (HV n f l q t (gK l (λi=>isW (f i)) n) i j)).sem=some (match AZ (Be n l (λi=>isW (f i)) q) d i with
   | none=>LH n f l q t (gK l (λi=>isW (f i)) n) 0
   | some m=>LG n f l q t (gK l (λi=>isW (f i)) n) m)
 | 0,i,j,p+1,h,_=>by
  have:n=i:=by omega
  subst this;exact Ah (Akn L n f l q t (gK l (λi=>isW (f i)) n) n j (Az (Nat.le_refl _)))
 | d+1,i,j,p+1,h,h2=>by
  have hl:i<n:=by omega
  cases cw:isW (f i) with
  | false =>rw [FD (show Be n l (λi=>isW (f i)) q i=false by unfold Be; rw [show (λi=>isW (f i)) i=false from cw]; rfl),Ah (Akq L n f l q t (gK l (λi=>isW (f i)) n) i j (ofNat_lt hl) (Ae hl) cw),AY,A5 hl hn];exact Sb L n f l q t hn ho d (i+1) Ab p (by omega) (by omega)
  | true =>
   cases cg:ilt q (gK l (λi=>isW (f i)) n (l i)) with
   | false =>rw [FD (show Be n l (λi=>isW (f i)) q i=false by unfold Be; rw [show ilt q (MJ n l (λi=>isW (f i)) (l i))=false from cg]; cases (λi=>isW (f i)) i <;> rfl),Ah (Akp L n f l q t (gK l (λi=>isW (f i)) n) i j (ofNat_lt hl) (Ae hl) cw (AO.1 ho i hl) cg),AY,A5 hl hn];exact Sb L n f l q t hn ho d (i+1) Ab p (by omega) (by omega)
   | true =>rw [FC (show Be n l (λi=>isW (f i)) q i=true by unfold Be; rw [show ilt q (MJ n l (λi=>isW (f i)) (l i))=true from cg,show (λi=>isW (f i)) i=true from cw]; rfl)];exact Ah (Ako L n f l q t (gK l (λi=>isW (f i)) n) i j (ofNat_lt hl) (Ae hl) cw (AO.1 ho i hl) cg)
theorem Aev (n:Nat) (f:Nat->E6) (l:Nat->Int) (q:Int) (hn:n <= 4611686018427387904) (ho:okP n l=true) :
  (Ay (Aj tab (AT Gl Ml [(0,Np n f l q),(2,Ga n f l q)]) Tryz.f174 [F6 n l,.fn 173 [.pp (.agg [AN n f])],iV q] [])).sem=some (.tup [iV (crR n l (λi=>isW (f i)) q).1,bV (crR n l (λi=>isW (f i)) q).2],[]):=by
 have hL:=Bq [(0,Np n f l q),(2,Ga n f l q)];have h0:=λL j=>Wj L n f l q hn ho n 0 j (n+1) (by omega) (by omega);have h2:=λL j=>Sb L n f l q (Al (λi=>isW (f i)) n) hn ho n 0 j (n+1) (by omega) (by omega);rw [AoP] at h0;unfold crR;cases c1:AZ (Be n l (λi=>isW (f i)) q) n 0 with
 | some m =>rw [c1] at h2;exact Bp (Bm (Bm hL hL) hL) _ (AiW _ _ _ n f l q (Al (λi=>isW (f i)) n) (gK l (λi=>isW (f i)) n) n m (AB (h0 _ _)) (AB (h2 _ _)))
 | none =>rw [c1] at h2;exact Bp (Bm (Bm hL hL) hL) _ (AiX _ _ _ n f l q (Al (λi=>isW (f i)) n) (gK l (λi=>isW (f i)) n) n 0 (AB (h0 _ _)) (AB (h2 _ _)))
def OS (n:Nat) (_:Nat->Int) (_:Int):Lp:=⟨bmK 48 0 [0,1,2,6,7,8,14,15,16],1,bmK 48 0 [0,1,2,6,7,8],1,n+1⟩
def TX (n:Nat) (l:Nat->Int) (q:Int) (t:Nat) (g:Int->Int) (i:Nat) (j:Nat->V):St:=⟨jsV 48 0 j [(0,.sl 1 n (λk=>iV (l k))),(1,.fn 176 []),(2,iV q),(6,iV 0),(7,bV false),(8,.ref 0),(14,.sl 1 n (λk=>iV (l k))),(15,nV n),(16,nV i)],[.imap 92 t g]⟩
def K7 (n:Nat) (l:Nat->Int) (q:Int) (t:Nat) (g:Int->Int) (_:Nat):Ex×St:=(.ex 0,⟨jsV 48 0 Ab [(0,.sl 1 n (λk=>iV (l k))),(1,.fn 176 []),(2,iV q),(6,iV 0),(7,bV false),(8,.ref 0)],[.imap 92 t g]⟩)
noncomputable def LR (L:LT):St->T (Ex×St):=λst=>AK tab ⟨A2 Ml,L,Gl⟩ (A3 Tryz.f174 0) 0 st
section
variable (L:LT) (n:Nat) (l:Nat->Int) (q:Int) (t:Nat) (g:Int->Int) (i:Nat)  (j:Nat->V)
include L n l q t g i j
theorem Ak7 (h0:ilt (ofNat i) (ofNat n)=false):A1 (LR L) (OS n l q) (TX n l q t g i j)=some ((.ex 0),⟨jsV 48 0 Ab [(0,.sl 1 n (λk=>iV (l k))),(1,.fn 176 []),(2,iV q),(6,iV 0),(7,bV false),(8,.ref 0)],[.imap 92 t g]⟩):=by
 exact Af (ks:=[kn h0]) (by kernel_rfl)
theorem Ak6 (h0:ilt (ofNat i) (ofNat n)=true) (h1:Ak (ile 0 (ofNat i)) (ilt (ofNat i) (ofNat n))=true) (h3:Bn (l i)=true) (h2:nlt t 4611686018427387904=true) (h4:Bn (wr .i64 (Ai (g (l i)) 1))=true):A1 (LR L) (OS n l q) (TX n l q t g i j)=some (.nm,⟨jsV 48 0 Ab [(0,.sl 1 n (λk=>iV (l k))),(1,.fn 176 []),(2,iV q),(6,iV 0),(7,bV false),(8,.ref 0),(14,.sl 1 n (λk=>iV (l k))),(15,nV n),(16,iV (wr .i64 (Ai (ofNat i) 1)))],[.imap 92 (BC t 1) (λz=>sel (ieq z (l i)) (wr .i64 (Ai (g (l i)) 1)) (g z))]⟩):=by
 exact Af (ks:=[kn h0,kn h1,kT,kn h3,kn h2,kn h3,kn h4]) (by kernel_rfl)
end
def Aik (_:Nat) (_:Nat->Int) (_:Int) :Nat->V:=lkV AH [(13,.ref 0)]
def GU (n:Nat) (_:Nat->Int) (_:Int):Lp:=⟨bmK 48 0 [1,2,6,7,8,29,30,31],1,bmK 48 0 [6,7],0,n+1⟩
def Ju (n:Nat) (l:Nat->Int) (q:Int) (t:Nat) (g:Int->Int) (i:Nat) (j:Nat->V):St:=⟨jsV 48 0 j [(1,.fn 176 []),(2,iV q),(6,iV 0),(7,bV false),(8,.ref 0),(29,.sl 1 n (λk=>iV (l k))),(30,nV n),(31,nV i)],[.imap 92 t g]⟩
def LJ (_:Nat) (_:Nat->Int) (_:Int) (_:Nat) (_:Int->Int) (_:Nat):Ex×St:=(.ex 2,⟨jsV 48 0 Ab [(6,iV 0),(7,bV false)],[]⟩)
def LI (_:Nat) (_:Nat->Int) (_:Int) (_:Nat) (_:Int->Int) (i:Nat):Ex×St:=(.rt,⟨jsV 48 0 Ab [(6,nV i),(7,bV true)],[]⟩)
noncomputable def Gn (L:LT):St->T (Ex×St):=λst=>AK tab ⟨A2 Ml,L,Gl⟩ (A3 Tryz.f174 2) 2 st
section
variable (L:LT) (n:Nat) (l:Nat->Int) (q:Int) (t:Nat) (g:Int->Int) (i:Nat)  (j:Nat->V)
include L n l q t g i j
theorem Akr (h0:ilt (ofNat i) (ofNat n)=false):A1 (Gn L) (GU n l q) (Ju n l q t g i j)=some ((.ex 2),⟨jsV 48 0 Ab [(6,iV 0),(7,bV false)],[]⟩):=by
 exact Af (ks:=[kn h0]) (by kernel_rfl)
theorem Akt (h0:ilt (ofNat i) (ofNat n)=true) (h1:Ak (ile 0 (ofNat i)) (ilt (ofNat i) (ofNat n))=true) (h2:Bn (l i)=true) (h3:ilt q (g (l i))=false):A1 (Gn L) (GU n l q) (Ju n l q t g i j)=some (.nm,⟨jsV 48 0 Ab [(1,.fn 176 []),(2,iV q),(6,iV 0),(7,bV false),(8,.ref 0),(29,.sl 1 n (λk=>iV (l k))),(30,nV n),(31,iV (wr .i64 (Ai (ofNat i) 1)))],[.imap 92 t g]⟩):=by
 exact Af (ks:=[kn h0,kn h1,kT,kT,kT,kn h2,kT,kT,kT,kn h3]) (by kernel_rfl)
theorem Aks (h0:ilt (ofNat i) (ofNat n)=true) (h1:Ak (ile 0 (ofNat i)) (ilt (ofNat i) (ofNat n))=true) (h2:Bn (l i)=true) (h3:ilt q (g (l i))=true):A1 (Gn L) (GU n l q) (Ju n l q t g i j)=some (.rt,⟨jsV 48 0 Ab [(6,nV i),(7,bV true)],[]⟩):=by
 exact Af (ks:=[kn h0,kn h1,kT,kT,kT,kn h2,kT,kT,kT,kn h3]) (by kernel_rfl)
end
def Yp (n:Nat) (l:Nat->Int) (_:Int) (_:Nat) (_:Int->Int) (_:Nat):Nat->V:=lkU 281471218613816 [(0,.sl 1 n (λk=>iV (l k)))]
section
variable (L:LT) (p0:PT) (p2:PT) (n:Nat) (l:Nat->Int) (q:Int) (t:Nat) (g:Int->Int) (i m:Nat)
include L p0 p2 n l q t g i m
theorem AiZ  (hp0:p0 (LR (onP 0 p0 (K7 n l q t g i) (onP 2 p2 (LJ n l q t g m) L))) (TX n l q 0 (λ_=>0) 0 (Aik n l q ))=true) (hp2:p2 (Gn (onP 0 p0 (K7 n l q t g i) (onP 2 p2 (LJ n l q t g m) L))) (Ju n l q t g 0 (Yp n l q t g i))=true):(Ay (Aj tab ⟨A2 Ml,onP 0 p0 (K7 n l q t g i) (onP 2 p2 (LJ n l q t g m) L),Gl⟩ Tryz.f174 [F6 n l,.fn 176 [],iV q] [])).sem=some ((.tup [iV 0,bV false]),[]):=by
 exact Af (ks:=[kn hp0,kn hp2]) (by kernel_rfl)
theorem AiY  (hp0:p0 (LR (onP 0 p0 (K7 n l q t g i) (onP 2 p2 (LI n l q t g m) L))) (TX n l q 0 (λ_=>0) 0 (Aik n l q ))=true) (hp2:p2 (Gn (onP 0 p0 (K7 n l q t g i) (onP 2 p2 (LI n l q t g m) L))) (Ju n l q t g 0 (Yp n l q t g i))=true):(Ay (Aj tab ⟨A2 Ml,onP 0 p0 (K7 n l q t g i) (onP 2 p2 (LI n l q t g m) L),Gl⟩ Tryz.f174 [F6 n l,.fn 176 [],iV q] [])).sem=some ((.tup [nV m,bV true]),[]):=by
 exact Af (ks:=[kn hp0,kn hp2]) (by kernel_rfl)
end
theorem Abu (L:LT) (n:Nat) (l:Nat->Int) (q:Int) (hn:n <= 4611686018427387904) (ho:okP n l=true):∀ (d i:Nat) (j:Nat->V) (p:Nat),n=i+d->d<p ->
  (A4 (LR L) (OS n l q) p (TX n l q (Al (λ_=>true) i) (gK l (λ_=>true) i) i j)).sem=some (K7 n l q (Al (λ_=>true) n) (gK l (λ_=>true) n) n)
 | 0,i,j,p+1,h,_=>by
  have:n=i:=by omega
  subst this;exact Ah (Ak7 L n l q (Al (λ_=>true) n) (gK l (λ_=>true) n) n j (Az (Nat.le_refl _)))
 | d+1,i,j,p+1,h,h2=>by
  have hl:i<n:=by omega
  have hc:=BI (λ_=>true) i;have hc2:=BI (CP l (λ_=>true) (l i)) i;have ht:nlt (Al (λ_=>true) i) 4611686018427387904=true:=by simp only [nlt,decide_eq_true_eq]; omega
  have hf:Bn (wr .i64 (Ai (gK l (λ_=>true) i (l i)) 1))=true:=by
   show Bn (wr .i64 (Ai (ofNat (Al (CP l (λ_=>true) (l i)) i)) 1))=true;rw [A5 (show Al (CP l (λ_=>true) (l i)) i<n by omega) hn];exact Te (by omega)
  rw [Ah (Ak6 L n l q (Al (λ_=>true) i) (gK l (λ_=>true) i) i j (ofNat_lt hl) (Ae hl) (AO.1 ho i hl) ht hf),AY,A5 hl hn,Adi (l:=l) (c:=(λ_=>true)) (i:=i) rfl hl hn,show BC (Al (λ_=>true) i) 1=Al (λ_=>true) (i+1) from (Bz (p:=(λ_=>true)) rfl).symm];exact Abu L n l q hn ho d (i+1) Ab p (by omega) (by omega)
theorem XC (L:LT) (n:Nat) (l:Nat->Int) (q:Int) (t:Nat) (hn:n <= 4611686018427387904) (ho:okP n l=true):∀ (d i:Nat) (j:Nat->V) (p:Nat),n=i+d->d<p ->
  (A4 (Gn L) (GU n l q) p (Ju n l q t (gK l (λ_=>true) n) i j)).sem=some (match AZ (Be n l (λ_=>true) q) d i with
   | none=>LJ n l q t (gK l (λ_=>true) n) 0
   | some m=>LI n l q t (gK l (λ_=>true) n) m)
 | 0,i,j,p+1,h,_=>by
  have:n=i:=by omega
  subst this;exact Ah (Akr L n l q t (gK l (λ_=>true) n) n j (Az (Nat.le_refl _)))
 | d+1,i,j,p+1,h,h2=>by
  have hl:i<n:=by omega
  cases cg:ilt q (gK l (λ_=>true) n (l i)) with
  | false =>rw [FD (show Be n l (λ_=>true) q i=false by unfold Be; rw [show ilt q (MJ n l (λ_=>true) (l i))=false from cg]; cases (λ_=>true) i <;> rfl),Ah (Akt L n l q t (gK l (λ_=>true) n) i j (ofNat_lt hl) (Ae hl) (AO.1 ho i hl) cg),AY,A5 hl hn];exact XC L n l q t hn ho d (i+1) Ab p (by omega) (by omega)
  | true =>rw [FC (show Be n l (λ_=>true) q i=true by unfold Be; rw [show ilt q (MJ n l (λ_=>true) (l i))=true from cg,show (λ_=>true) i=true from rfl]; rfl)];exact Ah (Aks L n l q t (gK l (λ_=>true) n) i j (ofNat_lt hl) (Ae hl) (AO.1 ho i hl) cg)
theorem Aew (n:Nat) (l:Nat->Int) (q:Int) (hn:n <= 4611686018427387904) (ho:okP n l=true) :
  (Ay (Aj tab (AT Gl Ml [(0,OS n l q),(2,GU n l q)]) Tryz.f174 [F6 n l,.fn 176 [],iV q] [])).sem=some (.tup [iV (crR n l (λ_=>true) q).1,bV (crR n l (λ_=>true) q).2],[]):=by
 have hL:=Bq [(0,OS n l q),(2,GU n l q)];have h0:=λL j=>Abu L n l q hn ho n 0 j (n+1) (by omega) (by omega);have h2:=λL j=>XC L n l q (Al (λ_=>true) n) hn ho n 0 j (n+1) (by omega) (by omega);rw [AoP] at h0;unfold crR;cases c1:AZ (Be n l (λ_=>true) q) n 0 with
 | some m =>rw [c1] at h2;exact Bp (Bm (Bm hL hL) hL) _ (AiY _ _ _ n l q (Al (λ_=>true) n) (gK l (λ_=>true) n) n m (AB (h0 _ _)) (AB (h2 _ _)))
 | none =>rw [c1] at h2;exact Bp (Bm (Bm hL hL) hL) _ (AiZ _ _ _ n l q (Al (λ_=>true) n) (gK l (λ_=>true) n) n 0 (AB (h0 _ _)) (AB (h2 _ _)))
def Xj:List V->AA
 | [u,.fn 173 [.pp (.agg [v])],.val (.int .i64 q)]=>apI u λm l=>apL v λn f=>.br (BY n m) (.br (Au n) (.br (okP m l) (out (.tup [iV (crR m l (λi=>isW (f i)) q).1,bV (crR m l (λi=>isW (f i)) q).2])) .fail) .fail) .fail
 | [u,.fn 176 [],.val (.int .i64 q)]=>apI u λm l=>.br (Au m) (.br (okP m l) (out (.tup [iV (crR m l (λ_=>true) q).1,bV (crR m l (λ_=>true) q).2])) .fail) .fail
 | _=>.fail
theorem p91:As Tryz.prog Gl 174 Xj:=by
 refine Am A0 mixed Tryz.func174 (by kernel_rfl) (by kernel_rfl) λvs v h' h=>?_;unfold Xj at h;split at h
 ·rename_i u1 v1 q
  obtain ⟨m,l,ha,h1⟩:=FG h;obtain ⟨n,f,hb,h2⟩:=CG h1;obtain ⟨hm,h3⟩:=Ad h2;obtain ⟨hn,h4⟩:=Ad h3;obtain ⟨ho,hq⟩:=Ad h4;have hm:n=m:=Nat.eq_of_beq_eq_true hm;subst hm;have:=Aa hq;simp only [Prod.mk.injEq] at this;obtain ⟨rfl,rfl⟩:=this;have hn:n <= 4611686018427387904:=of_decide_eq_true hn;have hA:Bw [u1,.fn 173 [.pp (.agg [v1])],.val (.int .i64 q)] [F6 n l,.fn 173 [.pp (.agg [AN n f])],iV q]:=λS w cs hv=>by
   obtain ⟨c,l1,rfl,q1,c2,l2,rfl,⟨ca,q4,c5,l5,q5,q6,q7⟩,q3⟩:=hv;exact ⟨c,_,rfl,ha S w c q1,c2,l2,rfl,⟨ca,q4,c5,l5,q5,AhI hb S w noK c5 q6,q7⟩,q3⟩
  have hx:=Bs X3 [(0,Np n f l q),(2,Ga n f l q)];exact ⟨_,AT Gl Ml [(0,Np n f l q),(2,Ga n f l q)],_,hA,rfl,hx.1,hx.2,Aev n f l q hn ho,Aw.refl _⟩
 ·rename_i u1 q
  obtain ⟨n,l,ha,h1⟩:=FG h;obtain ⟨hn,h4⟩:=Ad h1;obtain ⟨ho,hq⟩:=Ad h4;have:=Aa hq;simp only [Prod.mk.injEq] at this;obtain ⟨rfl,rfl⟩:=this;have hn:n <= 4611686018427387904:=of_decide_eq_true hn;have hA:Bw [u1,.fn 176 [],.val (.int .i64 q)] [F6 n l,.fn 176 [],iV q]:=λS w cs hv=>by
   obtain ⟨c,l1,rfl,q1,q3⟩:=hv;exact ⟨c,_,rfl,ha S w c q1,q3⟩
  have hx:=Bs X3 [(0,OS n l q),(2,GU n l q)];exact ⟨_,AT Gl Ml [(0,OS n l q),(2,GU n l q)],_,hA,rfl,hx.1,hx.2,Aew n l q hn ho,Aw.refl _⟩
 ·cases h
end Go.Proofs.YtkbafjceglhjhaaGreatDoor.Ed
namespace Go.Sy
inductive DT (α:Type) where
 | lf (a:α)
 | fl
 | kn (b c:Bool) (d:DT α)
 | ak (o:Option (Ex×St)) (r:Ex×St) (d:DT α)
 | sp (d e:DT α)
def DT.cs {α:Type}:DT α->List Bool
 | .lf _=>[]
 | .fl=>[]
 | .kn b _ d=>b::d.cs
 | .ak _ _ d=>d.cs
 | .sp d e=>d.cs++e.cs
def DT.os {α:Type}:DT α->List (Option (Ex×St))
 | .lf _=>[]
 | .fl=>[]
 | .kn _ _ d=>d.os
 | .ak o _ d=>o::d.os
 | .sp d e=>d.os++e.os
def DT.ls {α:Type}:DT α->List α
 | .lf a=>[a]
 | .fl=>[]
 | .kn _ _ d=>d.ls
 | .ak _ _ d=>d.ls
 | .sp d e=>d.ls++e.ls
def DT.run {α:Type}:DT α->T α->Option (List Bool×List (Option (Ex×St))×List α)
 | .lf _,.leaf a=>some ([],[],[a])
 | .fl,_=>some ([],[],[])
 | .kn _ c d,.br b x y=>match (match c with | true=>d.run x | false=>d.run y) with
  | some (cs,os,ls)=>some (b::cs,os,ls)
  | none=>none
 | .ak _ r d,.ask o k=>match d.run (k r) with
  | some (cs,os,ls)=>some (cs,o::os,ls)
  | none=>none
 | .sp d e,t=>match d.run t,e.run t with
  | some (cs,os,ls),some (cs',os',ls')=>some (cs++cs',os++os',ls++ls')
  | _,_=>none
 | _,_=>none
inductive DK {α β:Type} (L:β->α):T β->DT α->Prop where
 | e {a:β} {b:α} (h:b=L a):DK L (.leaf a) (.lf b)
 | f:DK L .fail .fl
 | k {C:T β} {b c:Bool} {d:DT α} (h:b=c) (w:DK L C d):DK L C (.kn b c d)
 | a {C:T β} {o:Option (Ex×St)} {r:Ex×St} {d:DT α} (h:o=some r) (w:DK L C d):DK L C (.ak o r d)
 | c {b:Bool} {X Y:T β} {d e:DT α} (w:b=true->DK L X d) (u:b=false->DK L Y e):DK L (.br b X Y) (.sp d e)
 | g {b:Bool} {X:T β} {d:DT α} (w:b=true->DK L X d):DK L (.br b X .fail) d
def DT.knR {α:Type}:Nat->Bool->Bool->DT α->DT α
 | 0,_,_,d=>d
 | n+1,b,c,d=>.kn b c (knR n b c d)
theorem DK.r {α β:Type} {L:β->α} {C:T β} {b c:Bool} {d:DT α} (n:Nat) (h:b=c) (w:DK L C d):DK L C (DT.knR n b c d):=by
 induction n with
 | zero=>exact w
 | succ n ih=>exact .k h ih
theorem DK.l {α β:Type} {L:β->α} {a:β}:DK L (.leaf a) (.lf (L a)):=.e rfl
theorem DT.run_len {α:Type} {d:DT α}:∀ {t:T α} {cs:List Bool} {os:List (Option (Ex×St))} {ls:List α},d.run t=some (cs,os,ls)->cs.length=d.cs.length∧os.length=d.os.length∧ls.length=d.ls.length:=by
 induction d with
 | lf a =>intro t cs os ls h;cases t <;> cases h;exact ⟨rfl,rfl,rfl⟩
 | fl=>intro t cs os ls h; simp only [DT.run] at h; cases h; exact ⟨rfl,rfl,rfl⟩
 | kn b c d ih =>
  intro t cs os ls h;cases t with
  | br b' x y =>
   simp only [DT.run] at h;split at h
   ·rename_i cs' os' ls' hr
    cases h;cases c <;> (obtain ⟨e1,e2⟩:=ih hr; exact ⟨congrArg Nat.succ e1,e2⟩)
   ·cases h
  | _=>cases h
 | ak o r d ih =>
  intro t cs os ls h;cases t with
  | ask o' k =>
   simp only [DT.run] at h;split at h
   ·rename_i hr
    cases h;obtain ⟨e1,e2,e3⟩:=ih hr;exact ⟨e1,congrArg Nat.succ e2,e3⟩
   ·cases h
  | _=>cases h
 | sp d e ih ih' =>
  intro t cs os ls h;simp only [DT.run] at h;split at h
  ·rename_i hx hy
   cases h;obtain ⟨e1,e2,e3⟩:=ih hx;obtain ⟨f1,f2,f3⟩:=ih' hy;simp only [DT.cs,DT.os,DT.ls,List.length_append,e1,e2,e3,f1,f2,f3,and_self]
  ·cases h
theorem DK.ok {α β:Type} {L:β->α} {C:T β} {d:DT α} (w:DK L C d):∀ {t:T α},d.run t=some (d.cs,d.os,d.ls)->∀ {r:β},C.sem=some r->t.sem=some (L r):=by
 induction w with
 | e hab =>
  intro t h r hr;cases t with
  | leaf b =>simp only [DT.run,DT.cs,DT.os,DT.ls,Option.some.injEq,Prod.mk.injEq,List.cons.injEq,and_true,true_and] at h;subst h;rw [hab];exact congrArg (λo=>o.map L) hr
  | _=>cases h
 | f=>intro t h r hr; cases hr
 | k hb w ih =>
  rename_i C b c d;intro t h r hr;cases t with
  | br b' x y =>
   simp only [DT.run] at h;split at h
   ·rename_i hx
    simp only [DT.cs,DT.os,DT.ls,Option.some.injEq,Prod.mk.injEq,List.cons.injEq] at h;obtain ⟨⟨rfl,rfl⟩,rfl,rfl⟩:=h;subst hb;cases b' with
    | true=>exact ih hx hr
    | false=>exact ih hx hr
   ·cases h
  | _=>cases h
 | a ho w ih =>
  rename_i C o q d;intro t h r hr;cases t with
  | ask o' k =>
   simp only [DT.run] at h;split at h
   ·rename_i hx
    simp only [DT.cs,DT.os,DT.ls,Option.some.injEq,Prod.mk.injEq,List.cons.injEq] at h;obtain ⟨rfl,⟨rfl,rfl⟩,rfl⟩:=h;subst ho;exact ih hx hr
   ·cases h
  | _=>cases h
 | c w u ih ih' =>
  rename_i b X Y d e;intro t h r hr;simp only [DT.run] at h;split at h
  ·rename_i hx hy
   simp only [DT.cs,DT.os,DT.ls,Option.some.injEq,Prod.mk.injEq] at h;obtain ⟨hc,ho,hl⟩:=h;obtain ⟨e1,e2,e3⟩:=DT.run_len hx;obtain ⟨rfl,rfl⟩:=List.append_inj hc e1;obtain ⟨rfl,rfl⟩:=List.append_inj ho e2;obtain ⟨rfl,rfl⟩:=List.append_inj hl e3;cases hb:b with
   | true=>rw [hb] at hr; exact ih hb hx hr
   | false=>rw [hb] at hr; exact ih' hb hy hr
  ·cases h
 | g w ih =>intro t h r hr;obtain ⟨hb,hr⟩:=Ad hr;exact ih hb h hr
theorem DK.of {α:Type} {C t:T α} {r:α} (h:C.sem=some r) {d:DT α} (w:DK (λa=>a) C d) (e:d.run t=some (d.cs,d.os,d.ls)):t.sem=some r:=w.ok e h
def Cm {σ ρ:Type} (g:Nat->σ->T (σ ⊕ ρ)) (fin:σ->ρ):Nat->Nat->σ->Option ρ
 | 0,_,a=>some (fin a)
 | d+1,i,a=>match (g i a).sem with
  | some (.inl b)=>Cm g fin d (i+1) b
  | some (.inr e)=>some e
  | none=>none
def goR {σ ρ:Type} (S:Int->σ->(Nat->V)->St) (R:ρ->Ex×St) (i:Nat):σ ⊕ ρ->Ex×St
 | .inl b=>(.nm,S (wr .i64 (Ai (Int.ofNat i) 1)) b λ_=>.und)
 | .inr e=>R e
theorem CU {i n:Nat} (h:i<n) (hn:n <= 4611686018427387904):wr .i64 (Ai (Int.ofNat i) 1)=Int.ofNat (i+1):=by
 unfold wr Ai IntKind.wrap;simp [IntKind.bits,IntKind.signed];omega
theorem AW {σ ρ:Type} {f:St->T (Ex×St)} {lp:Lp} {S:Int->σ->(Nat->V)->St} {R:ρ->Ex×St} (hR:∀ e,(R e).1 ≠ .nm) {n:Nat} (hn:n <= 4611686018427387904) {g:Nat->σ->T (σ ⊕ ρ)} {fin:σ->ρ}
  (h:∀ i a j r,i<n->(g i a).sem=some r->A1 f lp (S (Int.ofNat i) a j)=some (goR S R i r)) (h0:∀ a j,A1 f lp (S (Int.ofNat n) a j)=some (R (fin a))) :
  ∀ {d i:Nat} {a:σ} {j:Nat->V} {q:Nat} {e:ρ},n=i+d->d<q->Cm g fin d i a=some e->(A4 f lp q (S (Int.ofNat i) a j)).sem=some (R e):=by
 have stop:∀ {o:Nat} {e:ρ},Ade f lp o (some (R e))=some (R e):=fun {o e}=>by
  have:=hR e;cases hr:R e with
  | mk x s =>rw [hr] at this;cases x <;> first | exact absurd rfl this | rfl
 intro d
 induction d with
 | zero =>
  intro i a j q e hi hq he;obtain ⟨q,rfl⟩:∃ o,q=o+1:=⟨q-1,by omega⟩;obtain rfl:n=i:=by omega
  simp only [Cm,Option.some.injEq] at he;rw [Ah (h0 a j),stop,he]
 | succ d ih =>
  intro i a j q e hi hq he;obtain ⟨q,rfl⟩:∃ o,q=o+1:=⟨q-1,by omega⟩;simp only [Cm] at he;split at he
  ·rename_i b hb
   rw [Ah (h i a j _ (by omega) hb)];show (A4 f lp q (S (wr .i64 (Ai (Int.ofNat i) 1)) b λ_=>.und)).sem=_;rw [CU (show i<n by omega) hn];exact ih (by omega) (by omega) he
  ·rename_i b hb
   rw [Ah (h i a j _ (by omega) hb)];simp only [Option.some.injEq] at he;subst he;exact stop
  ·cases he
def nzE:Ex->Ex
 | .nm=>.rt
 | e=>e
def exR (e:Ex×St):Ex×St:=(nzE e.1,e.2)
theorem BG (e:Ex×St):(exR e).1 ≠ .nm:=by
 obtain ⟨x,s⟩:=e;cases x <;> exact λh=>by cases h
def Y7 (st:St):List (Nat×(Nat->V))->St
 | []=>st
 | (id,g)::l=>Y7 (match st.h[id]? with
   | some (.row e s 0 _)=>⟨st.t,st.h.set id (.row e s 0 g)⟩
   | some (.jag j)=>⟨st.t,st.h.set id (.jag { j with mem:=λk q=>bif Nat.blt q (j.len k) then j.mem k q else g q })⟩
   | _=>st) l
theorem VC {Γ:Cx0}:∀ (l:List (Nat×(Nat->V))) (st:St),LE Γ st (Y7 st l)
 | [],st=>LE.refl st
 | (id,g)::l,st=>by
   refine LE.trans ?_ (VC l _);split
   ·rename_i hb
    exact Aek hb λj hj=>absurd hj (Nat.not_lt_zero _)
   ·rename_i j hb
    exact Ael hb (λ_ _=>rfl) (λ_ _=>rfl) (λ_ _=>rfl) λk _ q hq=>by
     show (bif Nat.blt q (j.len k) then j.mem k q else g q)=_;rw [show Nat.blt q (j.len k)=true from Nat.ble_eq_true_of_le hq];rfl
   ·exact LE.refl st
def askL (ls:List (Nat×Lp×List (Nat×(Nat->V)))) (id:Nat) (f:St->T (Ex×St)) (st:St):T (Ex×St) :=
 match Lq id ls with
 | some (l,z)=>.ask (A4 f l l.fuel (Y7 (Hv l.ks l.n st) z)).sem .leaf
 | none=>.fail
theorem Ei (c:FuncId->List V->St->T (V×Res)) (G:Nat->V) (ls:List (Nat×Lp×List (Nat×(Nat->V)))):BU ⟨c,askL ls,G⟩:=λid f st r hr=>by
 have hr:(askL ls id f st).sem=some r:=hr;unfold askL at hr;split at hr
 ·rename_i l z _
  cases hi:(A4 f l l.fuel (Y7 (Hv l.ks l.n st) z)).sem with
  | none=>rw [hi] at hr; cases hr
  | some r' =>rw [hi] at hr;cases hr;exact .run (.weak ((Js _ _ _).trans (VC _ _)) (JE hi))
 ·cases hr
def cxA (G:Nat->V) (tbl:AE) (ls:List (Nat×Lp×List (Nat×(Nat->V)))):Cx:=⟨A2 tbl,askL ls,G⟩
theorem Bd {P:Program} {G:Nat->V} {tbl:AE} (h:Ar P G tbl) (ls:List (Nat×Lp×List (Nat×(Nat->V)))):Bi P (cxA G tbl ls).base∧BU (cxA G tbl ls):=⟨FF rfl h,Ei _ _ _⟩
theorem AqY {v v':V} {l:List V} (h:∀ (S:Nat->Prop) (w:World) (u:Value),VR S w v noK u->VR S w v' noK u):Bw (v::l) (v'::l):=λS w cs hv=>by
 obtain ⟨c,m,e,q1,q2⟩:=hv;exact ⟨c,m,e,h S w c q1,q2⟩
theorem eN {b c:Bool} (h:b=c):AV b=AV c:=congrArg AV h
theorem eA {b c b' c':Bool} (h:b=c) (h':b'=c'):Ak b b'=Ak c c':=by rw [h,h']
theorem eT:true=true:=rfl
theorem eF:false=false:=rfl
theorem eI (x:Int):ieq x x=true:=by simp [ieq]
theorem eJ (n:Nat):BY n n=true:=Nat.beq_refl n
theorem eG:∀ l:List Nat,BP (l.map λn=>.jag ⟨0,0,n,λ_=>.und,0,0,0,λ_=>true,λ_=>0,λ_ _=>.und,none⟩)=true
 | []=>rfl
 | n::l=>by simpa [BP] using eG l
theorem eR:∀ l:List (Nat×Option (Nat->Nat)),Ct (l.map λp=>match p.2 with
  | none=>.row 0 0 p.1 λ_=>iV 0
  | some f=>.jag ⟨0,1,p.1,λ_=>.und,0,0,0,λ_=>true,f,λ_ _=>iV 0,none⟩)=true
 | []=>rfl
 | (n,none)::l=>by
   have:=eR l;simp only [List.map_cons,Ct,this,Bool.and_true,List.all_eq_true];exact λ_ _=>rfl
 | (n,some f)::l=>by
   have:=eR l;simp only [List.map_cons,Ct,this,Bool.and_true,List.all_eq_true,Bool.and_eq_true];exact λ_ _=>⟨rfl,λ_ _=>rfl⟩
end Go.Sy
namespace Go.Proofs.YtkbafjceglhjhaaGreatDoor.Ed
open Go.Sy Go
theorem eL (n:Nat):Bo n (λ_=>true)=true:=AO.2 λ_ _=>rfl
theorem eL2 (q:Nat) (C:Nat->Nat×(Nat->Int)):(Bo q λi=>Bo (C i).1 λ_=>true)=true:=AO.2 λ_ _=>eL _
theorem Ll {i n:Nat} (h:i<n):ieq (Int.ofNat n) 0=false:=by simp [ieq]; omega
theorem Cv {σ ρ:Type} {g:Nat->σ->T (σ ⊕ ρ)} {fin:σ->ρ} {acc:Nat->σ} {n:Nat} (hc:∀ i,i<n->(g i (acc i)).sem=some (.inl (acc (i+1)))):∀ d i,i+d=n->Cm g fin d i (acc i)=some (fin (acc n))
 | 0,i,h=>by rw [<- h]; rfl
 | d+1,i,h=>by
  rw [Cm,hc i (by omega)];exact Cv hc d (i+1) (by omega)
theorem Gh {σ ρ:Type} {g:Nat->σ->T (σ ⊕ ρ)} {fin:σ->ρ} {acc:Nat->σ} {m:Nat} {x:ρ} (hc:∀ i,i<m->(g i (acc i)).sem=some (.inl (acc (i+1)))) (hx:(g m (acc m)).sem=some (.inr x)):∀ d i,i <= m->m<i+d->Cm g fin d i (acc i)=some x
 | 0,i,h,h2=>by omega
 | d+1,i,h,h2=>by
  rcases Nat.lt_or_ge i m with hm | hm
  ·rw [Cm,hc i hm]
   exact Gh hc hx d (i+1) (by omega) (by omega)
  ·obtain rfl:i=m:=by omega
   rw [Cm,hx]
section
variable {σ ρ:Type} {g:Nat->σ->T (σ ⊕ ρ)} {fin:σ->ρ} {p:Nat->Bool} {a:σ} {x:ρ} {n:Nat} (hc:∀ i,i<n->(g i a).sem=sel (p i) (some (.inl a)) (some (.inr x)))
include hc
theorem Pn:∀ d i,i+d=n->(∀ k,k<i->p k=true)->Cm g fin d i a=some (sel (Bo n p) (fin a) x)
 | 0,i,h,hb=>by
  rw [show Bo n p=true from AO.2 λk hk=>hb k (by omega)];rfl
 | d+1,i,h,hb=>by
  rw [Cm,hc i (by omega)];cases hp:p i with
  | true =>
   exact Pn d (i+1) (by omega) λk hk=>by
    by_cases e:k=i
    ·rw [e]; exact hp
    ·exact hb k (by omega)
  | false =>
   cases ha:Bo n p with
   | false=>rfl
   | true =>have:=AO.1 ha i (by omega);rw [hp] at this;cases this
theorem PY (h:Bo n p=true):Cm g fin n 0 a=some (fin a):=by
 rw [Pn hc n 0 (Nat.zero_add n) λ_ h=>absurd h (Nat.not_lt_zero _),h];rfl
theorem PZ (h:Bo n p=false):Cm g fin n 0 a=some x:=by
 rw [Pn hc n 0 (Nat.zero_add n) λ_ h=>absurd h (Nat.not_lt_zero _),h];rfl
end
end Go.Proofs.YtkbafjceglhjhaaGreatDoor.Ed
