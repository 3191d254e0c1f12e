/-
  crowded: the first event whose part has too many. No conditions.
-/
import Derived.Test.YthlojajaenfidaaGreatDoorCyQ
namespace Go.Proofs.YthlojajaenfidaaGreatDoor.Ed
open Go.Sy
open Int (ofNat)
theorem Ae7 {v u:V} (h:∀ (S:Nat->Prop) (w:World) (c:Value),VR S w v noK c->VR S w u noK c) (S:Nat->Prop) (w:World) (κ:Nat->Option Value) (c:Value) (hv:VR S w (.pp (.agg [v])) κ c):VR S w (.pp (.agg [u])) κ c:=by
 obtain ⟨b,o,cv,q1,⟨ca,q2,a,l',q3,q4,q5⟩,q6⟩:=hv
 exact ⟨b,o,cv,q1,⟨ca,q2,a,l',q3,h S w a q4,q5⟩,q6⟩
def Aip:List V->T (V × List Blk)
 | [.val (.int .i64 i),.pp (.agg [v])]=>apL v λn f=>.br (Al (ile 0 i) (ilt i (ofNat n))) (out (bV (isW (f (toN i))))) .fail
 | _=>.fail
def YT:List V->T (V × List Blk)
 | [.val (.int .i64 _)]=>out (bV true)
 | _=>.fail
theorem AlM (L:LT) (i:Int) (n:Nat) (f:Nat->E6) (h0:Al (ile 0 i) (ilt i (ofNat n)) = true):(Au (Ah tab ⟨Ak tb0,L,Gl⟩ Tryz.f32 [iV i,.pp (.agg [A5 n f])] [])).sem = some ((bV (ieq ((f (toN i))).src 2)),[]):=by
 exact Aa (ks:=[kn h0]) (by kernel_rfl)
theorem AlL (L:LT) (i:Int) :(Au (Ah tab ⟨Ak tb0,L,Gl⟩ Tryz.f35 [iV i] [])).sem = some ((bV true),[]):=by
 exact Aa (ks:=[]) (by kernel_rfl)
theorem p90:A6 Tryz.prog Gl 32 Aip:=by
 refine Av AI mixed Tryz.func32 (by kernel_rfl) (by kernel_rfl) λvs v h' h=>?_
 unfold Aip at h
 split at h
 ·rename_i i u
  obtain ⟨n,f,ha,h1⟩:=Cc h
  obtain ⟨hi,hq⟩:=Ad h1
  have:=Ac hq
  simp only [Prod.mk.injEq] at this
  obtain ⟨rfl,rfl⟩:=this
  have hA:Bm [.val (.int .i64 i),.pp (.agg [u])] [iV i,.pp (.agg [A5 n f])]:=λS w cs hv=>by
   obtain ⟨c,l,rfl,q1,c2,l2,rfl,q2,q3⟩:=hv
   exact ⟨c,_,rfl,q1,c2,l2,rfl,Ae7 ha S w noK c2 q2,q3⟩
  have hx:=AK Dn []
  exact ⟨_,AN Gl tb0 [],_,hA,rfl,hx.1,hx.2,AlM _ i n f hi,A0.refl _⟩
 ·cases h
theorem p93:A6 Tryz.prog Gl 35 YT:=by
 refine Av AI mixed Tryz.func35 (by kernel_rfl) (by kernel_rfl) λvs v h' h=>?_
 unfold YT at h
 split at h
 ·have:=Ac h
  simp only [Prod.mk.injEq] at this
  obtain ⟨rfl,rfl⟩:=this
  have hx:=AK Dn []
  exact ⟨_,AN Gl tb0 [],_,Bm.refl _,rfl,hx.1,hx.2,AlL _ _,A0.refl _⟩
 ·cases h
noncomputable def Ly:List (Nat × (List V->T (V × List Blk))):=(32,Aip) :: (35,YT) :: []
theorem Wb:A8 Tryz.prog Gl Ly:=.cons p90 <| .cons p93 .nil
def gK (l:Nat->Int) (c:Nat->Bool) (i:Nat) (x:Int):Int:=ofNat (Aj (Cq l c x) i)
theorem Alz (l:Nat->Int) (c:Nat->Bool):gK l c 0 = λ_=>0:=rfl
theorem Aly {l:Nat->Int} {c:Nat->Bool} {i:Nat} (h:c i = false):gK l c (i+1) = gK l c i:=by
 funext x
 unfold gK
 rw [B5]
 rw [Cq,h]
 cases ieq (l i) x <;> rfl
theorem AaU {l:Nat->Int} {c:Nat->Bool} {i n:Nat} (h:c i = true) (hi:i < n) (hn:n <= 4611686018427387904):(λk=>sel (ieq k (l i)) (wr .i64 (Af (gK l c i (l i)) 1)) (gK l c i k)) = gK l c (i+1):=by
 funext x
 by_cases hx:x = l i
 ·subst hx
  have h1:ieq (l i) (l i) = true:=by simp [ieq]
  rw [h1]
  show wr .i64 (Af (ofNat (Aj (Cq l c (l i)) i)) 1) = _
  have:=AV (Cq l c (l i)) i
  rw [An (show Aj (Cq l c (l i)) i < n by omega) hn]
  unfold gK
  rw [Bi (show Cq l c (l i) i = true by rw [Cq,h,h1]; rfl)]
 ·have h1:ieq x (l i) = false:=by simp [ieq,hx]
  rw [h1]
  show gK l c i x = _
  unfold gK
  rw [B5 (show Cq l c x i = false by rw [Cq,show ieq (l i) x = false by simp [ieq]; omega]; rfl)]
theorem R1 {a:Nat} (h:a <= 4611686018427387904):Ff (ofNat a) = true:=by
 simp only [Ff,Bool.and_eq_true,decide_eq_true_eq,Int.ofNat_eq_natCast]
 omega
def okP (n:Nat) (l:Nat->Int):Bool:=AJ n λi=>Ff (l i)
def AH (n:Nat) (l:Nat->Int) (c:Nat->Bool) (q:Int) (i:Nat):Bool:=Al (c i) (ilt q (Gp n l c (l i)))
def crR (n:Nat) (l:Nat->Int) (c:Nat->Bool) (q:Int):Int × Bool :=
 match Ba (AH n l c q) n 0 with
 | some t=>(ofNat t,true)
 | none=>(0,false)
def Mt (n:Nat) (_:Nat->E6) (_:Nat->Int) (_:Int):Lp:=⟨(bmK 48 0 [0,1,2,6,7,8,14,15,16]),1,bmK 48 0 [0,1,2,6,7,8],1,n+1⟩
def Pr (n:Nat) (f:Nat->E6) (l:Nat->Int) (q:Int) (t:Nat) (g:Int->Int) (i:Nat) (j:Nat->V):St:=⟨(jsV 48 0 j [(0,.sl 1 n (λk=>iV (l k))),(1,.fn 32 [.pp (.agg [A5 n f])]),(2,iV q),(6,iV 0),(7,bV false),(8,.ref 0),(14,.sl 1 n (λk=>iV (l k))),(15,nV n),(16,nV i)]),[.imap 59 t g]⟩
def JE (n:Nat) (f:Nat->E6) (l:Nat->Int) (q:Int) (t:Nat) (g:Int->Int) (_:Nat):Ex × St:=(.ex 0,⟨(jsV 48 0 (λ_=>.und) [(0,.sl 1 n (λk=>iV (l k))),(1,.fn 32 [.pp (.agg [A5 n f])]),(2,iV q),(6,iV 0),(7,bV false),(8,.ref 0)]),[.imap 59 t g]⟩)
noncomputable def IY (L:LT):St->T (Ex × St):=λst=>AD tab ⟨Ak Ly,L,Gl⟩ (As Tryz.f33 0) 0 st
section
variable (L:LT) (n:Nat) (f:Nat->E6) (l:Nat->Int) (q:Int) (t:Nat) (g:Int->Int) (i:Nat)  (j:Nat->V)
include L n f l q t g i j
theorem Ahz (h0:ilt (ofNat i) (ofNat n) = false):Ag (IY L) (Mt n f l q) (Pr n f l q t g i j) = some ((.ex 0),⟨(jsV 48 0 (λ_=>.und) [(0,(.sl 1 n (λk=>(iV (l k))))),(1,(.fn 32 [(.pp (.agg [(.sl 6 n (λi=>(eV (f i))))]))])),(2,(iV q)),(6,(iV 0)),(7,(bV false)),(8,(.ref 0))]),[(.imap 59 t g)]⟩):=by
 exact Aa (ks:=[kn h0]) (by kernel_rfl)
theorem Ahy (h0:ilt (ofNat i) (ofNat n) = true) (h1:Al (ile 0 (ofNat i)) (ilt (ofNat i) (ofNat n)) = true) (h2:isW (f i) = false):Ag (IY L) (Mt n f l q) (Pr n f l q t g i j) = some (.nm,⟨(jsV 48 0 (λ_=>.und) [(0,(.sl 1 n (λk=>(iV (l k))))),(1,(.fn 32 [(.pp (.agg [(.sl 6 n (λi=>(eV (f i))))]))])),(2,(iV q)),(6,(iV 0)),(7,(bV false)),(8,(.ref 0)),(14,(.sl 1 n (λk=>(iV (l k))))),(15,(nV n)),(16,(iV (wr .i64 (Af (ofNat i) 1))))]),[(.imap 59 t g)]⟩):=by
 exact Aa (ks:=[kn h0,kn h1,kL n,kn h1,kn h2]) (by kernel_rfl)
theorem Ahx (h0:ilt (ofNat i) (ofNat n) = true) (h1:Al (ile 0 (ofNat i)) (ilt (ofNat i) (ofNat n)) = true) (h2:isW (f i) = true) (h4:Ff (l i) = true) (h3:nlt t 4611686018427387904 = true) (h5:Ff (wr .i64 (Af (g (l i)) 1)) = true):Ag (IY L) (Mt n f l q) (Pr n f l q t g i j) = some (.nm,⟨(jsV 48 0 (λ_=>.und) [(0,(.sl 1 n (λk=>(iV (l k))))),(1,(.fn 32 [(.pp (.agg [(.sl 6 n (λi=>(eV (f i))))]))])),(2,(iV q)),(6,(iV 0)),(7,(bV false)),(8,(.ref 0)),(14,(.sl 1 n (λk=>(iV (l k))))),(15,(nV n)),(16,(iV (wr .i64 (Af (ofNat i) 1))))]),[(.imap 59 (Bd t 1) (λz=>(sel (ieq z (l i)) (wr .i64 (Af (g (l i)) 1)) (g z))))]⟩):=by
 exact Aa (ks:=[kn h0,kn h1,kL n,kn h1,kn h2,kn h4,kn h3,kn h4,kn h5]) (by kernel_rfl)
end
def AeN (_:Nat) (_:Nat->E6) (_:Nat->Int) (_:Int) :Nat->V:=lkV A7 [(13,(.ref 0))]
def Fc (n:Nat) (_:Nat->E6) (_:Nat->Int) (_:Int):Lp:=⟨(bmK 48 0 [1,2,6,7,8,29,30,31]),1,bmK 48 0 [6,7],0,n+1⟩
def GV (n:Nat) (f:Nat->E6) (l:Nat->Int) (q:Int) (t:Nat) (g:Int->Int) (i:Nat) (j:Nat->V):St:=⟨(jsV 48 0 j [(1,.fn 32 [.pp (.agg [A5 n f])]),(2,iV q),(6,iV 0),(7,bV false),(8,.ref 0),(29,.sl 1 n (λk=>iV (l k))),(30,nV n),(31,nV i)]),[.imap 59 t g]⟩
def KF (_:Nat) (_:Nat->E6) (_:Nat->Int) (_:Int) (_:Nat) (_:Int->Int) (_:Nat):Ex × St:=(.ex 2,⟨(jsV 48 0 (λ_=>.und) [(6,iV 0),(7,bV false)]),[]⟩)
def KE (_:Nat) (_:Nat->E6) (_:Nat->Int) (_:Int) (_:Nat) (_:Int->Int) (i:Nat):Ex × St:=(.rt,⟨(jsV 48 0 (λ_=>.und) [(6,nV i),(7,bV true)]),[]⟩)
noncomputable def Eg (L:LT):St->T (Ex × St):=λst=>AD tab ⟨Ak Ly,L,Gl⟩ (As Tryz.f33 2) 2 st
section
variable (L:LT) (n:Nat) (f:Nat->E6) (l:Nat->Int) (q:Int) (t:Nat) (g:Int->Int) (i:Nat)  (j:Nat->V)
include L n f l q t g i j
theorem AgZ (h0:ilt (ofNat i) (ofNat n) = false):Ag (Eg L) (Fc n f l q) (GV n f l q t g i j) = some ((.ex 2),⟨(jsV 48 0 (λ_=>.und) [(6,(iV 0)),(7,(bV false))]),[]⟩):=by
 exact Aa (ks:=[kn h0]) (by kernel_rfl)
theorem Ahc (h0:ilt (ofNat i) (ofNat n) = true) (h1:Al (ile 0 (ofNat i)) (ilt (ofNat i) (ofNat n)) = true) (h2:isW (f i) = false):Ag (Eg L) (Fc n f l q) (GV n f l q t g i j) = some (.nm,⟨(jsV 48 0 (λ_=>.und) [(1,(.fn 32 [(.pp (.agg [(.sl 6 n (λi=>(eV (f i))))]))])),(2,(iV q)),(6,(iV 0)),(7,(bV false)),(8,(.ref 0)),(29,(.sl 1 n (λk=>(iV (l k))))),(30,(nV n)),(31,(iV (wr .i64 (Af (ofNat i) 1))))]),[(.imap 59 t g)]⟩):=by
 exact Aa (ks:=[kn h0,kn h1,kL n,kn h1,kn h2,kn h2,kn h2,kn h2,kn h2,kn h2,kF]) (by kernel_rfl)
theorem Ahb (h0:ilt (ofNat i) (ofNat n) = true) (h1:Al (ile 0 (ofNat i)) (ilt (ofNat i) (ofNat n)) = true) (h2:isW (f i) = true) (h3:Ff (l i) = true) (h4:ilt q (g (l i)) = false):Ag (Eg L) (Fc n f l q) (GV n f l q t g i j) = some (.nm,⟨(jsV 48 0 (λ_=>.und) [(1,(.fn 32 [(.pp (.agg [(.sl 6 n (λi=>(eV (f i))))]))])),(2,(iV q)),(6,(iV 0)),(7,(bV false)),(8,(.ref 0)),(29,(.sl 1 n (λk=>(iV (l k))))),(30,(nV n)),(31,(iV (wr .i64 (Af (ofNat i) 1))))]),[(.imap 59 t g)]⟩):=by
 exact Aa (ks:=[kn h0,kn h1,kL n,kn h1,kn h2,kn h2,kn h2,kn h3,kn h2,kn h2,kn h2,kn h4]) (by kernel_rfl)
theorem Aha (h0:ilt (ofNat i) (ofNat n) = true) (h1:Al (ile 0 (ofNat i)) (ilt (ofNat i) (ofNat n)) = true) (h2:isW (f i) = true) (h3:Ff (l i) = true) (h4:ilt q (g (l i)) = true):Ag (Eg L) (Fc n f l q) (GV n f l q t g i j) = some (.rt,⟨(jsV 48 0 (λ_=>.und) [(6,(nV i)),(7,(bV true))]),[]⟩):=by
 exact Aa (ks:=[kn h0,kn h1,kL n,kn h1,kn h2,kn h2,kn h2,kn h3,kn h2,kn h2,kn h2,kn h4]) (by kernel_rfl)
end
def WL (n:Nat) (_:Nat->E6) (l:Nat->Int) (_:Int) (_:Nat) (_:Int->Int) (_:Nat):Nat->V:=lkV A7 [(0,(.sl 1 n (λk=>iV (l k)))),(3,.und),(4,.und),(5,.und),(9,.und),(10,.und),(11,.und),(12,.und),(13,.und),(14,.und),(15,.und),(16,.und),(17,.und),(18,.und),(19,.und),(20,.und),(21,.und),(22,.und),(23,.und),(24,.und),(25,.und),(26,.und),(27,.und),(28,.und),(32,.und),(33,.und),(34,.und),(35,.und),(36,.und),(37,.und),(38,.und),(39,.und),(40,.und),(41,.und),(42,.und),(43,.und),(44,.und),(45,.und),(46,.und),(47,.und)]
section
variable (L:LT) (p0:PT) (p2:PT) (n:Nat) (f:Nat->E6) (l:Nat->Int) (q:Int) (t:Nat) (g:Int->Int) (i m:Nat)
include L p0 p2 n f l q t g i m
theorem Afg  (hp0:p0 (IY (onP 0 p0 (JE n f l q t g i) (onP 2 p2 (KF n f l q t g m) L))) (Pr n f l q 0 (λ_=>0) 0 (AeN n f l q )) = true) (hp2:p2 (Eg (onP 0 p0 (JE n f l q t g i) (onP 2 p2 (KF n f l q t g m) L))) (GV n f l q t g 0 (WL n f l q t g i)) = true):(Au (Ah tab ⟨Ak Ly,(onP 0 p0 (JE n f l q t g i) (onP 2 p2 (KF n f l q t g m) L)),Gl⟩ Tryz.f33 [E4 n l,.fn 32 [.pp (.agg [A5 n f])],iV q] [])).sem = some ((.tup [(iV 0),(bV false)]),[]):=by
 exact Aa (ks:=[kn hp0,kn hp2]) (by kernel_rfl)
theorem Aff  (hp0:p0 (IY (onP 0 p0 (JE n f l q t g i) (onP 2 p2 (KE n f l q t g m) L))) (Pr n f l q 0 (λ_=>0) 0 (AeN n f l q )) = true) (hp2:p2 (Eg (onP 0 p0 (JE n f l q t g i) (onP 2 p2 (KE n f l q t g m) L))) (GV n f l q t g 0 (WL n f l q t g i)) = true):(Au (Ah tab ⟨Ak Ly,(onP 0 p0 (JE n f l q t g i) (onP 2 p2 (KE n f l q t g m) L)),Gl⟩ Tryz.f33 [E4 n l,.fn 32 [.pp (.agg [A5 n f])],iV q] [])).sem = some ((.tup [(nV m),(bV true)]),[]):=by
 exact Aa (ks:=[kn hp0,kn hp2]) (by kernel_rfl)
end
theorem U8 (L:LT) (n:Nat) (f:Nat->E6) (l:Nat->Int) (q:Int) (hn:n <= 4611686018427387904) (ho:okP n l = true):∀ (d i:Nat) (j:Nat->V) (p:Nat),n = i+d->d < p ->
  (AA (IY L) (Mt n f l q) p (Pr n f l q (Aj (λi=>isW (f i)) i) (gK l (λi=>isW (f i)) i) i j)).sem = some (JE n f l q (Aj (λi=>isW (f i)) n) (gK l (λi=>isW (f i)) n) n)
 | 0,i,j,p+1,h,_=>by
  have:n = i:=by omega
  subst this
  exact Ab (Ahz L n f l q (Aj (λi=>isW (f i)) n) (gK l (λi=>isW (f i)) n) n j (A9 (Nat.le_refl _)))
 | d+1,i,j,p+1,h,h2=>by
  have hl:i < n:=by omega
  have hc:=AV (λi=>isW (f i)) i
  have hc2:=AV (Cq l (λi=>isW (f i)) (l i)) i
  have ht:nlt (Aj (λi=>isW (f i)) i) 4611686018427387904 = true:=by simp only [nlt,decide_eq_true_eq]; omega
  have hf:Ff (wr .i64 (Af (gK l (λi=>isW (f i)) i (l i)) 1)) = true:=by
   show Ff (wr .i64 (Af (ofNat (Aj (Cq l (λi=>isW (f i)) (l i)) i)) 1)) = true
   rw [An (show Aj (Cq l (λi=>isW (f i)) (l i)) i < n by omega) hn]
   exact R1 (by omega)
  cases cw:isW (f i) with
  | false =>
   rw [Ab (Ahy L n f l q (Aj (λi=>isW (f i)) i) (gK l (λi=>isW (f i)) i) i j (ofNat_lt hl) (Ap hl) cw),Aq,An hl hn,<- Aly (l:=l) (c:=(λi=>isW (f i))) cw,<- B5 (p:=(λi=>isW (f i))) cw]
   exact U8 L n f l q hn ho d (i+1) (λ_=>.und) p (by omega) (by omega)
  | true =>
   rw [Ab (Ahx L n f l q (Aj (λi=>isW (f i)) i) (gK l (λi=>isW (f i)) i) i j (ofNat_lt hl) (Ap hl) cw (A4.1 ho i hl) ht hf),Aq,An hl hn,AaU (l:=l) (c:=(λi=>isW (f i))) (i:=i) cw hl hn,show Bd (Aj (λi=>isW (f i)) i) 1 = Aj (λi=>isW (f i)) (i+1) from (Bi (p:=(λi=>isW (f i))) cw).symm]
   exact U8 L n f l q hn ho d (i+1) (λ_=>.und) p (by omega) (by omega)
theorem QI (L:LT) (n:Nat) (f:Nat->E6) (l:Nat->Int) (q:Int) (t:Nat) (hn:n <= 4611686018427387904) (ho:okP n l = true):∀ (d i:Nat) (j:Nat->V) (p:Nat),n = i+d->d < p ->
  (AA (Eg L) (Fc n f l q) p (GV n f l q t (gK l (λi=>isW (f i)) n) i j)).sem = some (match Ba (AH n l (λi=>isW (f i)) q) d i with
   | none=>KF n f l q t (gK l (λi=>isW (f i)) n) 0
   | some m=>KE n f l q t (gK l (λi=>isW (f i)) n) m)
 | 0,i,j,p+1,h,_=>by
  have:n = i:=by omega
  subst this
  exact Ab (AgZ L n f l q t (gK l (λi=>isW (f i)) n) n j (A9 (Nat.le_refl _)))
 | d+1,i,j,p+1,h,h2=>by
  have hl:i < n:=by omega
  cases cw:isW (f i) with
  | false =>
   rw [By (show AH n l (λi=>isW (f i)) q i = false by unfold AH; rw [show (λi=>isW (f i)) i = false from cw]; rfl),Ab (Ahc L n f l q t (gK l (λi=>isW (f i)) n) i j (ofNat_lt hl) (Ap hl) cw),Aq,An hl hn]
   exact QI L n f l q t hn ho d (i+1) (λ_=>.und) p (by omega) (by omega)
  | true =>
   cases cg:ilt q (gK l (λi=>isW (f i)) n (l i)) with
   | false =>
    rw [By (show AH n l (λi=>isW (f i)) q i = false by unfold AH; rw [show ilt q (Gp n l (λi=>isW (f i)) (l i)) = false from cg]; cases (λi=>isW (f i)) i <;> rfl),Ab (Ahb L n f l q t (gK l (λi=>isW (f i)) n) i j (ofNat_lt hl) (Ap hl) cw (A4.1 ho i hl) cg),Aq,An hl hn]
    exact QI L n f l q t hn ho d (i+1) (λ_=>.und) p (by omega) (by omega)
   | true =>
    rw [BQ (show AH n l (λi=>isW (f i)) q i = true by unfold AH; rw [show ilt q (Gp n l (λi=>isW (f i)) (l i)) = true from cg,show (λi=>isW (f i)) i = true from cw]; rfl)]
    exact Ab (Aha L n f l q t (gK l (λi=>isW (f i)) n) i j (ofNat_lt hl) (Ap hl) cw (A4.1 ho i hl) cg)
theorem Ach (n:Nat) (f:Nat->E6) (l:Nat->Int) (q:Int) (hn:n <= 4611686018427387904) (ho:okP n l = true) :
  (Au (Ah tab (AN Gl Ly [(0,Mt n f l q),(2,Fc n f l q)]) Tryz.f33 [E4 n l,.fn 32 [.pp (.agg [A5 n f])],iV q] [])).sem = some (.tup [iV (crR n l (λi=>isW (f i)) q).1,bV (crR n l (λi=>isW (f i)) q).2],[]):=by
 have hL:=AF [(0,Mt n f l q),(2,Fc n f l q)]
 have h0:=λL j=>U8 L n f l q hn ho n 0 j (n+1) (by omega) (by omega)
 have h2:=λL j=>QI L n f l q (Aj (λi=>isW (f i)) n) hn ho n 0 j (n+1) (by omega) (by omega)
 rw [Alz] at h0
 unfold crR
 cases c1:Ba (AH n l (λi=>isW (f i)) q) n 0 with
 | some m =>
  rw [c1] at h2
  exact A1 (Ar (Ar hL hL) hL) _ (Aff _ _ _ n f l q (Aj (λi=>isW (f i)) n) (gK l (λi=>isW (f i)) n) n m (Ai (h0 _ _)) (Ai (h2 _ _)))
 | none =>
  rw [c1] at h2
  exact A1 (Ar (Ar hL hL) hL) _ (Afg _ _ _ n f l q (Aj (λi=>isW (f i)) n) (gK l (λi=>isW (f i)) n) n 0 (Ai (h0 _ _)) (Ai (h2 _ _)))
def NU (n:Nat) (_:Nat->Int) (_:Int):Lp:=⟨(bmK 48 0 [0,1,2,6,7,8,14,15,16]),1,bmK 48 0 [0,1,2,6,7,8],1,n+1⟩
def Se (n:Nat) (l:Nat->Int) (q:Int) (t:Nat) (g:Int->Int) (i:Nat) (j:Nat->V):St:=⟨(jsV 48 0 j [(0,.sl 1 n (λk=>iV (l k))),(1,.fn 35 []),(2,iV q),(6,iV 0),(7,bV false),(8,.ref 0),(14,.sl 1 n (λk=>iV (l k))),(15,nV n),(16,nV i)]),[.imap 59 t g]⟩
def JF (n:Nat) (l:Nat->Int) (q:Int) (t:Nat) (g:Int->Int) (_:Nat):Ex × St:=(.ex 0,⟨(jsV 48 0 (λ_=>.und) [(0,.sl 1 n (λk=>iV (l k))),(1,.fn 35 []),(2,iV q),(6,iV 0),(7,bV false),(8,.ref 0)]),[.imap 59 t g]⟩)
noncomputable def KY (L:LT):St->T (Ex × St):=λst=>AD tab ⟨Ak Ly,L,Gl⟩ (As Tryz.f33 0) 0 st
section
variable (L:LT) (n:Nat) (l:Nat->Int) (q:Int) (t:Nat) (g:Int->Int) (i:Nat)  (j:Nat->V)
include L n l q t g i j
theorem Ah1 (h0:ilt (ofNat i) (ofNat n) = false):Ag (KY L) (NU n l q) (Se n l q t g i j) = some ((.ex 0),⟨(jsV 48 0 (λ_=>.und) [(0,(.sl 1 n (λk=>(iV (l k))))),(1,(.fn 35 [])),(2,(iV q)),(6,(iV 0)),(7,(bV false)),(8,(.ref 0))]),[(.imap 59 t g)]⟩):=by
 exact Aa (ks:=[kn h0]) (by kernel_rfl)
theorem Ah0 (h0:ilt (ofNat i) (ofNat n) = true) (h1:Al (ile 0 (ofNat i)) (ilt (ofNat i) (ofNat n)) = true) (h3:Ff (l i) = true) (h2:nlt t 4611686018427387904 = true) (h4:Ff (wr .i64 (Af (g (l i)) 1)) = true):Ag (KY L) (NU n l q) (Se n l q t g i j) = some (.nm,⟨(jsV 48 0 (λ_=>.und) [(0,(.sl 1 n (λk=>(iV (l k))))),(1,(.fn 35 [])),(2,(iV q)),(6,(iV 0)),(7,(bV false)),(8,(.ref 0)),(14,(.sl 1 n (λk=>(iV (l k))))),(15,(nV n)),(16,(iV (wr .i64 (Af (ofNat i) 1))))]),[(.imap 59 (Bd t 1) (λz=>(sel (ieq z (l i)) (wr .i64 (Af (g (l i)) 1)) (g z))))]⟩):=by
 exact Aa (ks:=[kn h0,kn h1,kT,kn h3,kn h2,kn h3,kn h4]) (by kernel_rfl)
end
def AeO (_:Nat) (_:Nat->Int) (_:Int) :Nat->V:=lkV A7 [(13,(.ref 0))]
def FO (n:Nat) (_:Nat->Int) (_:Int):Lp:=⟨(bmK 48 0 [1,2,6,7,8,29,30,31]),1,bmK 48 0 [6,7],0,n+1⟩
def Iz (n:Nat) (l:Nat->Int) (q:Int) (t:Nat) (g:Int->Int) (i:Nat) (j:Nat->V):St:=⟨(jsV 48 0 j [(1,.fn 35 []),(2,iV q),(6,iV 0),(7,bV false),(8,.ref 0),(29,.sl 1 n (λk=>iV (l k))),(30,nV n),(31,nV i)]),[.imap 59 t g]⟩
def KH (_:Nat) (_:Nat->Int) (_:Int) (_:Nat) (_:Int->Int) (_:Nat):Ex × St:=(.ex 2,⟨(jsV 48 0 (λ_=>.und) [(6,iV 0),(7,bV false)]),[]⟩)
def KG (_:Nat) (_:Nat->Int) (_:Int) (_:Nat) (_:Int->Int) (i:Nat):Ex × St:=(.rt,⟨(jsV 48 0 (λ_=>.und) [(6,nV i),(7,bV true)]),[]⟩)
noncomputable def Fn (L:LT):St->T (Ex × St):=λst=>AD tab ⟨Ak Ly,L,Gl⟩ (As Tryz.f33 2) 2 st
section
variable (L:LT) (n:Nat) (l:Nat->Int) (q:Int) (t:Nat) (g:Int->Int) (i:Nat)  (j:Nat->V)
include L n l q t g i j
theorem Ahd (h0:ilt (ofNat i) (ofNat n) = false):Ag (Fn L) (FO n l q) (Iz n l q t g i j) = some ((.ex 2),⟨(jsV 48 0 (λ_=>.und) [(6,(iV 0)),(7,(bV false))]),[]⟩):=by
 exact Aa (ks:=[kn h0]) (by kernel_rfl)
theorem Ahf (h0:ilt (ofNat i) (ofNat n) = true) (h1:Al (ile 0 (ofNat i)) (ilt (ofNat i) (ofNat n)) = true) (h2:Ff (l i) = true) (h3:ilt q (g (l i)) = false):Ag (Fn L) (FO n l q) (Iz n l q t g i j) = some (.nm,⟨(jsV 48 0 (λ_=>.und) [(1,(.fn 35 [])),(2,(iV q)),(6,(iV 0)),(7,(bV false)),(8,(.ref 0)),(29,(.sl 1 n (λk=>(iV (l k))))),(30,(nV n)),(31,(iV (wr .i64 (Af (ofNat i) 1))))]),[(.imap 59 t g)]⟩):=by
 exact Aa (ks:=[kn h0,kn h1,kT,kT,kT,kn h2,kT,kT,kT,kn h3]) (by kernel_rfl)
theorem Ahe (h0:ilt (ofNat i) (ofNat n) = true) (h1:Al (ile 0 (ofNat i)) (ilt (ofNat i) (ofNat n)) = true) (h2:Ff (l i) = true) (h3:ilt q (g (l i)) = true):Ag (Fn L) (FO n l q) (Iz n l q t g i j) = some (.rt,⟨(jsV 48 0 (λ_=>.und) [(6,(nV i)),(7,(bV true))]),[]⟩):=by
 exact Aa (ks:=[kn h0,kn h1,kT,kT,kT,kn h2,kT,kT,kT,kn h3]) (by kernel_rfl)
end
def WM (n:Nat) (l:Nat->Int) (_:Int) (_:Nat) (_:Int->Int) (_:Nat):Nat->V:=lkV A7 [(0,(.sl 1 n (λk=>iV (l k)))),(3,.und),(4,.und),(5,.und),(9,.und),(10,.und),(11,.und),(12,.und),(13,.und),(14,.und),(15,.und),(16,.und),(17,.und),(18,.und),(19,.und),(20,.und),(21,.und),(22,.und),(23,.und),(24,.und),(25,.und),(26,.und),(27,.und),(28,.und),(32,.und),(33,.und),(34,.und),(35,.und),(36,.und),(37,.und),(38,.und),(39,.und),(40,.und),(41,.und),(42,.und),(43,.und),(44,.und),(45,.und),(46,.und),(47,.und)]
section
variable (L:LT) (p0:PT) (p2:PT) (n:Nat) (l:Nat->Int) (q:Int) (t:Nat) (g:Int->Int) (i m:Nat)
include L p0 p2 n l q t g i m
theorem Afi  (hp0:p0 (KY (onP 0 p0 (JF n l q t g i) (onP 2 p2 (KH n l q t g m) L))) (Se n l q 0 (λ_=>0) 0 (AeO n l q )) = true) (hp2:p2 (Fn (onP 0 p0 (JF n l q t g i) (onP 2 p2 (KH n l q t g m) L))) (Iz n l q t g 0 (WM n l q t g i)) = true):(Au (Ah tab ⟨Ak Ly,(onP 0 p0 (JF n l q t g i) (onP 2 p2 (KH n l q t g m) L)),Gl⟩ Tryz.f33 [E4 n l,.fn 35 [],iV q] [])).sem = some ((.tup [(iV 0),(bV false)]),[]):=by
 exact Aa (ks:=[kn hp0,kn hp2]) (by kernel_rfl)
theorem Afh  (hp0:p0 (KY (onP 0 p0 (JF n l q t g i) (onP 2 p2 (KG n l q t g m) L))) (Se n l q 0 (λ_=>0) 0 (AeO n l q )) = true) (hp2:p2 (Fn (onP 0 p0 (JF n l q t g i) (onP 2 p2 (KG n l q t g m) L))) (Iz n l q t g 0 (WM n l q t g i)) = true):(Au (Ah tab ⟨Ak Ly,(onP 0 p0 (JF n l q t g i) (onP 2 p2 (KG n l q t g m) L)),Gl⟩ Tryz.f33 [E4 n l,.fn 35 [],iV q] [])).sem = some ((.tup [(nV m),(bV true)]),[]):=by
 exact Aa (ks:=[kn hp0,kn hp2]) (by kernel_rfl)
end
theorem Z3 (L:LT) (n:Nat) (l:Nat->Int) (q:Int) (hn:n <= 4611686018427387904) (ho:okP n l = true):∀ (d i:Nat) (j:Nat->V) (p:Nat),n = i+d->d < p ->
  (AA (KY L) (NU n l q) p (Se n l q (Aj (λ_=>true) i) (gK l (λ_=>true) i) i j)).sem = some (JF n l q (Aj (λ_=>true) n) (gK l (λ_=>true) n) n)
 | 0,i,j,p+1,h,_=>by
  have:n = i:=by omega
  subst this
  exact Ab (Ah1 L n l q (Aj (λ_=>true) n) (gK l (λ_=>true) n) n j (A9 (Nat.le_refl _)))
 | d+1,i,j,p+1,h,h2=>by
  have hl:i < n:=by omega
  have hc:=AV (λ_=>true) i
  have hc2:=AV (Cq l (λ_=>true) (l i)) i
  have ht:nlt (Aj (λ_=>true) i) 4611686018427387904 = true:=by simp only [nlt,decide_eq_true_eq]; omega
  have hf:Ff (wr .i64 (Af (gK l (λ_=>true) i (l i)) 1)) = true:=by
   show Ff (wr .i64 (Af (ofNat (Aj (Cq l (λ_=>true) (l i)) i)) 1)) = true
   rw [An (show Aj (Cq l (λ_=>true) (l i)) i < n by omega) hn]
   exact R1 (by omega)
  rw [Ab (Ah0 L n l q (Aj (λ_=>true) i) (gK l (λ_=>true) i) i j (ofNat_lt hl) (Ap hl) (A4.1 ho i hl) ht hf),Aq,An hl hn,AaU (l:=l) (c:=(λ_=>true)) (i:=i) rfl hl hn,show Bd (Aj (λ_=>true) i) 1 = Aj (λ_=>true) (i+1) from (Bi (p:=(λ_=>true)) rfl).symm]
  exact Z3 L n l q hn ho d (i+1) (λ_=>.und) p (by omega) (by omega)
theorem Wm (L:LT) (n:Nat) (l:Nat->Int) (q:Int) (t:Nat) (hn:n <= 4611686018427387904) (ho:okP n l = true):∀ (d i:Nat) (j:Nat->V) (p:Nat),n = i+d->d < p ->
  (AA (Fn L) (FO n l q) p (Iz n l q t (gK l (λ_=>true) n) i j)).sem = some (match Ba (AH n l (λ_=>true) q) d i with
   | none=>KH n l q t (gK l (λ_=>true) n) 0
   | some m=>KG n l q t (gK l (λ_=>true) n) m)
 | 0,i,j,p+1,h,_=>by
  have:n = i:=by omega
  subst this
  exact Ab (Ahd L n l q t (gK l (λ_=>true) n) n j (A9 (Nat.le_refl _)))
 | d+1,i,j,p+1,h,h2=>by
  have hl:i < n:=by omega
  cases cg:ilt q (gK l (λ_=>true) n (l i)) with
  | false =>
   rw [By (show AH n l (λ_=>true) q i = false by unfold AH; rw [show ilt q (Gp n l (λ_=>true) (l i)) = false from cg]; cases (λ_=>true) i <;> rfl),Ab (Ahf L n l q t (gK l (λ_=>true) n) i j (ofNat_lt hl) (Ap hl) (A4.1 ho i hl) cg),Aq,An hl hn]
   exact Wm L n l q t hn ho d (i+1) (λ_=>.und) p (by omega) (by omega)
  | true =>
   rw [BQ (show AH n l (λ_=>true) q i = true by unfold AH; rw [show ilt q (Gp n l (λ_=>true) (l i)) = true from cg,show (λ_=>true) i = true from rfl]; rfl)]
   exact Ab (Ahe L n l q t (gK l (λ_=>true) n) i j (ofNat_lt hl) (Ap hl) (A4.1 ho i hl) cg)
theorem Aci (n:Nat) (l:Nat->Int) (q:Int) (hn:n <= 4611686018427387904) (ho:okP n l = true) :
  (Au (Ah tab (AN Gl Ly [(0,NU n l q),(2,FO n l q)]) Tryz.f33 [E4 n l,.fn 35 [],iV q] [])).sem = some (.tup [iV (crR n l (λ_=>true) q).1,bV (crR n l (λ_=>true) q).2],[]):=by
 have hL:=AF [(0,NU n l q),(2,FO n l q)]
 have h0:=λL j=>Z3 L n l q hn ho n 0 j (n+1) (by omega) (by omega)
 have h2:=λL j=>Wm L n l q (Aj (λ_=>true) n) hn ho n 0 j (n+1) (by omega) (by omega)
 rw [Alz] at h0
 unfold crR
 cases c1:Ba (AH n l (λ_=>true) q) n 0 with
 | some m =>
  rw [c1] at h2
  exact A1 (Ar (Ar hL hL) hL) _ (Afh _ _ _ n l q (Aj (λ_=>true) n) (gK l (λ_=>true) n) n m (Ai (h0 _ _)) (Ai (h2 _ _)))
 | none =>
  rw [c1] at h2
  exact A1 (Ar (Ar hL hL) hL) _ (Afi _ _ _ n l q (Aj (λ_=>true) n) (gK l (λ_=>true) n) n 0 (Ai (h0 _ _)) (Ai (h2 _ _)))
def VI:List V->T (V × List Blk)
 | [u,.fn 32 [.pp (.agg [v])],.val (.int .i64 q)]=>apI u λm l=>apL v λn f=>.br (AB n m) (.br (Ao n) (.br (okP m l) (out (.tup [iV (crR m l (λi=>isW (f i)) q).1,bV (crR m l (λi=>isW (f i)) q).2])) .fail) .fail) .fail
 | [u,.fn 35 [],.val (.int .i64 q)]=>apI u λm l=>.br (Ao m) (.br (okP m l) (out (.tup [iV (crR m l (λ_=>true) q).1,bV (crR m l (λ_=>true) q).2])) .fail) .fail
 | _=>.fail
theorem p91:A6 Tryz.prog Gl 33 VI:=by
 refine Av AI mixed Tryz.func33 (by kernel_rfl) (by kernel_rfl) λvs v h' h=>?_
 unfold VI at h
 split at h
 ·rename_i u1 v1 q
  obtain ⟨m,l,ha,h1⟩:=GS h
  obtain ⟨n,f,hb,h2⟩:=Cc h1
  obtain ⟨hm,h3⟩:=Ad h2
  obtain ⟨hn,h4⟩:=Ad h3
  obtain ⟨ho,hq⟩:=Ad h4
  have hm:n = m:=Nat.eq_of_beq_eq_true hm
  subst hm
  have:=Ac hq
  simp only [Prod.mk.injEq] at this
  obtain ⟨rfl,rfl⟩:=this
  have hn:n <= 4611686018427387904:=of_decide_eq_true hn
  have hA:Bm [u1,.fn 32 [.pp (.agg [v1])],.val (.int .i64 q)] [E4 n l,.fn 32 [.pp (.agg [A5 n f])],iV q]:=λS w cs hv=>by
   obtain ⟨c,l1,rfl,q1,c2,l2,rfl,⟨ca,q4,c5,l5,q5,q6,q7⟩,q3⟩:=hv
   exact ⟨c,_,rfl,ha S w c q1,c2,l2,rfl,⟨ca,q4,c5,l5,q5,Ae7 hb S w noK c5 q6,q7⟩,q3⟩
  have hx:=AK Wb [(0,Mt n f l q),(2,Fc n f l q)]
  exact ⟨_,AN Gl Ly [(0,Mt n f l q),(2,Fc n f l q)],_,hA,rfl,hx.1,hx.2,Ach n f l q hn ho,A0.refl _⟩
 ·rename_i u1 q
  obtain ⟨n,l,ha,h1⟩:=GS h
  obtain ⟨hn,h4⟩:=Ad h1
  obtain ⟨ho,hq⟩:=Ad h4
  have:=Ac hq
  simp only [Prod.mk.injEq] at this
  obtain ⟨rfl,rfl⟩:=this
  have hn:n <= 4611686018427387904:=of_decide_eq_true hn
  have hA:Bm [u1,.fn 35 [],.val (.int .i64 q)] [E4 n l,.fn 35 [],iV q]:=λS w cs hv=>by
   obtain ⟨c,l1,rfl,q1,q3⟩:=hv
   exact ⟨c,_,rfl,ha S w c q1,q3⟩
  have hx:=AK Wb [(0,NU n l q),(2,FO n l q)]
  exact ⟨_,AN Gl Ly [(0,NU n l q),(2,FO n l q)],_,hA,rfl,hx.1,hx.2,Aci n l q hn ho,A0.refl _⟩
 ·cases h
end Go.Proofs.YthlojajaenfidaaGreatDoor.Ed
