/-
  crowded: the first event whose part has too many. No conditions.
-/
import Derived.Test.YtjhnfomefcngfaaCyQ
namespace Go.Proofs.Ytjhnfomefcngfaa.Ed
open Go.Sy
open Int (ofNat)
theorem AcH {v u:V} (h:∀ (S:Nat->Prop) (w:World) (c:Value),VR S w v noK c->VR S w u noK c) (S:Nat->Prop) (w:World) (κ:Nat->Option Value) (c:Value) (hv:VR S w (.pp (.agg [v])) κ c):VR S w (.pp (.agg [u])) κ c:=by
 obtain ⟨b,o,cv,q1,⟨ca,q2,a,l',q3,q4,q5⟩,q6⟩:=hv
 exact ⟨b,o,cv,q1,⟨ca,q2,a,l',q3,h S w a q4,q5⟩,q6⟩
def Ag1:List V->T (V × List Blk)
 | [.val (.int .i64 i),.pp (.agg [v])]=>apL v λn f=>.br (Af (ile 0 i) (ilt i (ofNat n))) (out (bV (isW (f (toN i))))) .fail
 | _=>.fail
def XM:List V->T (V × List Blk)
 | [.val (.int .i64 _)]=>out (bV true)
 | _=>.fail
theorem AjO (L:LT) (i:Int) (n:Nat) (f:Nat->E6) (h0:Af (ile 0 i) (ilt i (ofNat n)) = true):(Az (Ak tab ⟨Ap tb0,L,Gl⟩ Try.f85 [iV i,.pp (.agg [A4 n f])] [])).sem = some ((bV (ieq ((f (toN i))).src 2)),[]):=Aa [true] [Af (ile 0 i) (ilt i (ofNat n))] (by kernel_rfl) (by simp only [h0] <;> rfl)
theorem AjN (L:LT) (i:Int) :(Az (Ak tab ⟨Ap tb0,L,Gl⟩ Try.f88 [iV i] [])).sem = some ((bV true),[]):=Aa [] [] (by kernel_rfl) (by rfl)
theorem p90:A6 Try.prog Gl 85 Ag1:=by
 refine A5 AO AP Try.func85 (by kernel_rfl) (by kernel_rfl) λvs v h' h=>?_
 unfold Ag1 at h
 split at h
 ·rename_i i u
  obtain ⟨n,f,ha,h1⟩:=Cj h
  obtain ⟨hi,hq⟩:=Ag h1
  have:=Ac hq
  simp only [Prod.mk.injEq] at this
  obtain ⟨rfl,rfl⟩:=this
  have hA:BJ [.val (.int .i64 i),.pp (.agg [u])] [iV i,.pp (.agg [A4 n f])]:=λS w cs hv=>by
   obtain ⟨c,l,rfl,q1,c2,l2,rfl,q2,q3⟩:=hv
   exact ⟨c,_,rfl,q1,c2,l2,rfl,AcH ha S w noK c2 q2,q3⟩
  have hx:=AQ Dd []
  exact ⟨_,AS Gl tb0 [],_,hA,rfl,hx.1,hx.2,AjO _ i n f hi,AC.refl _⟩
 ·cases h
theorem p93:A6 Try.prog Gl 88 XM:=by
 refine A5 AO AP Try.func88 (by kernel_rfl) (by kernel_rfl) λvs v h' h=>?_
 unfold XM at h
 split at h
 ·have:=Ac h
  simp only [Prod.mk.injEq] at this
  obtain ⟨rfl,rfl⟩:=this
  have hx:=AQ Dd []
  exact ⟨_,AS Gl tb0 [],_,BJ.refl _,rfl,hx.1,hx.2,AjN _ _,AC.refl _⟩
 ·cases h
noncomputable def Lb:List (Nat × (List V->T (V × List Blk))):=(85,Ag1) :: (88,XM) :: []
theorem Vg:AB Try.prog Gl Lb:=.cons p90 <| .cons p93 .nil
def gK (l:Nat->Int) (c:Nat->Bool) (i:Nat) (x:Int):Int:=ofNat (Aj (Co l c x) i)
theorem Aj0 (l:Nat->Int) (c:Nat->Bool):gK l c 0 = λ_=>0:=rfl
theorem Ajz {l:Nat->Int} {c:Nat->Bool} {i:Nat} (h:c i = false):gK l c (i+1) = gK l c i:=by
 funext x
 unfold gK
 rw [Br]
 rw [Co,h]
 cases ieq (l i) x <;> rfl
theorem Z5 {l:Nat->Int} {c:Nat->Bool} {i n:Nat} (h:c i = true) (hi:i < n) (hn:n <= 4611686018427387904):(λk=>sel (ieq k (l i)) (wr .i64 (Ae (gK l c i (l i)) 1)) (gK l c i k)) = gK l c (i+1):=by
 funext x
 by_cases hx:x = l i
 ·subst hx
  have h1:ieq (l i) (l i) = true:=by simp [ieq]
  rw [h1]
  show wr .i64 (Ae (ofNat (Aj (Co l c (l i)) i)) 1) = _
  have:=AX (Co l c (l i)) i
  rw [Ao (show Aj (Co l c (l i)) i < n by omega) hn]
  unfold gK
  rw [Bi (show Co l c (l i) i = true by rw [Co,h,h1]; rfl)]
 ·have h1:ieq x (l i) = false:=by simp [ieq,hx]
  rw [h1]
  show gK l c i x = _
  unfold gK
  rw [Br (show Co l c x i = false by rw [Co,show ieq (l i) x = false by simp [ieq]; omega]; rfl)]
theorem QY {a:Nat} (h:a <= 4611686018427387904):Dn (ofNat a) = true:=by
 simp only [Dn,Bool.and_eq_true,decide_eq_true_eq,Int.ofNat_eq_natCast]
 omega
def okP (n:Nat) (l:Nat->Int):Bool:=Au n λi=>Dn (l i)
def AG (n:Nat) (l:Nat->Int) (c:Nat->Bool) (q:Int) (i:Nat):Bool:=Af (c i) (ilt q (Em n l c (l i)))
def crR (n:Nat) (l:Nat->Int) (c:Nat->Bool) (q:Int):Int × Bool :=
 match Be (AG n l c q) n 0 with
 | some t=>(ofNat t,true)
 | none=>(0,false)
def Mm (n:Nat) (_:Nat->E6) (_:Nat->Int) (_:Int):Lp:=⟨(bmK 48 0 [0,1,2,6,7,8,14,15,16]),1,bmK 48 0 [0,1,2,6,7,8],1,n+1⟩
def LY (n:Nat) (f:Nat->E6) (l:Nat->Int) (q:Int) (t:Nat) (g:Int->Int) (i:Nat) (j:Nat->V):St:=⟨(jsV 48 0 j [(0,.sl 1 n (λk=>iV (l k))),(1,.fn 85 [.pp (.agg [A4 n f])]),(2,iV q),(6,iV 0),(7,bV false),(8,.ref 0),(14,.sl 1 n (λk=>iV (l k))),(15,nV n),(16,nV i)]),[.imap 76 t g]⟩
def FU (n:Nat) (f:Nat->E6) (l:Nat->Int) (q:Int) (t:Nat) (g:Int->Int) (_:Nat):Ex × St:=(.ex 0,⟨(jsV 48 0 (λ_=>.und) [(0,.sl 1 n (λk=>iV (l k))),(1,.fn 85 [.pp (.agg [A4 n f])]),(2,iV q),(6,iV 0),(7,bV false),(8,.ref 0)]),[.imap 76 t g]⟩)
noncomputable def G2 (L:LT):St->T (Ex × St):=λst=>AF tab ⟨Ap Lb,L,Gl⟩ (A1 Try.f86 0) 0 st
section
variable (L:LT) (n:Nat) (f:Nat->E6) (l:Nat->Int) (q:Int) (t:Nat) (g:Int->Int) (i:Nat)  (j:Nat->V)
include L n f l q t g i j
theorem AfF (h0:ilt (ofNat i) (ofNat n) = false):Ai (G2 L) (Mm n f l q) (LY n f l q t g i j) = some ((.ex 0),⟨(jsV 48 0 (λ_=>.und) [(0,(.sl 1 n (λk=>iV (l k)))),(1,(.fn 85 [.pp (.agg [.sl 6 n (λi=>eV (f i))])])),(2,(iV q)),(6,(iV 0)),(7,(bV false)),(8,(.ref 0))]),[.imap 76 t g]⟩):=Aa [false] [ilt (ofNat i) (ofNat n)] (by kernel_rfl) (by simp only [h0] <;> rfl)
theorem AfE (h0:ilt (ofNat i) (ofNat n) = true) (h1:Af (ile 0 (ofNat i)) (ilt (ofNat i) (ofNat n)) = true) (h2:isW (f i) = false):Ai (G2 L) (Mm n f l q) (LY n f l q t g i j) = some (.nm,⟨(jsV 48 0 (λ_=>.und) [(0,(.sl 1 n (λk=>iV (l k)))),(1,(.fn 85 [.pp (.agg [.sl 6 n (λi=>eV (f i))])])),(2,(iV q)),(6,(iV 0)),(7,(bV false)),(8,(.ref 0)),(14,(.sl 1 n (λk=>iV (l k)))),(15,(nV n)),(16,(iV (wr .i64 (Ae (ofNat i) 1))))]),[.imap 76 t g]⟩):=Aa [true,true,true,true,false] ((λc0=>[ilt (ofNat i) (ofNat n),c0,Au n (λ_=>true),c0,isW (f i)]) (Af (ile 0 (ofNat i)) (ilt (ofNat i) (ofNat n)))) (by kernel_rfl) (by simp only [h1] <;> simp only [h0,h2,Aw] <;> rfl)
theorem AfD (h0:ilt (ofNat i) (ofNat n) = true) (h1:Af (ile 0 (ofNat i)) (ilt (ofNat i) (ofNat n)) = true) (h2:isW (f i) = true) (h4:Dn (l i) = true) (h3:nlt t 4611686018427387904 = true) (h5:Dn (wr .i64 (Ae (g (l i)) 1)) = true):Ai (G2 L) (Mm n f l q) (LY n f l q t g i j) = some (.nm,⟨(jsV 48 0 (λ_=>.und) [(0,(.sl 1 n (λk=>iV (l k)))),(1,(.fn 85 [.pp (.agg [.sl 6 n (λi=>eV (f i))])])),(2,(iV q)),(6,(iV 0)),(7,(bV false)),(8,(.ref 0)),(14,(.sl 1 n (λk=>iV (l k)))),(15,(nV n)),(16,(iV (wr .i64 (Ae (ofNat i) 1))))]),[.imap 76 (Bn t 1) (λz=>sel (ieq z (l i)) (wr .i64 (Ae (g (l i)) 1)) (g z))]⟩):=Aa (bbK 9 511) ((λc0 c1=>[ilt (ofNat i) (ofNat n),c0,Au n (λ_=>true),c0,isW (f i),c1,nlt t 4611686018427387904,c1,Dn (wr .i64 (Ae (g (l i)) 1))]) (Af (ile 0 (ofNat i)) (ilt (ofNat i) (ofNat n))) (Dn (l i))) (by kernel_rfl) (by simp only [h1] <;> simp only [*,Aw] <;> rfl)
end
def VS (_:Nat) (_:Nat->E6) (_:Nat->Int) (_:Int) :Nat->V:=lkV AA [(13,(.ref 0))]
def F1 (n:Nat) (_:Nat->E6) (_:Nat->Int) (_:Int):Lp:=⟨(bmK 48 0 [1,2,6,7,8,29,30,31]),1,bmK 48 0 [6,7],0,n+1⟩
def Fw (n:Nat) (f:Nat->E6) (l:Nat->Int) (q:Int) (t:Nat) (g:Int->Int) (i:Nat) (j:Nat->V):St:=⟨(jsV 48 0 j [(1,.fn 85 [.pp (.agg [A4 n f])]),(2,iV q),(6,iV 0),(7,bV false),(8,.ref 0),(29,.sl 1 n (λk=>iV (l k))),(30,nV n),(31,nV i)]),[.imap 76 t g]⟩
def Hc (_:Nat) (_:Nat->E6) (_:Nat->Int) (_:Int) (_:Nat) (_:Int->Int) (_:Nat):Ex × St:=(.ex 2,⟨(jsV 48 0 (λ_=>.und) [(6,iV 0),(7,bV false)]),[]⟩)
def Hb (_:Nat) (_:Nat->E6) (_:Nat->Int) (_:Int) (_:Nat) (_:Int->Int) (i:Nat):Ex × St:=(.rt,⟨(jsV 48 0 (λ_=>.und) [(6,nV i),(7,bV true)]),[]⟩)
noncomputable def Dz (L:LT):St->T (Ex × St):=λst=>AF tab ⟨Ap Lb,L,Gl⟩ (A1 Try.f86 2) 2 st
section
variable (L:LT) (n:Nat) (f:Nat->E6) (l:Nat->Int) (q:Int) (t:Nat) (g:Int->Int) (i:Nat)  (j:Nat->V)
include L n f l q t g i j
theorem Afp (h0:ilt (ofNat i) (ofNat n) = false):Ai (Dz L) (F1 n f l q) (Fw n f l q t g i j) = some ((.ex 2),⟨(jsV 48 0 (λ_=>.und) [(6,(iV 0)),(7,(bV false))]),[]⟩):=Aa [false] [ilt (ofNat i) (ofNat n)] (by kernel_rfl) (by simp only [h0] <;> rfl)
theorem Afs (h0:ilt (ofNat i) (ofNat n) = true) (h1:Af (ile 0 (ofNat i)) (ilt (ofNat i) (ofNat n)) = true) (h2:isW (f i) = false):Ai (Dz L) (F1 n f l q) (Fw n f l q t g i j) = some (.nm,⟨(jsV 48 0 (λ_=>.und) [(1,(.fn 85 [.pp (.agg [.sl 6 n (λi=>eV (f i))])])),(2,(iV q)),(6,(iV 0)),(7,(bV false)),(8,(.ref 0)),(29,(.sl 1 n (λk=>iV (l k)))),(30,(nV n)),(31,(iV (wr .i64 (Ae (ofNat i) 1))))]),[.imap 76 t g]⟩):=Aa (bbK 11 15) ((λc0 c1=>[ilt (ofNat i) (ofNat n),c0,Au n (λ_=>true),c0,c1,c1,c1,c1,c1,c1,false]) (Af (ile 0 (ofNat i)) (ilt (ofNat i) (ofNat n))) (isW (f i))) (by kernel_rfl) (by simp only [h1] <;> simp only [h0,h2,Aw] <;> rfl)
theorem Afr (h0:ilt (ofNat i) (ofNat n) = true) (h1:Af (ile 0 (ofNat i)) (ilt (ofNat i) (ofNat n)) = true) (h2:isW (f i) = true) (h3:Dn (l i) = true) (h4:ilt q (g (l i)) = false):Ai (Dz L) (F1 n f l q) (Fw n f l q t g i j) = some (.nm,⟨(jsV 48 0 (λ_=>.und) [(1,(.fn 85 [.pp (.agg [.sl 6 n (λi=>eV (f i))])])),(2,(iV q)),(6,(iV 0)),(7,(bV false)),(8,(.ref 0)),(29,(.sl 1 n (λk=>iV (l k)))),(30,(nV n)),(31,(iV (wr .i64 (Ae (ofNat i) 1))))]),[.imap 76 t g]⟩):=Aa (bbK 12 2047) ((λc0 c1=>[ilt (ofNat i) (ofNat n),c0,Au n (λ_=>true),c0,c1,c1,c1,Dn (l i),c1,c1,c1,ilt q (g (l i))]) (Af (ile 0 (ofNat i)) (ilt (ofNat i) (ofNat n))) (isW (f i))) (by kernel_rfl) (by simp only [h1] <;> simp only [*,Aw] <;> rfl)
theorem Afq (h0:ilt (ofNat i) (ofNat n) = true) (h1:Af (ile 0 (ofNat i)) (ilt (ofNat i) (ofNat n)) = true) (h2:isW (f i) = true) (h3:Dn (l i) = true) (h4:ilt q (g (l i)) = true):Ai (Dz L) (F1 n f l q) (Fw n f l q t g i j) = some (.rt,⟨(jsV 48 0 (λ_=>.und) [(6,(nV i)),(7,(bV true))]),[]⟩):=Aa (bbK 12 4095) ((λc0 c1=>[ilt (ofNat i) (ofNat n),c0,Au n (λ_=>true),c0,c1,c1,c1,Dn (l i),c1,c1,c1,ilt q (g (l i))]) (Af (ile 0 (ofNat i)) (ilt (ofNat i) (ofNat n))) (isW (f i))) (by kernel_rfl) (by simp only [h1] <;> simp only [*,Aw] <;> rfl)
end
def MF (n:Nat) (_:Nat->E6) (l:Nat->Int) (_:Int) (_:Nat) (_:Int->Int) (_:Nat):Nat->V:=lkV AA [(0,(.sl 1 n (λk=>iV (l k)))),(3,.und),(4,.und),(5,.und),(9,.und),(10,.und),(11,.und),(12,.und),(13,.und),(14,.und),(15,.und),(16,.und),(17,.und),(18,.und),(19,.und),(20,.und),(21,.und),(22,.und),(23,.und),(24,.und),(25,.und),(26,.und),(27,.und),(28,.und),(32,.und),(33,.und),(34,.und),(35,.und),(36,.und),(37,.und),(38,.und),(39,.und),(40,.und),(41,.und),(42,.und),(43,.und),(44,.und),(45,.und),(46,.und),(47,.und)]
section
variable (L:LT) (p0:PT) (p2:PT) (n:Nat) (f:Nat->E6) (l:Nat->Int) (q:Int) (t:Nat) (g:Int->Int) (i m:Nat)
include L p0 p2 n f l q t g i m
theorem Ado  (hp0:p0 (G2 (onP 0 p0 (FU n f l q t g i) (onP 2 p2 (Hc n f l q t g m) L))) (LY n f l q 0 (λ_=>0) 0 (VS n f l q )) = true) (hp2:p2 (Dz (onP 0 p0 (FU n f l q t g i) (onP 2 p2 (Hc n f l q t g m) L))) (Fw n f l q t g 0 (MF n f l q t g i)) = true):(Az (Ak tab ⟨Ap Lb,onP 0 p0 (FU n f l q t g i) (onP 2 p2 (Hc n f l q t g m) L),Gl⟩ Try.f86 [ER n l,.fn 85 [.pp (.agg [A4 n f])],iV q] [])).sem = some ((.tup [iV 0,bV false]),[]):=Aa [true,true] [p0 (G2 (onP 0 p0 (FU n f l q t g i) (onP 2 p2 (Hc n f l q t g m) L))) (LY n f l q 0 (λ_=>0) 0 (VS n f l q )),p2 (Dz (onP 0 p0 (FU n f l q t g i) (onP 2 p2 (Hc n f l q t g m) L))) (Fw n f l q t g 0 (MF n f l q t g i))] (by kernel_rfl) (by simp only [hp0,hp2] <;> rfl)
theorem Adn  (hp0:p0 (G2 (onP 0 p0 (FU n f l q t g i) (onP 2 p2 (Hb n f l q t g m) L))) (LY n f l q 0 (λ_=>0) 0 (VS n f l q )) = true) (hp2:p2 (Dz (onP 0 p0 (FU n f l q t g i) (onP 2 p2 (Hb n f l q t g m) L))) (Fw n f l q t g 0 (MF n f l q t g i)) = true):(Az (Ak tab ⟨Ap Lb,onP 0 p0 (FU n f l q t g i) (onP 2 p2 (Hb n f l q t g m) L),Gl⟩ Try.f86 [ER n l,.fn 85 [.pp (.agg [A4 n f])],iV q] [])).sem = some ((.tup [nV m,bV true]),[]):=Aa [true,true] [p0 (G2 (onP 0 p0 (FU n f l q t g i) (onP 2 p2 (Hb n f l q t g m) L))) (LY n f l q 0 (λ_=>0) 0 (VS n f l q )),p2 (Dz (onP 0 p0 (FU n f l q t g i) (onP 2 p2 (Hb n f l q t g m) L))) (Fw n f l q t g 0 (MF n f l q t g i))] (by kernel_rfl) (by simp only [hp0,hp2] <;> rfl)
end
theorem Ud (L:LT) (n:Nat) (f:Nat->E6) (l:Nat->Int) (q:Int) (hn:n <= 4611686018427387904) (ho:okP n l = true):∀ (d i:Nat) (j:Nat->V) (p:Nat),n = i+d->d < p ->
  (A9 (G2 L) (Mm n f l q) p (LY n f l q (Aj (λi=>isW (f i)) i) (gK l (λi=>isW (f i)) i) i j)).sem = some (FU n f l q (Aj (λi=>isW (f i)) n) (gK l (λi=>isW (f i)) n) n)
 | 0,i,j,p+1,h,_=>by
  have:n = i:=by omega
  subst this
  exact Ad (AfF L n f l q (Aj (λi=>isW (f i)) n) (gK l (λi=>isW (f i)) n) n j (AD (Nat.le_refl _)))
 | d+1,i,j,p+1,h,h2=>by
  have hl:i < n:=by omega
  have hc:=AX (λi=>isW (f i)) i
  have hc2:=AX (Co l (λi=>isW (f i)) (l i)) i
  have ht:nlt (Aj (λi=>isW (f i)) i) 4611686018427387904 = true:=by simp only [nlt,decide_eq_true_eq]; omega
  have hf:Dn (wr .i64 (Ae (gK l (λi=>isW (f i)) i (l i)) 1)) = true:=by
   show Dn (wr .i64 (Ae (ofNat (Aj (Co l (λi=>isW (f i)) (l i)) i)) 1)) = true
   rw [Ao (show Aj (Co l (λi=>isW (f i)) (l i)) i < n by omega) hn]
   exact QY (by omega)
  cases cw:isW (f i) with
  | false =>
   rw [Ad (AfE L n f l q (Aj (λi=>isW (f i)) i) (gK l (λi=>isW (f i)) i) i j (ofNat_lt hl) (Aq hl) cw),Ax,Ao hl hn,<- Ajz (l:=l) (c:=(λi=>isW (f i))) cw,<- Br (p:=(λi=>isW (f i))) cw]
   exact Ud L n f l q hn ho d (i+1) (λ_=>.und) p (by omega) (by omega)
  | true =>
   rw [Ad (AfD L n f l q (Aj (λi=>isW (f i)) i) (gK l (λi=>isW (f i)) i) i j (ofNat_lt hl) (Aq hl) cw (AJ.1 ho i hl) ht hf),Ax,Ao hl hn,Z5 (l:=l) (c:=(λi=>isW (f i))) (i:=i) cw hl hn,show Bn (Aj (λi=>isW (f i)) i) 1 = Aj (λi=>isW (f i)) (i+1) from (Bi (p:=(λi=>isW (f i))) cw).symm]
   exact Ud L n f l q hn ho d (i+1) (λ_=>.und) p (by omega) (by omega)
theorem Qy (L:LT) (n:Nat) (f:Nat->E6) (l:Nat->Int) (q:Int) (t:Nat) (hn:n <= 4611686018427387904) (ho:okP n l = true):∀ (d i:Nat) (j:Nat->V) (p:Nat),n = i+d->d < p ->
  (A9 (Dz L) (F1 n f l q) p (Fw n f l q t (gK l (λi=>isW (f i)) n) i j)).sem = some (match Be (AG n l (λi=>isW (f i)) q) d i with
   | none=>Hc n f l q t (gK l (λi=>isW (f i)) n) 0
   | some m=>Hb n f l q t (gK l (λi=>isW (f i)) n) m)
 | 0,i,j,p+1,h,_=>by
  have:n = i:=by omega
  subst this
  exact Ad (Afp L n f l q t (gK l (λi=>isW (f i)) n) n j (AD (Nat.le_refl _)))
 | d+1,i,j,p+1,h,h2=>by
  have hl:i < n:=by omega
  cases cw:isW (f i) with
  | false =>
   rw [Bz (show AG n l (λi=>isW (f i)) q i = false by unfold AG; rw [show (λi=>isW (f i)) i = false from cw]; rfl),Ad (Afs L n f l q t (gK l (λi=>isW (f i)) n) i j (ofNat_lt hl) (Aq hl) cw),Ax,Ao hl hn]
   exact Qy L n f l q t hn ho d (i+1) (λ_=>.und) p (by omega) (by omega)
  | true =>
   cases cg:ilt q (gK l (λi=>isW (f i)) n (l i)) with
   | false =>
    rw [Bz (show AG n l (λi=>isW (f i)) q i = false by unfold AG; rw [show ilt q (Em n l (λi=>isW (f i)) (l i)) = false from cg]; cases (λi=>isW (f i)) i <;> rfl),Ad (Afr L n f l q t (gK l (λi=>isW (f i)) n) i j (ofNat_lt hl) (Aq hl) cw (AJ.1 ho i hl) cg),Ax,Ao hl hn]
    exact Qy L n f l q t hn ho d (i+1) (λ_=>.und) p (by omega) (by omega)
   | true =>
    rw [BZ (show AG n l (λi=>isW (f i)) q i = true by unfold AG; rw [show ilt q (Em n l (λi=>isW (f i)) (l i)) = true from cg,show (λi=>isW (f i)) i = true from cw]; rfl)]
    exact Ad (Afq L n f l q t (gK l (λi=>isW (f i)) n) i j (ofNat_lt hl) (Aq hl) cw (AJ.1 ho i hl) cg)
theorem Aa7 (n:Nat) (f:Nat->E6) (l:Nat->Int) (q:Int) (hn:n <= 4611686018427387904) (ho:okP n l = true) :
  (Az (Ak tab (AS Gl Lb [(0,Mm n f l q),(2,F1 n f l q)]) Try.f86 [ER n l,.fn 85 [.pp (.agg [A4 n f])],iV q] [])).sem = some (.tup [iV (crR n l (λi=>isW (f i)) q).1,bV (crR n l (λi=>isW (f i)) q).2],[]):=by
 have hL:=AL [(0,Mm n f l q),(2,F1 n f l q)]
 have h0:=λL j=>Ud L n f l q hn ho n 0 j (n+1) (by omega) (by omega)
 have h2:=λL j=>Qy L n f l q (Aj (λi=>isW (f i)) n) hn ho n 0 j (n+1) (by omega) (by omega)
 rw [Aj0] at h0
 unfold crR
 cases c1:Be (AG n l (λi=>isW (f i)) q) n 0 with
 | some m =>
  rw [c1] at h2
  exact A7 (Ay (Ay hL hL) hL) _ (Adn _ _ _ n f l q (Aj (λi=>isW (f i)) n) (gK l (λi=>isW (f i)) n) n m (Am (h0 _ _)) (Am (h2 _ _)))
 | none =>
  rw [c1] at h2
  exact A7 (Ay (Ay hL hL) hL) _ (Ado _ _ _ n f l q (Aj (λi=>isW (f i)) n) (gK l (λi=>isW (f i)) n) n 0 (Am (h0 _ _)) (Am (h2 _ _)))
def NN (n:Nat) (_:Nat->Int) (_:Int):Lp:=⟨(bmK 48 0 [0,1,2,6,7,8,14,15,16]),1,bmK 48 0 [0,1,2,6,7,8],1,n+1⟩
def Nl (n:Nat) (l:Nat->Int) (q:Int) (t:Nat) (g:Int->Int) (i:Nat) (j:Nat->V):St:=⟨(jsV 48 0 j [(0,.sl 1 n (λk=>iV (l k))),(1,.fn 88 []),(2,iV q),(6,iV 0),(7,bV false),(8,.ref 0),(14,.sl 1 n (λk=>iV (l k))),(15,nV n),(16,nV i)]),[.imap 76 t g]⟩
def FV (n:Nat) (l:Nat->Int) (q:Int) (t:Nat) (g:Int->Int) (_:Nat):Ex × St:=(.ex 0,⟨(jsV 48 0 (λ_=>.und) [(0,.sl 1 n (λk=>iV (l k))),(1,.fn 88 []),(2,iV q),(6,iV 0),(7,bV false),(8,.ref 0)]),[.imap 76 t g]⟩)
noncomputable def HU (L:LT):St->T (Ex × St):=λst=>AF tab ⟨Ap Lb,L,Gl⟩ (A1 Try.f86 0) 0 st
section
variable (L:LT) (n:Nat) (l:Nat->Int) (q:Int) (t:Nat) (g:Int->Int) (i:Nat)  (j:Nat->V)
include L n l q t g i j
theorem AfH (h0:ilt (ofNat i) (ofNat n) = false):Ai (HU L) (NN n l q) (Nl n l q t g i j) = some ((.ex 0),⟨(jsV 48 0 (λ_=>.und) [(0,(.sl 1 n (λk=>iV (l k)))),(1,(.fn 88 [])),(2,(iV q)),(6,(iV 0)),(7,(bV false)),(8,(.ref 0))]),[.imap 76 t g]⟩):=Aa [false] [ilt (ofNat i) (ofNat n)] (by kernel_rfl) (by simp only [h0] <;> rfl)
theorem AfG (h0:ilt (ofNat i) (ofNat n) = true) (h1:Af (ile 0 (ofNat i)) (ilt (ofNat i) (ofNat n)) = true) (h3:Dn (l i) = true) (h2:nlt t 4611686018427387904 = true) (h4:Dn (wr .i64 (Ae (g (l i)) 1)) = true):Ai (HU L) (NN n l q) (Nl n l q t g i j) = some (.nm,⟨(jsV 48 0 (λ_=>.und) [(0,(.sl 1 n (λk=>iV (l k)))),(1,(.fn 88 [])),(2,(iV q)),(6,(iV 0)),(7,(bV false)),(8,(.ref 0)),(14,(.sl 1 n (λk=>iV (l k)))),(15,(nV n)),(16,(iV (wr .i64 (Ae (ofNat i) 1))))]),[.imap 76 (Bn t 1) (λz=>sel (ieq z (l i)) (wr .i64 (Ae (g (l i)) 1)) (g z))]⟩):=Aa (bbK 7 127) [ilt (ofNat i) (ofNat n),Af (ile 0 (ofNat i)) (ilt (ofNat i) (ofNat n)),true,Dn (l i),nlt t 4611686018427387904,Dn (l i),Dn (wr .i64 (Ae (g (l i)) 1))] (by kernel_rfl) (by simp only [h1] <;> simp only [*] <;> rfl)
end
def VT (_:Nat) (_:Nat->Int) (_:Int) :Nat->V:=lkV AA [(13,(.ref 0))]
def Gq (n:Nat) (_:Nat->Int) (_:Int):Lp:=⟨(bmK 48 0 [1,2,6,7,8,29,30,31]),1,bmK 48 0 [6,7],0,n+1⟩
def Gd (n:Nat) (l:Nat->Int) (q:Int) (t:Nat) (g:Int->Int) (i:Nat) (j:Nat->V):St:=⟨(jsV 48 0 j [(1,.fn 88 []),(2,iV q),(6,iV 0),(7,bV false),(8,.ref 0),(29,.sl 1 n (λk=>iV (l k))),(30,nV n),(31,nV i)]),[.imap 76 t g]⟩
def He (_:Nat) (_:Nat->Int) (_:Int) (_:Nat) (_:Int->Int) (_:Nat):Ex × St:=(.ex 2,⟨(jsV 48 0 (λ_=>.und) [(6,iV 0),(7,bV false)]),[]⟩)
def Hd (_:Nat) (_:Nat->Int) (_:Int) (_:Nat) (_:Int->Int) (i:Nat):Ex × St:=(.rt,⟨(jsV 48 0 (λ_=>.und) [(6,nV i),(7,bV true)]),[]⟩)
noncomputable def DV (L:LT):St->T (Ex × St):=λst=>AF tab ⟨Ap Lb,L,Gl⟩ (A1 Try.f86 2) 2 st
section
variable (L:LT) (n:Nat) (l:Nat->Int) (q:Int) (t:Nat) (g:Int->Int) (i:Nat)  (j:Nat->V)
include L n l q t g i j
theorem Aft (h0:ilt (ofNat i) (ofNat n) = false):Ai (DV L) (Gq n l q) (Gd n l q t g i j) = some ((.ex 2),⟨(jsV 48 0 (λ_=>.und) [(6,(iV 0)),(7,(bV false))]),[]⟩):=Aa [false] [ilt (ofNat i) (ofNat n)] (by kernel_rfl) (by simp only [h0] <;> rfl)
theorem Afv (h0:ilt (ofNat i) (ofNat n) = true) (h1:Af (ile 0 (ofNat i)) (ilt (ofNat i) (ofNat n)) = true) (h2:Dn (l i) = true) (h3:ilt q (g (l i)) = false):Ai (DV L) (Gq n l q) (Gd n l q t g i j) = some (.nm,⟨(jsV 48 0 (λ_=>.und) [(1,(.fn 88 [])),(2,(iV q)),(6,(iV 0)),(7,(bV false)),(8,(.ref 0)),(29,(.sl 1 n (λk=>iV (l k)))),(30,(nV n)),(31,(iV (wr .i64 (Ae (ofNat i) 1))))]),[.imap 76 t g]⟩):=Aa (bbK 10 511) [ilt (ofNat i) (ofNat n),Af (ile 0 (ofNat i)) (ilt (ofNat i) (ofNat n)),true,true,true,Dn (l i),true,true,true,ilt q (g (l i))] (by kernel_rfl) (by simp only [h1] <;> simp only [*] <;> rfl)
theorem Afu (h0:ilt (ofNat i) (ofNat n) = true) (h1:Af (ile 0 (ofNat i)) (ilt (ofNat i) (ofNat n)) = true) (h2:Dn (l i) = true) (h3:ilt q (g (l i)) = true):Ai (DV L) (Gq n l q) (Gd n l q t g i j) = some (.rt,⟨(jsV 48 0 (λ_=>.und) [(6,(nV i)),(7,(bV true))]),[]⟩):=Aa (bbK 10 1023) [ilt (ofNat i) (ofNat n),Af (ile 0 (ofNat i)) (ilt (ofNat i) (ofNat n)),true,true,true,Dn (l i),true,true,true,ilt q (g (l i))] (by kernel_rfl) (by simp only [h1] <;> simp only [*] <;> rfl)
end
def MG (n:Nat) (l:Nat->Int) (_:Int) (_:Nat) (_:Int->Int) (_:Nat):Nat->V:=lkV AA [(0,(.sl 1 n (λk=>iV (l k)))),(3,.und),(4,.und),(5,.und),(9,.und),(10,.und),(11,.und),(12,.und),(13,.und),(14,.und),(15,.und),(16,.und),(17,.und),(18,.und),(19,.und),(20,.und),(21,.und),(22,.und),(23,.und),(24,.und),(25,.und),(26,.und),(27,.und),(28,.und),(32,.und),(33,.und),(34,.und),(35,.und),(36,.und),(37,.und),(38,.und),(39,.und),(40,.und),(41,.und),(42,.und),(43,.und),(44,.und),(45,.und),(46,.und),(47,.und)]
section
variable (L:LT) (p0:PT) (p2:PT) (n:Nat) (l:Nat->Int) (q:Int) (t:Nat) (g:Int->Int) (i m:Nat)
include L p0 p2 n l q t g i m
theorem Adq  (hp0:p0 (HU (onP 0 p0 (FV n l q t g i) (onP 2 p2 (He n l q t g m) L))) (Nl n l q 0 (λ_=>0) 0 (VT n l q )) = true) (hp2:p2 (DV (onP 0 p0 (FV n l q t g i) (onP 2 p2 (He n l q t g m) L))) (Gd n l q t g 0 (MG n l q t g i)) = true):(Az (Ak tab ⟨Ap Lb,onP 0 p0 (FV n l q t g i) (onP 2 p2 (He n l q t g m) L),Gl⟩ Try.f86 [ER n l,.fn 88 [],iV q] [])).sem = some ((.tup [iV 0,bV false]),[]):=Aa [true,true] [p0 (HU (onP 0 p0 (FV n l q t g i) (onP 2 p2 (He n l q t g m) L))) (Nl n l q 0 (λ_=>0) 0 (VT n l q )),p2 (DV (onP 0 p0 (FV n l q t g i) (onP 2 p2 (He n l q t g m) L))) (Gd n l q t g 0 (MG n l q t g i))] (by kernel_rfl) (by simp only [hp0,hp2] <;> rfl)
theorem Adp  (hp0:p0 (HU (onP 0 p0 (FV n l q t g i) (onP 2 p2 (Hd n l q t g m) L))) (Nl n l q 0 (λ_=>0) 0 (VT n l q )) = true) (hp2:p2 (DV (onP 0 p0 (FV n l q t g i) (onP 2 p2 (Hd n l q t g m) L))) (Gd n l q t g 0 (MG n l q t g i)) = true):(Az (Ak tab ⟨Ap Lb,onP 0 p0 (FV n l q t g i) (onP 2 p2 (Hd n l q t g m) L),Gl⟩ Try.f86 [ER n l,.fn 88 [],iV q] [])).sem = some ((.tup [nV m,bV true]),[]):=Aa [true,true] [p0 (HU (onP 0 p0 (FV n l q t g i) (onP 2 p2 (Hd n l q t g m) L))) (Nl n l q 0 (λ_=>0) 0 (VT n l q )),p2 (DV (onP 0 p0 (FV n l q t g i) (onP 2 p2 (Hd n l q t g m) L))) (Gd n l q t g 0 (MG n l q t g i))] (by kernel_rfl) (by simp only [hp0,hp2] <;> rfl)
end
theorem Yt (L:LT) (n:Nat) (l:Nat->Int) (q:Int) (hn:n <= 4611686018427387904) (ho:okP n l = true):∀ (d i:Nat) (j:Nat->V) (p:Nat),n = i+d->d < p ->
  (A9 (HU L) (NN n l q) p (Nl n l q (Aj (λ_=>true) i) (gK l (λ_=>true) i) i j)).sem = some (FV n l q (Aj (λ_=>true) n) (gK l (λ_=>true) n) n)
 | 0,i,j,p+1,h,_=>by
  have:n = i:=by omega
  subst this
  exact Ad (AfH L n l q (Aj (λ_=>true) n) (gK l (λ_=>true) n) n j (AD (Nat.le_refl _)))
 | d+1,i,j,p+1,h,h2=>by
  have hl:i < n:=by omega
  have hc:=AX (λ_=>true) i
  have hc2:=AX (Co l (λ_=>true) (l i)) i
  have ht:nlt (Aj (λ_=>true) i) 4611686018427387904 = true:=by simp only [nlt,decide_eq_true_eq]; omega
  have hf:Dn (wr .i64 (Ae (gK l (λ_=>true) i (l i)) 1)) = true:=by
   show Dn (wr .i64 (Ae (ofNat (Aj (Co l (λ_=>true) (l i)) i)) 1)) = true
   rw [Ao (show Aj (Co l (λ_=>true) (l i)) i < n by omega) hn]
   exact QY (by omega)
  rw [Ad (AfG L n l q (Aj (λ_=>true) i) (gK l (λ_=>true) i) i j (ofNat_lt hl) (Aq hl) (AJ.1 ho i hl) ht hf),Ax,Ao hl hn,Z5 (l:=l) (c:=(λ_=>true)) (i:=i) rfl hl hn,show Bn (Aj (λ_=>true) i) 1 = Aj (λ_=>true) (i+1) from (Bi (p:=(λ_=>true)) rfl).symm]
  exact Yt L n l q hn ho d (i+1) (λ_=>.und) p (by omega) (by omega)
theorem Vp (L:LT) (n:Nat) (l:Nat->Int) (q:Int) (t:Nat) (hn:n <= 4611686018427387904) (ho:okP n l = true):∀ (d i:Nat) (j:Nat->V) (p:Nat),n = i+d->d < p ->
  (A9 (DV L) (Gq n l q) p (Gd n l q t (gK l (λ_=>true) n) i j)).sem = some (match Be (AG n l (λ_=>true) q) d i with
   | none=>He n l q t (gK l (λ_=>true) n) 0
   | some m=>Hd n l q t (gK l (λ_=>true) n) m)
 | 0,i,j,p+1,h,_=>by
  have:n = i:=by omega
  subst this
  exact Ad (Aft L n l q t (gK l (λ_=>true) n) n j (AD (Nat.le_refl _)))
 | d+1,i,j,p+1,h,h2=>by
  have hl:i < n:=by omega
  cases cg:ilt q (gK l (λ_=>true) n (l i)) with
  | false =>
   rw [Bz (show AG n l (λ_=>true) q i = false by unfold AG; rw [show ilt q (Em n l (λ_=>true) (l i)) = false from cg]; cases (λ_=>true) i <;> rfl),Ad (Afv L n l q t (gK l (λ_=>true) n) i j (ofNat_lt hl) (Aq hl) (AJ.1 ho i hl) cg),Ax,Ao hl hn]
   exact Vp L n l q t hn ho d (i+1) (λ_=>.und) p (by omega) (by omega)
  | true =>
   rw [BZ (show AG n l (λ_=>true) q i = true by unfold AG; rw [show ilt q (Em n l (λ_=>true) (l i)) = true from cg,show (λ_=>true) i = true from rfl]; rfl)]
   exact Ad (Afu L n l q t (gK l (λ_=>true) n) i j (ofNat_lt hl) (Aq hl) (AJ.1 ho i hl) cg)
theorem Aa8 (n:Nat) (l:Nat->Int) (q:Int) (hn:n <= 4611686018427387904) (ho:okP n l = true) :
  (Az (Ak tab (AS Gl Lb [(0,NN n l q),(2,Gq n l q)]) Try.f86 [ER n l,.fn 88 [],iV q] [])).sem = some (.tup [iV (crR n l (λ_=>true) q).1,bV (crR n l (λ_=>true) q).2],[]):=by
 have hL:=AL [(0,NN n l q),(2,Gq n l q)]
 have h0:=λL j=>Yt L n l q hn ho n 0 j (n+1) (by omega) (by omega)
 have h2:=λL j=>Vp L n l q (Aj (λ_=>true) n) hn ho n 0 j (n+1) (by omega) (by omega)
 rw [Aj0] at h0
 unfold crR
 cases c1:Be (AG n l (λ_=>true) q) n 0 with
 | some m =>
  rw [c1] at h2
  exact A7 (Ay (Ay hL hL) hL) _ (Adp _ _ _ n l q (Aj (λ_=>true) n) (gK l (λ_=>true) n) n m (Am (h0 _ _)) (Am (h2 _ _)))
 | none =>
  rw [c1] at h2
  exact A7 (Ay (Ay hL hL) hL) _ (Adq _ _ _ n l q (Aj (λ_=>true) n) (gK l (λ_=>true) n) n 0 (Am (h0 _ _)) (Am (h2 _ _)))
def UM:List V->T (V × List Blk)
 | [u,.fn 85 [.pp (.agg [v])],.val (.int .i64 q)]=>apI u λm l=>apL v λn f=>.br (A3 n m) (.br (Ah n) (.br (okP m l) (out (.tup [iV (crR m l (λi=>isW (f i)) q).1,bV (crR m l (λi=>isW (f i)) q).2])) .fail) .fail) .fail
 | [u,.fn 88 [],.val (.int .i64 q)]=>apI u λm l=>.br (Ah m) (.br (okP m l) (out (.tup [iV (crR m l (λ_=>true) q).1,bV (crR m l (λ_=>true) q).2])) .fail) .fail
 | _=>.fail
theorem p91:A6 Try.prog Gl 86 UM:=by
 refine A5 AO AP Try.func86 (by kernel_rfl) (by kernel_rfl) λvs v h' h=>?_
 unfold UM at h
 split at h
 ·rename_i u1 v1 q
  obtain ⟨m,l,ha,h1⟩:=Hq h
  obtain ⟨n,f,hb,h2⟩:=Cj h1
  obtain ⟨hm,h3⟩:=Ag h2
  obtain ⟨hn,h4⟩:=Ag h3
  obtain ⟨ho,hq⟩:=Ag h4
  have hm:n = m:=Nat.eq_of_beq_eq_true hm
  subst hm
  have:=Ac hq
  simp only [Prod.mk.injEq] at this
  obtain ⟨rfl,rfl⟩:=this
  have hn:n <= 4611686018427387904:=of_decide_eq_true hn
  have hA:BJ [u1,.fn 85 [.pp (.agg [v1])],.val (.int .i64 q)] [ER n l,.fn 85 [.pp (.agg [A4 n f])],iV q]:=λS w cs hv=>by
   obtain ⟨c,l1,rfl,q1,c2,l2,rfl,⟨ca,q4,c5,l5,q5,q6,q7⟩,q3⟩:=hv
   exact ⟨c,_,rfl,ha S w c q1,c2,l2,rfl,⟨ca,q4,c5,l5,q5,AcH hb S w noK c5 q6,q7⟩,q3⟩
  have hx:=AQ Vg [(0,Mm n f l q),(2,F1 n f l q)]
  exact ⟨_,AS Gl Lb [(0,Mm n f l q),(2,F1 n f l q)],_,hA,rfl,hx.1,hx.2,Aa7 n f l q hn ho,AC.refl _⟩
 ·rename_i u1 q
  obtain ⟨n,l,ha,h1⟩:=Hq h
  obtain ⟨hn,h4⟩:=Ag h1
  obtain ⟨ho,hq⟩:=Ag h4
  have:=Ac hq
  simp only [Prod.mk.injEq] at this
  obtain ⟨rfl,rfl⟩:=this
  have hn:n <= 4611686018427387904:=of_decide_eq_true hn
  have hA:BJ [u1,.fn 88 [],.val (.int .i64 q)] [ER n l,.fn 88 [],iV q]:=λS w cs hv=>by
   obtain ⟨c,l1,rfl,q1,q3⟩:=hv
   exact ⟨c,_,rfl,ha S w c q1,q3⟩
  have hx:=AQ Vg [(0,NN n l q),(2,Gq n l q)]
  exact ⟨_,AS Gl Lb [(0,NN n l q),(2,Gq n l q)],_,hA,rfl,hx.1,hx.2,Aa8 n l q hn ho,AC.refl _⟩
 ·cases h
end Go.Proofs.Ytjhnfomefcngfaa.Ed
