/-
  crowded: the first event whose part has too many. No conditions.
-/
import Derived.Test.YtjhnfomefcngfaaCyQ
namespace Go.Proofs.Ytjhnfomefcngfaa.Ed
open Go.Sy
open Int (ofNat)
theorem AcD {v u:V} (h:∀ (S:Nat->Prop) (w:World) (c:Value),VR S w v noK c->VR S w u noK c) (S:Nat->Prop) (w:World) (κ:Nat->Option Value) (c:Value) (hv:VR S w (.pp (.agg [v])) κ c):VR S w (.pp (.agg [u])) κ c:=by
 obtain ⟨b,o,cv,q1,⟨ca,q2,a,l',q3,q4,q5⟩,q6⟩:=hv
 exact ⟨b,o,cv,q1,⟨ca,q2,a,l',q3,h S w a q4,q5⟩,q6⟩
def Ago:List V->T (V × List Blk)
 | [.val (.int .i64 i),.pp (.agg [v])]=>apL v λn f=>.br (Af (ile 0 i) (ilt i (ofNat n))) (out (bV (isW (f (toN i))))) .fail
 | _=>.fail
def XE:List V->T (V × List Blk)
 | [.val (.int .i64 _)]=>out (bV true)
 | _=>.fail
theorem Aj7 (L:LT) (i:Int) (n:Nat) (f:Nat->E6) (h0:Af (ile 0 i) (ilt i (ofNat n)) = true):(A2 (An tab ⟨Aq tb0,L,Gl⟩ Try.f85 [iV i,.pp (.agg [A3 n f])] [])).sem = some ((bV (ieq ((f (toN i))).src 2)),[]):=Aa [true] [Af (ile 0 i) (ilt i (ofNat n))] (by kernel_rfl) (by simp only [h0] <;> rfl)
theorem Aj6 (L:LT) (i:Int) :(A2 (An tab ⟨Aq tb0,L,Gl⟩ Try.f88 [iV i] [])).sem = some ((bV true),[]):=Aa [] [] (by kernel_rfl) (by rfl)
theorem p90:AA Try.prog Gl 85 Ago:=by
 refine A5 AQ AR Try.func85 (by kernel_rfl) (by kernel_rfl) λvs v h' h=>?_
 unfold Ago at h
 split at h
 ·rename_i i u
  obtain ⟨n,f,ha,h1⟩:=Cl h
  obtain ⟨hi,hq⟩:=Ag h1
  have:=Ac hq
  simp only [Prod.mk.injEq] at this
  obtain ⟨rfl,rfl⟩:=this
  have hA:BL [.val (.int .i64 i),.pp (.agg [u])] [iV i,.pp (.agg [A3 n f])]:=λS w cs hv=>by
   obtain ⟨c,l,rfl,q1,c2,l2,rfl,q2,q3⟩:=hv
   exact ⟨c,_,rfl,q1,c2,l2,rfl,AcD ha S w noK c2 q2,q3⟩
  have hx:=AS Ee []
  exact ⟨_,AT Gl tb0 [],_,hA,rfl,hx.1,hx.2,Aj7 _ i n f hi,AE.refl _⟩
 ·cases h
theorem p93:AA Try.prog Gl 88 XE:=by
 refine A5 AQ AR Try.func88 (by kernel_rfl) (by kernel_rfl) λvs v h' h=>?_
 unfold XE at h
 split at h
 ·have:=Ac h
  simp only [Prod.mk.injEq] at this
  obtain ⟨rfl,rfl⟩:=this
  have hx:=AS Ee []
  exact ⟨_,AT Gl tb0 [],_,BL.refl _,rfl,hx.1,hx.2,Aj6 _ _,AE.refl _⟩
 ·cases h
noncomputable def Ld:List (Nat × (List V->T (V × List Blk))):=(85,Ago) :: (88,XE) :: []
theorem UY:AC Try.prog Gl Ld:=.cons p90 <| .cons p93 .nil
def gK (l:Nat->Int) (c:Nat->Bool) (i:Nat) (x:Int):Int:=ofNat (Ak (Cq l c x) i)
theorem Ajj (l:Nat->Int) (c:Nat->Bool):gK l c 0 = λ_=>0:=rfl
theorem Aji {l:Nat->Int} {c:Nat->Bool} {i:Nat} (h:c i = false):gK l c (i+1) = gK l c i:=by
 funext x
 unfold gK
 rw [B0]
 rw [Cq,h]
 cases ieq (l i) x <;> rfl
theorem Z1 {l:Nat->Int} {c:Nat->Bool} {i n:Nat} (h:c i = true) (hi:i < n) (hn:n <= 4611686018427387904):(λk=>sel (ieq k (l i)) (wr .i64 (Ae (gK l c i (l i)) 1)) (gK l c i k)) = gK l c (i+1):=by
 funext x
 by_cases hx:x = l i
 ·subst hx
  have h1:ieq (l i) (l i) = true:=by simp [ieq]
  rw [h1]
  show wr .i64 (Ae (ofNat (Ak (Cq l c (l i)) i)) 1) = _
  have:=Bd (Cq l c (l i)) i
  rw [Ao (show Ak (Cq l c (l i)) i < n by omega) hn]
  unfold gK
  rw [Bk (show Cq l c (l i) i = true by rw [Cq,h,h1]; rfl)]
 ·have h1:ieq x (l i) = false:=by simp [ieq,hx]
  rw [h1]
  show gK l c i x = _
  unfold gK
  rw [B0 (show Cq l c x i = false by rw [Cq,show ieq (l i) x = false by simp [ieq]; omega]; rfl)]
theorem QU {a:Nat} (h:a <= 4611686018427387904):Dr (ofNat a) = true:=by
 simp only [Dr,Bool.and_eq_true,decide_eq_true_eq,Int.ofNat_eq_natCast]
 omega
def okP (n:Nat) (l:Nat->Int):Bool:=Ay n λi=>Dr (l i)
def AH (n:Nat) (l:Nat->Int) (c:Nat->Bool) (q:Int) (i:Nat):Bool:=Af (c i) (ilt q (Eo n l c (l i)))
def crR (n:Nat) (l:Nat->Int) (c:Nat->Bool) (q:Int):Int × Bool :=
 match Bc (AH n l c q) n 0 with
 | some t=>(ofNat t,true)
 | none=>(0,false)
def Mo (n:Nat) (_:Nat->E6) (_:Nat->Int) (_:Int):Lp:=⟨(bmK 48 0 [0,1,2,6,7,8,14,15,16]),1,bmK 48 0 [0,1,2,6,7,8],1,n+1⟩
def Mc (n:Nat) (f:Nat->E6) (l:Nat->Int) (q:Int) (t:Nat) (g:Int->Int) (i:Nat) (j:Nat->V):St:=⟨(jsV 48 0 j [(0,.sl 1 n (λk=>iV (l k))),(1,.fn 85 [.pp (.agg [A3 n f])]),(2,iV q),(6,iV 0),(7,bV false),(8,.ref 0),(14,.sl 1 n (λk=>iV (l k))),(15,nV n),(16,nV i)]),[.imap 76 t g]⟩
def FR (n:Nat) (f:Nat->E6) (l:Nat->Int) (q:Int) (t:Nat) (g:Int->Int) (_:Nat):Ex × St:=(.ex 0,⟨(jsV 48 0 (λ_=>.und) [(0,.sl 1 n (λk=>iV (l k))),(1,.fn 85 [.pp (.agg [A3 n f])]),(2,iV q),(6,iV 0),(7,bV false),(8,.ref 0)]),[.imap 76 t g]⟩)
noncomputable def G1 (L:LT):St->T (Ex × St):=λst=>AG tab ⟨Aq Ld,L,Gl⟩ (A1 Try.f86 0) 0 st
section
variable (L:LT) (n:Nat) (f:Nat->E6) (l:Nat->Int) (q:Int) (t:Nat) (g:Int->Int) (i:Nat)  (j:Nat->V)
include L n f l q t g i j
theorem Af7 (h0:ilt (ofNat i) (ofNat n) = false):Aj (G1 L) (Mo n f l q) (Mc n f l q t g i j) = some ((.ex 0),⟨(jsV 48 0 (λ_=>.und) [(0,(.sl 1 n (λk=>iV (l k)))),(1,(.fn 85 [.pp (.agg [.sl 6 n (λi=>eV (f i))])])),(2,(iV q)),(6,(iV 0)),(7,(bV false)),(8,(.ref 0))]),[.imap 76 t g]⟩):=Aa [false] [ilt (ofNat i) (ofNat n)] (by kernel_rfl) (by simp only [h0] <;> rfl)
theorem Af6 (h0:ilt (ofNat i) (ofNat n) = true) (h1:Af (ile 0 (ofNat i)) (ilt (ofNat i) (ofNat n)) = true) (h2:isW (f i) = false):Aj (G1 L) (Mo n f l q) (Mc n f l q t g i j) = some (.nm,⟨(jsV 48 0 (λ_=>.und) [(0,(.sl 1 n (λk=>iV (l k)))),(1,(.fn 85 [.pp (.agg [.sl 6 n (λi=>eV (f i))])])),(2,(iV q)),(6,(iV 0)),(7,(bV false)),(8,(.ref 0)),(14,(.sl 1 n (λk=>iV (l k)))),(15,(nV n)),(16,(iV (wr .i64 (Ae (ofNat i) 1))))]),[.imap 76 t g]⟩):=Aa [true,true,true,true,false] ((λc0=>[ilt (ofNat i) (ofNat n),c0,Ay n (λ_=>true),c0,isW (f i)]) (Af (ile 0 (ofNat i)) (ilt (ofNat i) (ofNat n)))) (by kernel_rfl) (by simp only [h1] <;> simp only [h0,h2,Ax] <;> rfl)
theorem Af5 (h0:ilt (ofNat i) (ofNat n) = true) (h1:Af (ile 0 (ofNat i)) (ilt (ofNat i) (ofNat n)) = true) (h2:isW (f i) = true) (h4:Dr (l i) = true) (h3:nlt t 4611686018427387904 = true) (h5:Dr (wr .i64 (Ae (g (l i)) 1)) = true):Aj (G1 L) (Mo n f l q) (Mc n f l q t g i j) = some (.nm,⟨(jsV 48 0 (λ_=>.und) [(0,(.sl 1 n (λk=>iV (l k)))),(1,(.fn 85 [.pp (.agg [.sl 6 n (λi=>eV (f i))])])),(2,(iV q)),(6,(iV 0)),(7,(bV false)),(8,(.ref 0)),(14,(.sl 1 n (λk=>iV (l k)))),(15,(nV n)),(16,(iV (wr .i64 (Ae (ofNat i) 1))))]),[.imap 76 (Bp t 1) (λz=>sel (ieq z (l i)) (wr .i64 (Ae (g (l i)) 1)) (g z))]⟩):=Aa (bbK 9 511) ((λc0 c1=>[ilt (ofNat i) (ofNat n),c0,Ay n (λ_=>true),c0,isW (f i),c1,nlt t 4611686018427387904,c1,Dr (wr .i64 (Ae (g (l i)) 1))]) (Af (ile 0 (ofNat i)) (ilt (ofNat i) (ofNat n))) (Dr (l i))) (by kernel_rfl) (by simp only [h1] <;> simp only [*,Ax] <;> rfl)
end
def VJ (_:Nat) (_:Nat->E6) (_:Nat->Int) (_:Int) :Nat->V:=lkV A9 [(13,(.ref 0))]
def F0 (n:Nat) (_:Nat->E6) (_:Nat->Int) (_:Int):Lp:=⟨(bmK 48 0 [1,2,6,7,8,29,30,31]),1,bmK 48 0 [6,7],0,n+1⟩
def Fv (n:Nat) (f:Nat->E6) (l:Nat->Int) (q:Int) (t:Nat) (g:Int->Int) (i:Nat) (j:Nat->V):St:=⟨(jsV 48 0 j [(1,.fn 85 [.pp (.agg [A3 n f])]),(2,iV q),(6,iV 0),(7,bV false),(8,.ref 0),(29,.sl 1 n (λk=>iV (l k))),(30,nV n),(31,nV i)]),[.imap 76 t g]⟩
def Hd (_:Nat) (_:Nat->E6) (_:Nat->Int) (_:Int) (_:Nat) (_:Int->Int) (_:Nat):Ex × St:=(.ex 2,⟨(jsV 48 0 (λ_=>.und) [(6,iV 0),(7,bV false)]),[]⟩)
def Hc (_:Nat) (_:Nat->E6) (_:Nat->Int) (_:Int) (_:Nat) (_:Int->Int) (i:Nat):Ex × St:=(.rt,⟨(jsV 48 0 (λ_=>.und) [(6,nV i),(7,bV true)]),[]⟩)
noncomputable def D3 (L:LT):St->T (Ex × St):=λst=>AG tab ⟨Aq Ld,L,Gl⟩ (A1 Try.f86 2) 2 st
section
variable (L:LT) (n:Nat) (f:Nat->E6) (l:Nat->Int) (q:Int) (t:Nat) (g:Int->Int) (i:Nat)  (j:Nat->V)
include L n f l q t g i j
theorem Afh (h0:ilt (ofNat i) (ofNat n) = false):Aj (D3 L) (F0 n f l q) (Fv n f l q t g i j) = some ((.ex 2),⟨(jsV 48 0 (λ_=>.und) [(6,(iV 0)),(7,(bV false))]),[]⟩):=Aa [false] [ilt (ofNat i) (ofNat n)] (by kernel_rfl) (by simp only [h0] <;> rfl)
theorem Afk (h0:ilt (ofNat i) (ofNat n) = true) (h1:Af (ile 0 (ofNat i)) (ilt (ofNat i) (ofNat n)) = true) (h2:isW (f i) = false):Aj (D3 L) (F0 n f l q) (Fv n f l q t g i j) = some (.nm,⟨(jsV 48 0 (λ_=>.und) [(1,(.fn 85 [.pp (.agg [.sl 6 n (λi=>eV (f i))])])),(2,(iV q)),(6,(iV 0)),(7,(bV false)),(8,(.ref 0)),(29,(.sl 1 n (λk=>iV (l k)))),(30,(nV n)),(31,(iV (wr .i64 (Ae (ofNat i) 1))))]),[.imap 76 t g]⟩):=Aa (bbK 11 15) ((λc0 c1=>[ilt (ofNat i) (ofNat n),c0,Ay n (λ_=>true),c0,c1,c1,c1,c1,c1,c1,false]) (Af (ile 0 (ofNat i)) (ilt (ofNat i) (ofNat n))) (isW (f i))) (by kernel_rfl) (by simp only [h1] <;> simp only [h0,h2,Ax] <;> rfl)
theorem Afj (h0:ilt (ofNat i) (ofNat n) = true) (h1:Af (ile 0 (ofNat i)) (ilt (ofNat i) (ofNat n)) = true) (h2:isW (f i) = true) (h3:Dr (l i) = true) (h4:ilt q (g (l i)) = false):Aj (D3 L) (F0 n f l q) (Fv n f l q t g i j) = some (.nm,⟨(jsV 48 0 (λ_=>.und) [(1,(.fn 85 [.pp (.agg [.sl 6 n (λi=>eV (f i))])])),(2,(iV q)),(6,(iV 0)),(7,(bV false)),(8,(.ref 0)),(29,(.sl 1 n (λk=>iV (l k)))),(30,(nV n)),(31,(iV (wr .i64 (Ae (ofNat i) 1))))]),[.imap 76 t g]⟩):=Aa (bbK 12 2047) ((λc0 c1=>[ilt (ofNat i) (ofNat n),c0,Ay n (λ_=>true),c0,c1,c1,c1,Dr (l i),c1,c1,c1,ilt q (g (l i))]) (Af (ile 0 (ofNat i)) (ilt (ofNat i) (ofNat n))) (isW (f i))) (by kernel_rfl) (by simp only [h1] <;> simp only [*,Ax] <;> rfl)
theorem Afi (h0:ilt (ofNat i) (ofNat n) = true) (h1:Af (ile 0 (ofNat i)) (ilt (ofNat i) (ofNat n)) = true) (h2:isW (f i) = true) (h3:Dr (l i) = true) (h4:ilt q (g (l i)) = true):Aj (D3 L) (F0 n f l q) (Fv n f l q t g i j) = some (.rt,⟨(jsV 48 0 (λ_=>.und) [(6,(nV i)),(7,(bV true))]),[]⟩):=Aa (bbK 12 4095) ((λc0 c1=>[ilt (ofNat i) (ofNat n),c0,Ay n (λ_=>true),c0,c1,c1,c1,Dr (l i),c1,c1,c1,ilt q (g (l i))]) (Af (ile 0 (ofNat i)) (ilt (ofNat i) (ofNat n))) (isW (f i))) (by kernel_rfl) (by simp only [h1] <;> simp only [*,Ax] <;> rfl)
end
def MF (n:Nat) (_:Nat->E6) (l:Nat->Int) (_:Int) (_:Nat) (_:Int->Int) (_:Nat):Nat->V:=lkV A9 [(0,(.sl 1 n (λk=>iV (l k)))),(3,.und),(4,.und),(5,.und),(9,.und),(10,.und),(11,.und),(12,.und),(13,.und),(14,.und),(15,.und),(16,.und),(17,.und),(18,.und),(19,.und),(20,.und),(21,.und),(22,.und),(23,.und),(24,.und),(25,.und),(26,.und),(27,.und),(28,.und),(32,.und),(33,.und),(34,.und),(35,.und),(36,.und),(37,.und),(38,.und),(39,.und),(40,.und),(41,.und),(42,.und),(43,.und),(44,.und),(45,.und),(46,.und),(47,.und)]
section
variable (L:LT) (p0:PT) (p2:PT) (n:Nat) (f:Nat->E6) (l:Nat->Int) (q:Int) (t:Nat) (g:Int->Int) (i m:Nat)
include L p0 p2 n f l q t g i m
theorem Adi  (hp0:p0 (G1 (onP 0 p0 (FR n f l q t g i) (onP 2 p2 (Hd n f l q t g m) L))) (Mc n f l q 0 (λ_=>0) 0 (VJ n f l q )) = true) (hp2:p2 (D3 (onP 0 p0 (FR n f l q t g i) (onP 2 p2 (Hd n f l q t g m) L))) (Fv n f l q t g 0 (MF n f l q t g i)) = true):(A2 (An tab ⟨Aq Ld,onP 0 p0 (FR n f l q t g i) (onP 2 p2 (Hd n f l q t g m) L),Gl⟩ Try.f86 [ET n l,.fn 85 [.pp (.agg [A3 n f])],iV q] [])).sem = some ((.tup [iV 0,bV false]),[]):=Aa [true,true] [p0 (G1 (onP 0 p0 (FR n f l q t g i) (onP 2 p2 (Hd n f l q t g m) L))) (Mc n f l q 0 (λ_=>0) 0 (VJ n f l q )),p2 (D3 (onP 0 p0 (FR n f l q t g i) (onP 2 p2 (Hd n f l q t g m) L))) (Fv n f l q t g 0 (MF n f l q t g i))] (by kernel_rfl) (by simp only [hp0,hp2] <;> rfl)
theorem Adh  (hp0:p0 (G1 (onP 0 p0 (FR n f l q t g i) (onP 2 p2 (Hc n f l q t g m) L))) (Mc n f l q 0 (λ_=>0) 0 (VJ n f l q )) = true) (hp2:p2 (D3 (onP 0 p0 (FR n f l q t g i) (onP 2 p2 (Hc n f l q t g m) L))) (Fv n f l q t g 0 (MF n f l q t g i)) = true):(A2 (An tab ⟨Aq Ld,onP 0 p0 (FR n f l q t g i) (onP 2 p2 (Hc n f l q t g m) L),Gl⟩ Try.f86 [ET n l,.fn 85 [.pp (.agg [A3 n f])],iV q] [])).sem = some ((.tup [nV m,bV true]),[]):=Aa [true,true] [p0 (G1 (onP 0 p0 (FR n f l q t g i) (onP 2 p2 (Hc n f l q t g m) L))) (Mc n f l q 0 (λ_=>0) 0 (VJ n f l q )),p2 (D3 (onP 0 p0 (FR n f l q t g i) (onP 2 p2 (Hc n f l q t g m) L))) (Fv n f l q t g 0 (MF n f l q t g i))] (by kernel_rfl) (by simp only [hp0,hp2] <;> rfl)
end
theorem TY (L:LT) (n:Nat) (f:Nat->E6) (l:Nat->Int) (q:Int) (hn:n <= 4611686018427387904) (ho:okP n l = true):∀ (d i:Nat) (j:Nat->V) (p:Nat),n = i+d->d < p ->
  (A8 (G1 L) (Mo n f l q) p (Mc n f l q (Ak (λi=>isW (f i)) i) (gK l (λi=>isW (f i)) i) i j)).sem = some (FR n f l q (Ak (λi=>isW (f i)) n) (gK l (λi=>isW (f i)) n) n)
 | 0,i,j,p+1,h,_=>by
  have:n = i:=by omega
  subst this
  exact Ad (Af7 L n f l q (Ak (λi=>isW (f i)) n) (gK l (λi=>isW (f i)) n) n j (AF (Nat.le_refl _)))
 | d+1,i,j,p+1,h,h2=>by
  have hl:i < n:=by omega
  have hc:=Bd (λi=>isW (f i)) i
  have hc2:=Bd (Cq l (λi=>isW (f i)) (l i)) i
  have ht:nlt (Ak (λi=>isW (f i)) i) 4611686018427387904 = true:=by simp only [nlt,decide_eq_true_eq]; omega
  have hf:Dr (wr .i64 (Ae (gK l (λi=>isW (f i)) i (l i)) 1)) = true:=by
   show Dr (wr .i64 (Ae (ofNat (Ak (Cq l (λi=>isW (f i)) (l i)) i)) 1)) = true
   rw [Ao (show Ak (Cq l (λi=>isW (f i)) (l i)) i < n by omega) hn]
   exact QU (by omega)
  cases cw:isW (f i) with
  | false =>
   rw [Ad (Af6 L n f l q (Ak (λi=>isW (f i)) i) (gK l (λi=>isW (f i)) i) i j (ofNat_lt hl) (Ap hl) cw),Aw,Ao hl hn,<- Aji (l:=l) (c:=(λi=>isW (f i))) cw,<- B0 (p:=(λi=>isW (f i))) cw]
   exact TY L n f l q hn ho d (i+1) (λ_=>.und) p (by omega) (by omega)
  | true =>
   rw [Ad (Af5 L n f l q (Ak (λi=>isW (f i)) i) (gK l (λi=>isW (f i)) i) i j (ofNat_lt hl) (Ap hl) cw (AJ.1 ho i hl) ht hf),Aw,Ao hl hn,Z1 (l:=l) (c:=(λi=>isW (f i))) (i:=i) cw hl hn,show Bp (Ak (λi=>isW (f i)) i) 1 = Ak (λi=>isW (f i)) (i+1) from (Bk (p:=(λi=>isW (f i))) cw).symm]
   exact TY L n f l q hn ho d (i+1) (λ_=>.und) p (by omega) (by omega)
theorem Qt (L:LT) (n:Nat) (f:Nat->E6) (l:Nat->Int) (q:Int) (t:Nat) (hn:n <= 4611686018427387904) (ho:okP n l = true):∀ (d i:Nat) (j:Nat->V) (p:Nat),n = i+d->d < p ->
  (A8 (D3 L) (F0 n f l q) p (Fv n f l q t (gK l (λi=>isW (f i)) n) i j)).sem = some (match Bc (AH n l (λi=>isW (f i)) q) d i with
   | none=>Hd n f l q t (gK l (λi=>isW (f i)) n) 0
   | some m=>Hc n f l q t (gK l (λi=>isW (f i)) n) m)
 | 0,i,j,p+1,h,_=>by
  have:n = i:=by omega
  subst this
  exact Ad (Afh L n f l q t (gK l (λi=>isW (f i)) n) n j (AF (Nat.le_refl _)))
 | d+1,i,j,p+1,h,h2=>by
  have hl:i < n:=by omega
  cases cw:isW (f i) with
  | false =>
   rw [B1 (show AH n l (λi=>isW (f i)) q i = false by unfold AH; rw [show (λi=>isW (f i)) i = false from cw]; rfl),Ad (Afk L n f l q t (gK l (λi=>isW (f i)) n) i j (ofNat_lt hl) (Ap hl) cw),Aw,Ao hl hn]
   exact Qt L n f l q t hn ho d (i+1) (λ_=>.und) p (by omega) (by omega)
  | true =>
   cases cg:ilt q (gK l (λi=>isW (f i)) n (l i)) with
   | false =>
    rw [B1 (show AH n l (λi=>isW (f i)) q i = false by unfold AH; rw [show ilt q (Eo n l (λi=>isW (f i)) (l i)) = false from cg]; cases (λi=>isW (f i)) i <;> rfl),Ad (Afj L n f l q t (gK l (λi=>isW (f i)) n) i j (ofNat_lt hl) (Ap hl) cw (AJ.1 ho i hl) cg),Aw,Ao hl hn]
    exact Qt L n f l q t hn ho d (i+1) (λ_=>.und) p (by omega) (by omega)
   | true =>
    rw [Cb (show AH n l (λi=>isW (f i)) q i = true by unfold AH; rw [show ilt q (Eo n l (λi=>isW (f i)) (l i)) = true from cg,show (λi=>isW (f i)) i = true from cw]; rfl)]
    exact Ad (Afi L n f l q t (gK l (λi=>isW (f i)) n) i j (ofNat_lt hl) (Ap hl) cw (AJ.1 ho i hl) cg)
theorem Aa2 (n:Nat) (f:Nat->E6) (l:Nat->Int) (q:Int) (hn:n <= 4611686018427387904) (ho:okP n l = true) :
  (A2 (An tab (AT Gl Ld [(0,Mo n f l q),(2,F0 n f l q)]) Try.f86 [ET n l,.fn 85 [.pp (.agg [A3 n f])],iV q] [])).sem = some (.tup [iV (crR n l (λi=>isW (f i)) q).1,bV (crR n l (λi=>isW (f i)) q).2],[]):=by
 have hL:=AL [(0,Mo n f l q),(2,F0 n f l q)]
 have h0:=λL j=>TY L n f l q hn ho n 0 j (n+1) (by omega) (by omega)
 have h2:=λL j=>Qt L n f l q (Ak (λi=>isW (f i)) n) hn ho n 0 j (n+1) (by omega) (by omega)
 rw [Ajj] at h0
 unfold crR
 cases c1:Bc (AH n l (λi=>isW (f i)) q) n 0 with
 | some m =>
  rw [c1] at h2
  exact A6 (Az (Az hL hL) hL) _ (Adh _ _ _ n f l q (Ak (λi=>isW (f i)) n) (gK l (λi=>isW (f i)) n) n m (Am (h0 _ _)) (Am (h2 _ _)))
 | none =>
  rw [c1] at h2
  exact A6 (Az (Az hL hL) hL) _ (Adi _ _ _ n f l q (Ak (λi=>isW (f i)) n) (gK l (λi=>isW (f i)) n) n 0 (Am (h0 _ _)) (Am (h2 _ _)))
def NM (n:Nat) (_:Nat->Int) (_:Int):Lp:=⟨(bmK 48 0 [0,1,2,6,7,8,14,15,16]),1,bmK 48 0 [0,1,2,6,7,8],1,n+1⟩
def Nk (n:Nat) (l:Nat->Int) (q:Int) (t:Nat) (g:Int->Int) (i:Nat) (j:Nat->V):St:=⟨(jsV 48 0 j [(0,.sl 1 n (λk=>iV (l k))),(1,.fn 88 []),(2,iV q),(6,iV 0),(7,bV false),(8,.ref 0),(14,.sl 1 n (λk=>iV (l k))),(15,nV n),(16,nV i)]),[.imap 76 t g]⟩
def FS (n:Nat) (l:Nat->Int) (q:Int) (t:Nat) (g:Int->Int) (_:Nat):Ex × St:=(.ex 0,⟨(jsV 48 0 (λ_=>.und) [(0,.sl 1 n (λk=>iV (l k))),(1,.fn 88 []),(2,iV q),(6,iV 0),(7,bV false),(8,.ref 0)]),[.imap 76 t g]⟩)
noncomputable def HT (L:LT):St->T (Ex × St):=λst=>AG tab ⟨Aq Ld,L,Gl⟩ (A1 Try.f86 0) 0 st
section
variable (L:LT) (n:Nat) (l:Nat->Int) (q:Int) (t:Nat) (g:Int->Int) (i:Nat)  (j:Nat->V)
include L n l q t g i j
theorem Af9 (h0:ilt (ofNat i) (ofNat n) = false):Aj (HT L) (NM n l q) (Nk n l q t g i j) = some ((.ex 0),⟨(jsV 48 0 (λ_=>.und) [(0,(.sl 1 n (λk=>iV (l k)))),(1,(.fn 88 [])),(2,(iV q)),(6,(iV 0)),(7,(bV false)),(8,(.ref 0))]),[.imap 76 t g]⟩):=Aa [false] [ilt (ofNat i) (ofNat n)] (by kernel_rfl) (by simp only [h0] <;> rfl)
theorem Af8 (h0:ilt (ofNat i) (ofNat n) = true) (h1:Af (ile 0 (ofNat i)) (ilt (ofNat i) (ofNat n)) = true) (h3:Dr (l i) = true) (h2:nlt t 4611686018427387904 = true) (h4:Dr (wr .i64 (Ae (g (l i)) 1)) = true):Aj (HT L) (NM n l q) (Nk n l q t g i j) = some (.nm,⟨(jsV 48 0 (λ_=>.und) [(0,(.sl 1 n (λk=>iV (l k)))),(1,(.fn 88 [])),(2,(iV q)),(6,(iV 0)),(7,(bV false)),(8,(.ref 0)),(14,(.sl 1 n (λk=>iV (l k)))),(15,(nV n)),(16,(iV (wr .i64 (Ae (ofNat i) 1))))]),[.imap 76 (Bp t 1) (λz=>sel (ieq z (l i)) (wr .i64 (Ae (g (l i)) 1)) (g z))]⟩):=Aa (bbK 7 127) [ilt (ofNat i) (ofNat n),Af (ile 0 (ofNat i)) (ilt (ofNat i) (ofNat n)),true,Dr (l i),nlt t 4611686018427387904,Dr (l i),Dr (wr .i64 (Ae (g (l i)) 1))] (by kernel_rfl) (by simp only [h1] <;> simp only [*] <;> rfl)
end
def VK (_:Nat) (_:Nat->Int) (_:Int) :Nat->V:=lkV A9 [(13,(.ref 0))]
def Gn (n:Nat) (_:Nat->Int) (_:Int):Lp:=⟨(bmK 48 0 [1,2,6,7,8,29,30,31]),1,bmK 48 0 [6,7],0,n+1⟩
def Gb (n:Nat) (l:Nat->Int) (q:Int) (t:Nat) (g:Int->Int) (i:Nat) (j:Nat->V):St:=⟨(jsV 48 0 j [(1,.fn 88 []),(2,iV q),(6,iV 0),(7,bV false),(8,.ref 0),(29,.sl 1 n (λk=>iV (l k))),(30,nV n),(31,nV i)]),[.imap 76 t g]⟩
def Hf (_:Nat) (_:Nat->Int) (_:Int) (_:Nat) (_:Int->Int) (_:Nat):Ex × St:=(.ex 2,⟨(jsV 48 0 (λ_=>.und) [(6,iV 0),(7,bV false)]),[]⟩)
def He (_:Nat) (_:Nat->Int) (_:Int) (_:Nat) (_:Int->Int) (i:Nat):Ex × St:=(.rt,⟨(jsV 48 0 (λ_=>.und) [(6,nV i),(7,bV true)]),[]⟩)
noncomputable def DX (L:LT):St->T (Ex × St):=λst=>AG tab ⟨Aq Ld,L,Gl⟩ (A1 Try.f86 2) 2 st
section
variable (L:LT) (n:Nat) (l:Nat->Int) (q:Int) (t:Nat) (g:Int->Int) (i:Nat)  (j:Nat->V)
include L n l q t g i j
theorem Afl (h0:ilt (ofNat i) (ofNat n) = false):Aj (DX L) (Gn n l q) (Gb n l q t g i j) = some ((.ex 2),⟨(jsV 48 0 (λ_=>.und) [(6,(iV 0)),(7,(bV false))]),[]⟩):=Aa [false] [ilt (ofNat i) (ofNat n)] (by kernel_rfl) (by simp only [h0] <;> rfl)
theorem Afn (h0:ilt (ofNat i) (ofNat n) = true) (h1:Af (ile 0 (ofNat i)) (ilt (ofNat i) (ofNat n)) = true) (h2:Dr (l i) = true) (h3:ilt q (g (l i)) = false):Aj (DX L) (Gn n l q) (Gb n l q t g i j) = some (.nm,⟨(jsV 48 0 (λ_=>.und) [(1,(.fn 88 [])),(2,(iV q)),(6,(iV 0)),(7,(bV false)),(8,(.ref 0)),(29,(.sl 1 n (λk=>iV (l k)))),(30,(nV n)),(31,(iV (wr .i64 (Ae (ofNat i) 1))))]),[.imap 76 t g]⟩):=Aa (bbK 10 511) [ilt (ofNat i) (ofNat n),Af (ile 0 (ofNat i)) (ilt (ofNat i) (ofNat n)),true,true,true,Dr (l i),true,true,true,ilt q (g (l i))] (by kernel_rfl) (by simp only [h1] <;> simp only [*] <;> rfl)
theorem Afm (h0:ilt (ofNat i) (ofNat n) = true) (h1:Af (ile 0 (ofNat i)) (ilt (ofNat i) (ofNat n)) = true) (h2:Dr (l i) = true) (h3:ilt q (g (l i)) = true):Aj (DX L) (Gn n l q) (Gb n l q t g i j) = some (.rt,⟨(jsV 48 0 (λ_=>.und) [(6,(nV i)),(7,(bV true))]),[]⟩):=Aa (bbK 10 1023) [ilt (ofNat i) (ofNat n),Af (ile 0 (ofNat i)) (ilt (ofNat i) (ofNat n)),true,true,true,Dr (l i),true,true,true,ilt q (g (l i))] (by kernel_rfl) (by simp only [h1] <;> simp only [*] <;> rfl)
end
def MG (n:Nat) (l:Nat->Int) (_:Int) (_:Nat) (_:Int->Int) (_:Nat):Nat->V:=lkV A9 [(0,(.sl 1 n (λk=>iV (l k)))),(3,.und),(4,.und),(5,.und),(9,.und),(10,.und),(11,.und),(12,.und),(13,.und),(14,.und),(15,.und),(16,.und),(17,.und),(18,.und),(19,.und),(20,.und),(21,.und),(22,.und),(23,.und),(24,.und),(25,.und),(26,.und),(27,.und),(28,.und),(32,.und),(33,.und),(34,.und),(35,.und),(36,.und),(37,.und),(38,.und),(39,.und),(40,.und),(41,.und),(42,.und),(43,.und),(44,.und),(45,.und),(46,.und),(47,.und)]
section
variable (L:LT) (p0:PT) (p2:PT) (n:Nat) (l:Nat->Int) (q:Int) (t:Nat) (g:Int->Int) (i m:Nat)
include L p0 p2 n l q t g i m
theorem Adk  (hp0:p0 (HT (onP 0 p0 (FS n l q t g i) (onP 2 p2 (Hf n l q t g m) L))) (Nk n l q 0 (λ_=>0) 0 (VK n l q )) = true) (hp2:p2 (DX (onP 0 p0 (FS n l q t g i) (onP 2 p2 (Hf n l q t g m) L))) (Gb n l q t g 0 (MG n l q t g i)) = true):(A2 (An tab ⟨Aq Ld,onP 0 p0 (FS n l q t g i) (onP 2 p2 (Hf n l q t g m) L),Gl⟩ Try.f86 [ET n l,.fn 88 [],iV q] [])).sem = some ((.tup [iV 0,bV false]),[]):=Aa [true,true] [p0 (HT (onP 0 p0 (FS n l q t g i) (onP 2 p2 (Hf n l q t g m) L))) (Nk n l q 0 (λ_=>0) 0 (VK n l q )),p2 (DX (onP 0 p0 (FS n l q t g i) (onP 2 p2 (Hf n l q t g m) L))) (Gb n l q t g 0 (MG n l q t g i))] (by kernel_rfl) (by simp only [hp0,hp2] <;> rfl)
theorem Adj  (hp0:p0 (HT (onP 0 p0 (FS n l q t g i) (onP 2 p2 (He n l q t g m) L))) (Nk n l q 0 (λ_=>0) 0 (VK n l q )) = true) (hp2:p2 (DX (onP 0 p0 (FS n l q t g i) (onP 2 p2 (He n l q t g m) L))) (Gb n l q t g 0 (MG n l q t g i)) = true):(A2 (An tab ⟨Aq Ld,onP 0 p0 (FS n l q t g i) (onP 2 p2 (He n l q t g m) L),Gl⟩ Try.f86 [ET n l,.fn 88 [],iV q] [])).sem = some ((.tup [nV m,bV true]),[]):=Aa [true,true] [p0 (HT (onP 0 p0 (FS n l q t g i) (onP 2 p2 (He n l q t g m) L))) (Nk n l q 0 (λ_=>0) 0 (VK n l q )),p2 (DX (onP 0 p0 (FS n l q t g i) (onP 2 p2 (He n l q t g m) L))) (Gb n l q t g 0 (MG n l q t g i))] (by kernel_rfl) (by simp only [hp0,hp2] <;> rfl)
end
theorem Ys (L:LT) (n:Nat) (l:Nat->Int) (q:Int) (hn:n <= 4611686018427387904) (ho:okP n l = true):∀ (d i:Nat) (j:Nat->V) (p:Nat),n = i+d->d < p ->
  (A8 (HT L) (NM n l q) p (Nk n l q (Ak (λ_=>true) i) (gK l (λ_=>true) i) i j)).sem = some (FS n l q (Ak (λ_=>true) n) (gK l (λ_=>true) n) n)
 | 0,i,j,p+1,h,_=>by
  have:n = i:=by omega
  subst this
  exact Ad (Af9 L n l q (Ak (λ_=>true) n) (gK l (λ_=>true) n) n j (AF (Nat.le_refl _)))
 | d+1,i,j,p+1,h,h2=>by
  have hl:i < n:=by omega
  have hc:=Bd (λ_=>true) i
  have hc2:=Bd (Cq l (λ_=>true) (l i)) i
  have ht:nlt (Ak (λ_=>true) i) 4611686018427387904 = true:=by simp only [nlt,decide_eq_true_eq]; omega
  have hf:Dr (wr .i64 (Ae (gK l (λ_=>true) i (l i)) 1)) = true:=by
   show Dr (wr .i64 (Ae (ofNat (Ak (Cq l (λ_=>true) (l i)) i)) 1)) = true
   rw [Ao (show Ak (Cq l (λ_=>true) (l i)) i < n by omega) hn]
   exact QU (by omega)
  rw [Ad (Af8 L n l q (Ak (λ_=>true) i) (gK l (λ_=>true) i) i j (ofNat_lt hl) (Ap hl) (AJ.1 ho i hl) ht hf),Aw,Ao hl hn,Z1 (l:=l) (c:=(λ_=>true)) (i:=i) rfl hl hn,show Bp (Ak (λ_=>true) i) 1 = Ak (λ_=>true) (i+1) from (Bk (p:=(λ_=>true)) rfl).symm]
  exact Ys L n l q hn ho d (i+1) (λ_=>.und) p (by omega) (by omega)
theorem Vg (L:LT) (n:Nat) (l:Nat->Int) (q:Int) (t:Nat) (hn:n <= 4611686018427387904) (ho:okP n l = true):∀ (d i:Nat) (j:Nat->V) (p:Nat),n = i+d->d < p ->
  (A8 (DX L) (Gn n l q) p (Gb n l q t (gK l (λ_=>true) n) i j)).sem = some (match Bc (AH n l (λ_=>true) q) d i with
   | none=>Hf n l q t (gK l (λ_=>true) n) 0
   | some m=>He n l q t (gK l (λ_=>true) n) m)
 | 0,i,j,p+1,h,_=>by
  have:n = i:=by omega
  subst this
  exact Ad (Afl L n l q t (gK l (λ_=>true) n) n j (AF (Nat.le_refl _)))
 | d+1,i,j,p+1,h,h2=>by
  have hl:i < n:=by omega
  cases cg:ilt q (gK l (λ_=>true) n (l i)) with
  | false =>
   rw [B1 (show AH n l (λ_=>true) q i = false by unfold AH; rw [show ilt q (Eo n l (λ_=>true) (l i)) = false from cg]; cases (λ_=>true) i <;> rfl),Ad (Afn L n l q t (gK l (λ_=>true) n) i j (ofNat_lt hl) (Ap hl) (AJ.1 ho i hl) cg),Aw,Ao hl hn]
   exact Vg L n l q t hn ho d (i+1) (λ_=>.und) p (by omega) (by omega)
  | true =>
   rw [Cb (show AH n l (λ_=>true) q i = true by unfold AH; rw [show ilt q (Eo n l (λ_=>true) (l i)) = true from cg,show (λ_=>true) i = true from rfl]; rfl)]
   exact Ad (Afm L n l q t (gK l (λ_=>true) n) i j (ofNat_lt hl) (Ap hl) (AJ.1 ho i hl) cg)
theorem Aa3 (n:Nat) (l:Nat->Int) (q:Int) (hn:n <= 4611686018427387904) (ho:okP n l = true) :
  (A2 (An tab (AT Gl Ld [(0,NM n l q),(2,Gn n l q)]) Try.f86 [ET n l,.fn 88 [],iV q] [])).sem = some (.tup [iV (crR n l (λ_=>true) q).1,bV (crR n l (λ_=>true) q).2],[]):=by
 have hL:=AL [(0,NM n l q),(2,Gn n l q)]
 have h0:=λL j=>Ys L n l q hn ho n 0 j (n+1) (by omega) (by omega)
 have h2:=λL j=>Vg L n l q (Ak (λ_=>true) n) hn ho n 0 j (n+1) (by omega) (by omega)
 rw [Ajj] at h0
 unfold crR
 cases c1:Bc (AH n l (λ_=>true) q) n 0 with
 | some m =>
  rw [c1] at h2
  exact A6 (Az (Az hL hL) hL) _ (Adj _ _ _ n l q (Ak (λ_=>true) n) (gK l (λ_=>true) n) n m (Am (h0 _ _)) (Am (h2 _ _)))
 | none =>
  rw [c1] at h2
  exact A6 (Az (Az hL hL) hL) _ (Adk _ _ _ n l q (Ak (λ_=>true) n) (gK l (λ_=>true) n) n 0 (Am (h0 _ _)) (Am (h2 _ _)))
def UF:List V->T (V × List Blk)
 | [u,.fn 85 [.pp (.agg [v])],.val (.int .i64 q)]=>apI u λm l=>apL v λn f=>.br (A4 n m) (.br (Ai n) (.br (okP m l) (out (.tup [iV (crR m l (λi=>isW (f i)) q).1,bV (crR m l (λi=>isW (f i)) q).2])) .fail) .fail) .fail
 | [u,.fn 88 [],.val (.int .i64 q)]=>apI u λm l=>.br (Ai m) (.br (okP m l) (out (.tup [iV (crR m l (λ_=>true) q).1,bV (crR m l (λ_=>true) q).2])) .fail) .fail
 | _=>.fail
theorem p91:AA Try.prog Gl 86 UF:=by
 refine A5 AQ AR Try.func86 (by kernel_rfl) (by kernel_rfl) λvs v h' h=>?_
 unfold UF at h
 split at h
 ·rename_i u1 v1 q
  obtain ⟨m,l,ha,h1⟩:=Hq h
  obtain ⟨n,f,hb,h2⟩:=Cl h1
  obtain ⟨hm,h3⟩:=Ag h2
  obtain ⟨hn,h4⟩:=Ag h3
  obtain ⟨ho,hq⟩:=Ag h4
  have hm:n = m:=Nat.eq_of_beq_eq_true hm
  subst hm
  have:=Ac hq
  simp only [Prod.mk.injEq] at this
  obtain ⟨rfl,rfl⟩:=this
  have hn:n <= 4611686018427387904:=of_decide_eq_true hn
  have hA:BL [u1,.fn 85 [.pp (.agg [v1])],.val (.int .i64 q)] [ET n l,.fn 85 [.pp (.agg [A3 n f])],iV q]:=λS w cs hv=>by
   obtain ⟨c,l1,rfl,q1,c2,l2,rfl,⟨ca,q4,c5,l5,q5,q6,q7⟩,q3⟩:=hv
   exact ⟨c,_,rfl,ha S w c q1,c2,l2,rfl,⟨ca,q4,c5,l5,q5,AcD hb S w noK c5 q6,q7⟩,q3⟩
  have hx:=AS UY [(0,Mo n f l q),(2,F0 n f l q)]
  exact ⟨_,AT Gl Ld [(0,Mo n f l q),(2,F0 n f l q)],_,hA,rfl,hx.1,hx.2,Aa2 n f l q hn ho,AE.refl _⟩
 ·rename_i u1 q
  obtain ⟨n,l,ha,h1⟩:=Hq h
  obtain ⟨hn,h4⟩:=Ag h1
  obtain ⟨ho,hq⟩:=Ag h4
  have:=Ac hq
  simp only [Prod.mk.injEq] at this
  obtain ⟨rfl,rfl⟩:=this
  have hn:n <= 4611686018427387904:=of_decide_eq_true hn
  have hA:BL [u1,.fn 88 [],.val (.int .i64 q)] [ET n l,.fn 88 [],iV q]:=λS w cs hv=>by
   obtain ⟨c,l1,rfl,q1,q3⟩:=hv
   exact ⟨c,_,rfl,ha S w c q1,q3⟩
  have hx:=AS UY [(0,NM n l q),(2,Gn n l q)]
  exact ⟨_,AT Gl Ld [(0,NM n l q),(2,Gn n l q)],_,hA,rfl,hx.1,hx.2,Aa3 n l q hn ho,AE.refl _⟩
 ·cases h
end Go.Proofs.Ytjhnfomefcngfaa.Ed
