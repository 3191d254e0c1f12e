/-
  crowded: the first event whose part has too many. No conditions.
-/
import Derived.Test.YtjhnfomefcngfaaCyQ
namespace Go.Proofs.Ytjhnfomefcngfaa.Ed
open Go.Sy
open Int (ofNat)
theorem Aeo {v u:V} (h:∀ (S:Nat->Prop) (w:World) (c:Value),VR S w v noK c->VR S w u noK c) (S:Nat->Prop) (w:World) (κ:Nat->Option Value) (c:Value) (hv:VR S w (.pp (.agg [v])) κ c):VR S w (.pp (.agg [u])) κ c:=by
 obtain ⟨b,o,cv,q1,⟨ca,q2,a,l',q3,q4,q5⟩,q6⟩:=hv
 exact ⟨b,o,cv,q1,⟨ca,q2,a,l',q3,h S w a q4,q5⟩,q6⟩
def AhT:List V->T (V × List Blk)
 | [.val (.int .i64 i),.pp (.agg [v])]=>apL v λn f=>.br (Ak (ile 0 i) (ilt i (ofNat n))) (out (bV (isW (f (toN i))))) .fail
 | _=>.fail
def Y3:List V->T (V × List Blk)
 | [.val (.int .i64 _)]=>out (bV true)
 | _=>.fail
theorem Amd (L:LT) (i:Int) (n:Nat) (f:Nat->E6) (h0:Ak (ile 0 i) (ilt i (ofNat n)) = true):(Ar (Ai tab ⟨Am tb0,L,Gl⟩ Try.f85 [iV i,.pp (.agg [Az n f])] [])).sem = some ((bV (ieq ((f (toN i))).src 2)),[]):=by
 exact Aa (ks:=[kn h0]) (by kernel_rfl)
theorem Amc (L:LT) (i:Int) :(Ar (Ai tab ⟨Am tb0,L,Gl⟩ Try.f88 [iV i] [])).sem = some ((bV true),[]):=by
 exact Aa (ks:=[]) (by kernel_rfl)
theorem p90:A7 Try.prog Gl 85 AhT:=by
 refine Av AL AN Try.func85 (by kernel_rfl) (by kernel_rfl) λvs v h' h=>?_
 unfold AhT at h
 split at h
 ·rename_i i u
  obtain ⟨n,f,ha,h1⟩:=Ci h
  obtain ⟨hi,hq⟩:=Ad h1
  have:=Ac hq
  simp only [Prod.mk.injEq] at this
  obtain ⟨rfl,rfl⟩:=this
  have hA:Bp [.val (.int .i64 i),.pp (.agg [u])] [iV i,.pp (.agg [Az n f])]:=λS w cs hv=>by
   obtain ⟨c,l,rfl,q1,c2,l2,rfl,q2,q3⟩:=hv
   exact ⟨c,_,rfl,q1,c2,l2,rfl,Aeo ha S w noK c2 q2,q3⟩
  have hx:=AO C9 []
  exact ⟨_,AI Gl tb0 [],_,hA,rfl,hx.1,hx.2,Amd _ i n f hi,A8.refl _⟩
 ·cases h
theorem p93:A7 Try.prog Gl 88 Y3:=by
 refine Av AL AN Try.func88 (by kernel_rfl) (by kernel_rfl) λvs v h' h=>?_
 unfold Y3 at h
 split at h
 ·have:=Ac h
  simp only [Prod.mk.injEq] at this
  obtain ⟨rfl,rfl⟩:=this
  have hx:=AO C9 []
  exact ⟨_,AI Gl tb0 [],_,Bp.refl _,rfl,hx.1,hx.2,Amc _ _,A8.refl _⟩
 ·cases h
noncomputable def Lo:List (Nat × (List V->T (V × List Blk))):=(85,AhT) :: (88,Y3) :: []
theorem VI:AA Try.prog Gl Lo:=.cons p90 <| .cons p93 .nil
def gK (l:Nat->Int) (c:Nat->Bool) (i:Nat) (x:Int):Int:=ofNat (Al (Cz l c x) i)
theorem Al9 (l:Nat->Int) (c:Nat->Bool):gK l c 0 = λ_=>0:=rfl
theorem Al8 {l:Nat->Int} {c:Nat->Bool} {i:Nat} (h:c i = false):gK l c (i+1) = gK l c i:=by
 funext x
 unfold gK
 rw [By]
 rw [Cz,h]
 cases ieq (l i) x <;> rfl
theorem Aau {l:Nat->Int} {c:Nat->Bool} {i n:Nat} (h:c i = true) (hi:i < n) (hn:n <= 4611686018427387904):(λk=>sel (ieq k (l i)) (wr .i64 (Af (gK l c i (l i)) 1)) (gK l c i k)) = gK l c (i+1):=by
 funext x
 by_cases hx:x = l i
 ·subst hx
  have h1:ieq (l i) (l i) = true:=by simp [ieq]
  rw [h1]
  show wr .i64 (Af (ofNat (Al (Cz l c (l i)) i)) 1) = _
  have:=Be (Cz l c (l i)) i
  rw [Ao (show Al (Cz l c (l i)) i < n by omega) hn]
  unfold gK
  rw [Bl (show Cz l c (l i) i = true by rw [Cz,h,h1]; rfl)]
 ·have h1:ieq x (l i) = false:=by simp [ieq,hx]
  rw [h1]
  show gK l c i x = _
  unfold gK
  rw [By (show Cz l c x i = false by rw [Cz,show ieq (l i) x = false by simp [ieq]; omega]; rfl)]
theorem Rr {a:Nat} (h:a <= 4611686018427387904):Fh (ofNat a) = true:=by
 simp only [Fh,Bool.and_eq_true,decide_eq_true_eq,Int.ofNat_eq_natCast]
 omega
def okP (n:Nat) (l:Nat->Int):Bool:=A5 n λi=>Fh (l i)
def AJ (n:Nat) (l:Nat->Int) (c:Nat->Bool) (q:Int) (i:Nat):Bool:=Ak (c i) (ilt q (Gr n l c (l i)))
def crR (n:Nat) (l:Nat->Int) (c:Nat->Bool) (q:Int):Int × Bool :=
 match Bd (AJ n l c q) n 0 with
 | some t=>(ofNat t,true)
 | none=>(0,false)
def Mr (n:Nat) (_:Nat->E6) (_:Nat->Int) (_:Int):Lp:=⟨(bmK 48 0 [0,1,2,6,7,8,14,15,16]),1,bmK 48 0 [0,1,2,6,7,8],1,n+1⟩
def Ps (n:Nat) (f:Nat->E6) (l:Nat->Int) (q:Int) (t:Nat) (g:Int->Int) (i:Nat) (j:Nat->V):St:=⟨(jsV 48 0 j [(0,.sl 1 n (λk=>iV (l k))),(1,.fn 85 [.pp (.agg [Az n f])]),(2,iV q),(6,iV 0),(7,bV false),(8,.ref 0),(14,.sl 1 n (λk=>iV (l k))),(15,nV n),(16,nV i)]),[.imap 76 t g]⟩
def J9 (n:Nat) (f:Nat->E6) (l:Nat->Int) (q:Int) (t:Nat) (g:Int->Int) (_:Nat):Ex × St:=(.ex 0,⟨(jsV 48 0 (λ_=>.und) [(0,.sl 1 n (λk=>iV (l k))),(1,.fn 85 [.pp (.agg [Az n f])]),(2,iV q),(6,iV 0),(7,bV false),(8,.ref 0)]),[.imap 76 t g]⟩)
noncomputable def Ja (L:LT):St->T (Ex × St):=λst=>AC tab ⟨Am Lo,L,Gl⟩ (Au Try.f86 0) 0 st
section
variable (L:LT) (n:Nat) (f:Nat->E6) (l:Nat->Int) (q:Int) (t:Nat) (g:Int->Int) (i:Nat)  (j:Nat->V)
include L n f l q t g i j
theorem Ahk (h0:ilt (ofNat i) (ofNat n) = false):Ah (Ja L) (Mr n f l q) (Ps n f l q t g i j) = some ((.ex 0),⟨(jsV 48 0 (λ_=>.und) [(0,(.sl 1 n (λk=>(iV (l k))))),(1,(.fn 85 [(.pp (.agg [(.sl 6 n (λi=>(eV (f i))))]))])),(2,(iV q)),(6,(iV 0)),(7,(bV false)),(8,(.ref 0))]),[(.imap 76 t g)]⟩):=by
 exact Aa (ks:=[kn h0]) (by kernel_rfl)
theorem Ahj (h0:ilt (ofNat i) (ofNat n) = true) (h1:Ak (ile 0 (ofNat i)) (ilt (ofNat i) (ofNat n)) = true) (h2:isW (f i) = false):Ah (Ja L) (Mr n f l q) (Ps n f l q t g i j) = some (.nm,⟨(jsV 48 0 (λ_=>.und) [(0,(.sl 1 n (λk=>(iV (l k))))),(1,(.fn 85 [(.pp (.agg [(.sl 6 n (λi=>(eV (f i))))]))])),(2,(iV q)),(6,(iV 0)),(7,(bV false)),(8,(.ref 0)),(14,(.sl 1 n (λk=>(iV (l k))))),(15,(nV n)),(16,(iV (wr .i64 (Af (ofNat i) 1))))]),[(.imap 76 t g)]⟩):=by
 exact Aa (ks:=[kn h0,kn h1,kL n,kn h1,kn h2]) (by kernel_rfl)
theorem Ahi (h0:ilt (ofNat i) (ofNat n) = true) (h1:Ak (ile 0 (ofNat i)) (ilt (ofNat i) (ofNat n)) = true) (h2:isW (f i) = true) (h4:Fh (l i) = true) (h3:nlt t 4611686018427387904 = true) (h5:Fh (wr .i64 (Af (g (l i)) 1)) = true):Ah (Ja L) (Mr n f l q) (Ps n f l q t g i j) = some (.nm,⟨(jsV 48 0 (λ_=>.und) [(0,(.sl 1 n (λk=>(iV (l k))))),(1,(.fn 85 [(.pp (.agg [(.sl 6 n (λi=>(eV (f i))))]))])),(2,(iV q)),(6,(iV 0)),(7,(bV false)),(8,(.ref 0)),(14,(.sl 1 n (λk=>(iV (l k))))),(15,(nV n)),(16,(iV (wr .i64 (Af (ofNat i) 1))))]),[(.imap 76 (AQ t 1) (λz=>(sel (ieq z (l i)) (wr .i64 (Af (g (l i)) 1)) (g z))))]⟩):=by
 exact Aa (ks:=[kn h0,kn h1,kL n,kn h1,kn h2,kn h4,kn h3,kn h4,kn h5]) (by kernel_rfl)
end
def Ae4 (_:Nat) (_:Nat->E6) (_:Nat->Int) (_:Int) :Nat->V:=lkV A9 [(13,(.ref 0))]
def Fe (n:Nat) (_:Nat->E6) (_:Nat->Int) (_:Int):Lp:=⟨(bmK 48 0 [1,2,6,7,8,29,30,31]),1,bmK 48 0 [6,7],0,n+1⟩
def GY (n:Nat) (f:Nat->E6) (l:Nat->Int) (q:Int) (t:Nat) (g:Int->Int) (i:Nat) (j:Nat->V):St:=⟨(jsV 48 0 j [(1,.fn 85 [.pp (.agg [Az n f])]),(2,iV q),(6,iV 0),(7,bV false),(8,.ref 0),(29,.sl 1 n (λk=>iV (l k))),(30,nV n),(31,nV i)]),[.imap 76 t g]⟩
def KD (_:Nat) (_:Nat->E6) (_:Nat->Int) (_:Int) (_:Nat) (_:Int->Int) (_:Nat):Ex × St:=(.ex 2,⟨(jsV 48 0 (λ_=>.und) [(6,iV 0),(7,bV false)]),[]⟩)
def KC (_:Nat) (_:Nat->E6) (_:Nat->Int) (_:Int) (_:Nat) (_:Int->Int) (i:Nat):Ex × St:=(.rt,⟨(jsV 48 0 (λ_=>.und) [(6,nV i),(7,bV true)]),[]⟩)
noncomputable def Em (L:LT):St->T (Ex × St):=λst=>AC tab ⟨Am Lo,L,Gl⟩ (Au Try.f86 2) 2 st
section
variable (L:LT) (n:Nat) (f:Nat->E6) (l:Nat->Int) (q:Int) (t:Nat) (g:Int->Int) (i:Nat)  (j:Nat->V)
include L n f l q t g i j
theorem AgK (h0:ilt (ofNat i) (ofNat n) = false):Ah (Em L) (Fe n f l q) (GY n f l q t g i j) = some ((.ex 2),⟨(jsV 48 0 (λ_=>.und) [(6,(iV 0)),(7,(bV false))]),[]⟩):=by
 exact Aa (ks:=[kn h0]) (by kernel_rfl)
theorem AgN (h0:ilt (ofNat i) (ofNat n) = true) (h1:Ak (ile 0 (ofNat i)) (ilt (ofNat i) (ofNat n)) = true) (h2:isW (f i) = false):Ah (Em L) (Fe n f l q) (GY n f l q t g i j) = some (.nm,⟨(jsV 48 0 (λ_=>.und) [(1,(.fn 85 [(.pp (.agg [(.sl 6 n (λi=>(eV (f i))))]))])),(2,(iV q)),(6,(iV 0)),(7,(bV false)),(8,(.ref 0)),(29,(.sl 1 n (λk=>(iV (l k))))),(30,(nV n)),(31,(iV (wr .i64 (Af (ofNat i) 1))))]),[(.imap 76 t g)]⟩):=by
 exact Aa (ks:=[kn h0,kn h1,kL n,kn h1,kn h2,kn h2,kn h2,kn h2,kn h2,kn h2,kF]) (by kernel_rfl)
theorem AgM (h0:ilt (ofNat i) (ofNat n) = true) (h1:Ak (ile 0 (ofNat i)) (ilt (ofNat i) (ofNat n)) = true) (h2:isW (f i) = true) (h3:Fh (l i) = true) (h4:ilt q (g (l i)) = false):Ah (Em L) (Fe n f l q) (GY n f l q t g i j) = some (.nm,⟨(jsV 48 0 (λ_=>.und) [(1,(.fn 85 [(.pp (.agg [(.sl 6 n (λi=>(eV (f i))))]))])),(2,(iV q)),(6,(iV 0)),(7,(bV false)),(8,(.ref 0)),(29,(.sl 1 n (λk=>(iV (l k))))),(30,(nV n)),(31,(iV (wr .i64 (Af (ofNat i) 1))))]),[(.imap 76 t g)]⟩):=by
 exact Aa (ks:=[kn h0,kn h1,kL n,kn h1,kn h2,kn h2,kn h2,kn h3,kn h2,kn h2,kn h2,kn h4]) (by kernel_rfl)
theorem AgL (h0:ilt (ofNat i) (ofNat n) = true) (h1:Ak (ile 0 (ofNat i)) (ilt (ofNat i) (ofNat n)) = true) (h2:isW (f i) = true) (h3:Fh (l i) = true) (h4:ilt q (g (l i)) = true):Ah (Em L) (Fe n f l q) (GY n f l q t g i j) = some (.rt,⟨(jsV 48 0 (λ_=>.und) [(6,(nV i)),(7,(bV true))]),[]⟩):=by
 exact Aa (ks:=[kn h0,kn h1,kL n,kn h1,kn h2,kn h2,kn h2,kn h3,kn h2,kn h2,kn h2,kn h4]) (by kernel_rfl)
end
def Wz (n:Nat) (_:Nat->E6) (l:Nat->Int) (_:Int) (_:Nat) (_:Int->Int) (_:Nat):Nat->V:=lkV A9 [(0,(.sl 1 n (λk=>iV (l k)))),(3,.und),(4,.und),(5,.und),(9,.und),(10,.und),(11,.und),(12,.und),(13,.und),(14,.und),(15,.und),(16,.und),(17,.und),(18,.und),(19,.und),(20,.und),(21,.und),(22,.und),(23,.und),(24,.und),(25,.und),(26,.und),(27,.und),(28,.und),(32,.und),(33,.und),(34,.und),(35,.und),(36,.und),(37,.und),(38,.und),(39,.und),(40,.und),(41,.und),(42,.und),(43,.und),(44,.und),(45,.und),(46,.und),(47,.und)]
section
variable (L:LT) (p0:PT) (p2:PT) (n:Nat) (f:Nat->E6) (l:Nat->Int) (q:Int) (t:Nat) (g:Int->Int) (i m:Nat)
include L p0 p2 n f l q t g i m
theorem AeQ  (hp0:p0 (Ja (onP 0 p0 (J9 n f l q t g i) (onP 2 p2 (KD n f l q t g m) L))) (Ps n f l q 0 (λ_=>0) 0 (Ae4 n f l q )) = true) (hp2:p2 (Em (onP 0 p0 (J9 n f l q t g i) (onP 2 p2 (KD n f l q t g m) L))) (GY n f l q t g 0 (Wz n f l q t g i)) = true):(Ar (Ai tab ⟨Am Lo,(onP 0 p0 (J9 n f l q t g i) (onP 2 p2 (KD n f l q t g m) L)),Gl⟩ Try.f86 [Cf n l,.fn 85 [.pp (.agg [Az n f])],iV q] [])).sem = some ((.tup [(iV 0),(bV false)]),[]):=by
 exact Aa (ks:=[kn hp0,kn hp2]) (by kernel_rfl)
theorem AeP  (hp0:p0 (Ja (onP 0 p0 (J9 n f l q t g i) (onP 2 p2 (KC n f l q t g m) L))) (Ps n f l q 0 (λ_=>0) 0 (Ae4 n f l q )) = true) (hp2:p2 (Em (onP 0 p0 (J9 n f l q t g i) (onP 2 p2 (KC n f l q t g m) L))) (GY n f l q t g 0 (Wz n f l q t g i)) = true):(Ar (Ai tab ⟨Am Lo,(onP 0 p0 (J9 n f l q t g i) (onP 2 p2 (KC n f l q t g m) L)),Gl⟩ Try.f86 [Cf n l,.fn 85 [.pp (.agg [Az n f])],iV q] [])).sem = some ((.tup [(nV m),(bV true)]),[]):=by
 exact Aa (ks:=[kn hp0,kn hp2]) (by kernel_rfl)
end
theorem U0 (L:LT) (n:Nat) (f:Nat->E6) (l:Nat->Int) (q:Int) (hn:n <= 4611686018427387904) (ho:okP n l = true):∀ (d i:Nat) (j:Nat->V) (p:Nat),n = i+d->d < p ->
  (A4 (Ja L) (Mr n f l q) p (Ps n f l q (Al (λi=>isW (f i)) i) (gK l (λi=>isW (f i)) i) i j)).sem = some (J9 n f l q (Al (λi=>isW (f i)) n) (gK l (λi=>isW (f i)) n) n)
 | 0,i,j,p+1,h,_=>by
  have:n = i:=by omega
  subst this
  exact Ab (Ahk L n f l q (Al (λi=>isW (f i)) n) (gK l (λi=>isW (f i)) n) n j (A6 (Nat.le_refl _)))
 | d+1,i,j,p+1,h,h2=>by
  have hl:i < n:=by omega
  have hc:=Be (λi=>isW (f i)) i
  have hc2:=Be (Cz l (λi=>isW (f i)) (l i)) i
  have ht:nlt (Al (λi=>isW (f i)) i) 4611686018427387904 = true:=by simp only [nlt,decide_eq_true_eq]; omega
  have hf:Fh (wr .i64 (Af (gK l (λi=>isW (f i)) i (l i)) 1)) = true:=by
   show Fh (wr .i64 (Af (ofNat (Al (Cz l (λi=>isW (f i)) (l i)) i)) 1)) = true
   rw [Ao (show Al (Cz l (λi=>isW (f i)) (l i)) i < n by omega) hn]
   exact Rr (by omega)
  cases cw:isW (f i) with
  | false =>
   rw [Ab (Ahj L n f l q (Al (λi=>isW (f i)) i) (gK l (λi=>isW (f i)) i) i j (ofNat_lt hl) (Ap hl) cw),Aq,Ao hl hn,<- Al8 (l:=l) (c:=(λi=>isW (f i))) cw,<- By (p:=(λi=>isW (f i))) cw]
   exact U0 L n f l q hn ho d (i+1) (λ_=>.und) p (by omega) (by omega)
  | true =>
   rw [Ab (Ahi L n f l q (Al (λi=>isW (f i)) i) (gK l (λi=>isW (f i)) i) i j (ofNat_lt hl) (Ap hl) cw (A3.1 ho i hl) ht hf),Aq,Ao hl hn,Aau (l:=l) (c:=(λi=>isW (f i))) (i:=i) cw hl hn,show AQ (Al (λi=>isW (f i)) i) 1 = Al (λi=>isW (f i)) (i+1) from (Bl (p:=(λi=>isW (f i))) cw).symm]
   exact U0 L n f l q hn ho d (i+1) (λ_=>.und) p (by omega) (by omega)
theorem QA (L:LT) (n:Nat) (f:Nat->E6) (l:Nat->Int) (q:Int) (t:Nat) (hn:n <= 4611686018427387904) (ho:okP n l = true):∀ (d i:Nat) (j:Nat->V) (p:Nat),n = i+d->d < p ->
  (A4 (Em L) (Fe n f l q) p (GY n f l q t (gK l (λi=>isW (f i)) n) i j)).sem = some (match Bd (AJ n l (λi=>isW (f i)) q) d i with
   | none=>KD n f l q t (gK l (λi=>isW (f i)) n) 0
   | some m=>KC n f l q t (gK l (λi=>isW (f i)) n) m)
 | 0,i,j,p+1,h,_=>by
  have:n = i:=by omega
  subst this
  exact Ab (AgK L n f l q t (gK l (λi=>isW (f i)) n) n j (A6 (Nat.le_refl _)))
 | d+1,i,j,p+1,h,h2=>by
  have hl:i < n:=by omega
  cases cw:isW (f i) with
  | false =>
   rw [B1 (show AJ n l (λi=>isW (f i)) q i = false by unfold AJ; rw [show (λi=>isW (f i)) i = false from cw]; rfl),Ab (AgN L n f l q t (gK l (λi=>isW (f i)) n) i j (ofNat_lt hl) (Ap hl) cw),Aq,Ao hl hn]
   exact QA L n f l q t hn ho d (i+1) (λ_=>.und) p (by omega) (by omega)
  | true =>
   cases cg:ilt q (gK l (λi=>isW (f i)) n (l i)) with
   | false =>
    rw [B1 (show AJ n l (λi=>isW (f i)) q i = false by unfold AJ; rw [show ilt q (Gr n l (λi=>isW (f i)) (l i)) = false from cg]; cases (λi=>isW (f i)) i <;> rfl),Ab (AgM L n f l q t (gK l (λi=>isW (f i)) n) i j (ofNat_lt hl) (Ap hl) cw (A3.1 ho i hl) cg),Aq,Ao hl hn]
    exact QA L n f l q t hn ho d (i+1) (λ_=>.und) p (by omega) (by omega)
   | true =>
    rw [BV (show AJ n l (λi=>isW (f i)) q i = true by unfold AJ; rw [show ilt q (Gr n l (λi=>isW (f i)) (l i)) = true from cg,show (λi=>isW (f i)) i = true from cw]; rfl)]
    exact Ab (AgL L n f l q t (gK l (λi=>isW (f i)) n) i j (ofNat_lt hl) (Ap hl) cw (A3.1 ho i hl) cg)
theorem AbB (n:Nat) (f:Nat->E6) (l:Nat->Int) (q:Int) (hn:n <= 4611686018427387904) (ho:okP n l = true) :
  (Ar (Ai tab (AI Gl Lo [(0,Mr n f l q),(2,Fe n f l q)]) Try.f86 [Cf n l,.fn 85 [.pp (.agg [Az n f])],iV q] [])).sem = some (.tup [iV (crR n l (λi=>isW (f i)) q).1,bV (crR n l (λi=>isW (f i)) q).2],[]):=by
 have hL:=AE [(0,Mr n f l q),(2,Fe n f l q)]
 have h0:=λL j=>U0 L n f l q hn ho n 0 j (n+1) (by omega) (by omega)
 have h2:=λL j=>QA L n f l q (Al (λi=>isW (f i)) n) hn ho n 0 j (n+1) (by omega) (by omega)
 rw [Al9] at h0
 unfold crR
 cases c1:Bd (AJ n l (λi=>isW (f i)) q) n 0 with
 | some m =>
  rw [c1] at h2
  exact A2 (As (As hL hL) hL) _ (AeP _ _ _ n f l q (Al (λi=>isW (f i)) n) (gK l (λi=>isW (f i)) n) n m (Aj (h0 _ _)) (Aj (h2 _ _)))
 | none =>
  rw [c1] at h2
  exact A2 (As (As hL hL) hL) _ (AeQ _ _ _ n f l q (Al (λi=>isW (f i)) n) (gK l (λi=>isW (f i)) n) n 0 (Aj (h0 _ _)) (Aj (h2 _ _)))
def NW (n:Nat) (_:Nat->Int) (_:Int):Lp:=⟨(bmK 48 0 [0,1,2,6,7,8,14,15,16]),1,bmK 48 0 [0,1,2,6,7,8],1,n+1⟩
def Sd (n:Nat) (l:Nat->Int) (q:Int) (t:Nat) (g:Int->Int) (i:Nat) (j:Nat->V):St:=⟨(jsV 48 0 j [(0,.sl 1 n (λk=>iV (l k))),(1,.fn 88 []),(2,iV q),(6,iV 0),(7,bV false),(8,.ref 0),(14,.sl 1 n (λk=>iV (l k))),(15,nV n),(16,nV i)]),[.imap 76 t g]⟩
def JA (n:Nat) (l:Nat->Int) (q:Int) (t:Nat) (g:Int->Int) (_:Nat):Ex × St:=(.ex 0,⟨(jsV 48 0 (λ_=>.und) [(0,.sl 1 n (λk=>iV (l k))),(1,.fn 88 []),(2,iV q),(6,iV 0),(7,bV false),(8,.ref 0)]),[.imap 76 t g]⟩)
noncomputable def KT (L:LT):St->T (Ex × St):=λst=>AC tab ⟨Am Lo,L,Gl⟩ (Au Try.f86 0) 0 st
section
variable (L:LT) (n:Nat) (l:Nat->Int) (q:Int) (t:Nat) (g:Int->Int) (i:Nat)  (j:Nat->V)
include L n l q t g i j
theorem Ahm (h0:ilt (ofNat i) (ofNat n) = false):Ah (KT L) (NW n l q) (Sd n l q t g i j) = some ((.ex 0),⟨(jsV 48 0 (λ_=>.und) [(0,(.sl 1 n (λk=>(iV (l k))))),(1,(.fn 88 [])),(2,(iV q)),(6,(iV 0)),(7,(bV false)),(8,(.ref 0))]),[(.imap 76 t g)]⟩):=by
 exact Aa (ks:=[kn h0]) (by kernel_rfl)
theorem Ahl (h0:ilt (ofNat i) (ofNat n) = true) (h1:Ak (ile 0 (ofNat i)) (ilt (ofNat i) (ofNat n)) = true) (h3:Fh (l i) = true) (h2:nlt t 4611686018427387904 = true) (h4:Fh (wr .i64 (Af (g (l i)) 1)) = true):Ah (KT L) (NW n l q) (Sd n l q t g i j) = some (.nm,⟨(jsV 48 0 (λ_=>.und) [(0,(.sl 1 n (λk=>(iV (l k))))),(1,(.fn 88 [])),(2,(iV q)),(6,(iV 0)),(7,(bV false)),(8,(.ref 0)),(14,(.sl 1 n (λk=>(iV (l k))))),(15,(nV n)),(16,(iV (wr .i64 (Af (ofNat i) 1))))]),[(.imap 76 (AQ t 1) (λz=>(sel (ieq z (l i)) (wr .i64 (Af (g (l i)) 1)) (g z))))]⟩):=by
 exact Aa (ks:=[kn h0,kn h1,kT,kn h3,kn h2,kn h3,kn h4]) (by kernel_rfl)
end
def Ae5 (_:Nat) (_:Nat->Int) (_:Int) :Nat->V:=lkV A9 [(13,(.ref 0))]
def FW (n:Nat) (_:Nat->Int) (_:Int):Lp:=⟨(bmK 48 0 [1,2,6,7,8,29,30,31]),1,bmK 48 0 [6,7],0,n+1⟩
def Iz (n:Nat) (l:Nat->Int) (q:Int) (t:Nat) (g:Int->Int) (i:Nat) (j:Nat->V):St:=⟨(jsV 48 0 j [(1,.fn 88 []),(2,iV q),(6,iV 0),(7,bV false),(8,.ref 0),(29,.sl 1 n (λk=>iV (l k))),(30,nV n),(31,nV i)]),[.imap 76 t g]⟩
def KF (_:Nat) (_:Nat->Int) (_:Int) (_:Nat) (_:Int->Int) (_:Nat):Ex × St:=(.ex 2,⟨(jsV 48 0 (λ_=>.und) [(6,iV 0),(7,bV false)]),[]⟩)
def KE (_:Nat) (_:Nat->Int) (_:Int) (_:Nat) (_:Int->Int) (i:Nat):Ex × St:=(.rt,⟨(jsV 48 0 (λ_=>.und) [(6,nV i),(7,bV true)]),[]⟩)
noncomputable def Fp (L:LT):St->T (Ex × St):=λst=>AC tab ⟨Am Lo,L,Gl⟩ (Au Try.f86 2) 2 st
section
variable (L:LT) (n:Nat) (l:Nat->Int) (q:Int) (t:Nat) (g:Int->Int) (i:Nat)  (j:Nat->V)
include L n l q t g i j
theorem AgO (h0:ilt (ofNat i) (ofNat n) = false):Ah (Fp L) (FW n l q) (Iz n l q t g i j) = some ((.ex 2),⟨(jsV 48 0 (λ_=>.und) [(6,(iV 0)),(7,(bV false))]),[]⟩):=by
 exact Aa (ks:=[kn h0]) (by kernel_rfl)
theorem AgQ (h0:ilt (ofNat i) (ofNat n) = true) (h1:Ak (ile 0 (ofNat i)) (ilt (ofNat i) (ofNat n)) = true) (h2:Fh (l i) = true) (h3:ilt q (g (l i)) = false):Ah (Fp L) (FW n l q) (Iz n l q t g i j) = some (.nm,⟨(jsV 48 0 (λ_=>.und) [(1,(.fn 88 [])),(2,(iV q)),(6,(iV 0)),(7,(bV false)),(8,(.ref 0)),(29,(.sl 1 n (λk=>(iV (l k))))),(30,(nV n)),(31,(iV (wr .i64 (Af (ofNat i) 1))))]),[(.imap 76 t g)]⟩):=by
 exact Aa (ks:=[kn h0,kn h1,kT,kT,kT,kn h2,kT,kT,kT,kn h3]) (by kernel_rfl)
theorem AgP (h0:ilt (ofNat i) (ofNat n) = true) (h1:Ak (ile 0 (ofNat i)) (ilt (ofNat i) (ofNat n)) = true) (h2:Fh (l i) = true) (h3:ilt q (g (l i)) = true):Ah (Fp L) (FW n l q) (Iz n l q t g i j) = some (.rt,⟨(jsV 48 0 (λ_=>.und) [(6,(nV i)),(7,(bV true))]),[]⟩):=by
 exact Aa (ks:=[kn h0,kn h1,kT,kT,kT,kn h2,kT,kT,kT,kn h3]) (by kernel_rfl)
end
def W1 (n:Nat) (l:Nat->Int) (_:Int) (_:Nat) (_:Int->Int) (_:Nat):Nat->V:=lkV A9 [(0,(.sl 1 n (λk=>iV (l k)))),(3,.und),(4,.und),(5,.und),(9,.und),(10,.und),(11,.und),(12,.und),(13,.und),(14,.und),(15,.und),(16,.und),(17,.und),(18,.und),(19,.und),(20,.und),(21,.und),(22,.und),(23,.und),(24,.und),(25,.und),(26,.und),(27,.und),(28,.und),(32,.und),(33,.und),(34,.und),(35,.und),(36,.und),(37,.und),(38,.und),(39,.und),(40,.und),(41,.und),(42,.und),(43,.und),(44,.und),(45,.und),(46,.und),(47,.und)]
section
variable (L:LT) (p0:PT) (p2:PT) (n:Nat) (l:Nat->Int) (q:Int) (t:Nat) (g:Int->Int) (i m:Nat)
include L p0 p2 n l q t g i m
theorem AeS  (hp0:p0 (KT (onP 0 p0 (JA n l q t g i) (onP 2 p2 (KF n l q t g m) L))) (Sd n l q 0 (λ_=>0) 0 (Ae5 n l q )) = true) (hp2:p2 (Fp (onP 0 p0 (JA n l q t g i) (onP 2 p2 (KF n l q t g m) L))) (Iz n l q t g 0 (W1 n l q t g i)) = true):(Ar (Ai tab ⟨Am Lo,(onP 0 p0 (JA n l q t g i) (onP 2 p2 (KF n l q t g m) L)),Gl⟩ Try.f86 [Cf n l,.fn 88 [],iV q] [])).sem = some ((.tup [(iV 0),(bV false)]),[]):=by
 exact Aa (ks:=[kn hp0,kn hp2]) (by kernel_rfl)
theorem AeR  (hp0:p0 (KT (onP 0 p0 (JA n l q t g i) (onP 2 p2 (KE n l q t g m) L))) (Sd n l q 0 (λ_=>0) 0 (Ae5 n l q )) = true) (hp2:p2 (Fp (onP 0 p0 (JA n l q t g i) (onP 2 p2 (KE n l q t g m) L))) (Iz n l q t g 0 (W1 n l q t g i)) = true):(Ar (Ai tab ⟨Am Lo,(onP 0 p0 (JA n l q t g i) (onP 2 p2 (KE n l q t g m) L)),Gl⟩ Try.f86 [Cf n l,.fn 88 [],iV q] [])).sem = some ((.tup [(nV m),(bV true)]),[]):=by
 exact Aa (ks:=[kn hp0,kn hp2]) (by kernel_rfl)
end
theorem Zd (L:LT) (n:Nat) (l:Nat->Int) (q:Int) (hn:n <= 4611686018427387904) (ho:okP n l = true):∀ (d i:Nat) (j:Nat->V) (p:Nat),n = i+d->d < p ->
  (A4 (KT L) (NW n l q) p (Sd n l q (Al (λ_=>true) i) (gK l (λ_=>true) i) i j)).sem = some (JA n l q (Al (λ_=>true) n) (gK l (λ_=>true) n) n)
 | 0,i,j,p+1,h,_=>by
  have:n = i:=by omega
  subst this
  exact Ab (Ahm L n l q (Al (λ_=>true) n) (gK l (λ_=>true) n) n j (A6 (Nat.le_refl _)))
 | d+1,i,j,p+1,h,h2=>by
  have hl:i < n:=by omega
  have hc:=Be (λ_=>true) i
  have hc2:=Be (Cz l (λ_=>true) (l i)) i
  have ht:nlt (Al (λ_=>true) i) 4611686018427387904 = true:=by simp only [nlt,decide_eq_true_eq]; omega
  have hf:Fh (wr .i64 (Af (gK l (λ_=>true) i (l i)) 1)) = true:=by
   show Fh (wr .i64 (Af (ofNat (Al (Cz l (λ_=>true) (l i)) i)) 1)) = true
   rw [Ao (show Al (Cz l (λ_=>true) (l i)) i < n by omega) hn]
   exact Rr (by omega)
  rw [Ab (Ahl L n l q (Al (λ_=>true) i) (gK l (λ_=>true) i) i j (ofNat_lt hl) (Ap hl) (A3.1 ho i hl) ht hf),Aq,Ao hl hn,Aau (l:=l) (c:=(λ_=>true)) (i:=i) rfl hl hn,show AQ (Al (λ_=>true) i) 1 = Al (λ_=>true) (i+1) from (Bl (p:=(λ_=>true)) rfl).symm]
  exact Zd L n l q hn ho d (i+1) (λ_=>.und) p (by omega) (by omega)
theorem VS (L:LT) (n:Nat) (l:Nat->Int) (q:Int) (t:Nat) (hn:n <= 4611686018427387904) (ho:okP n l = true):∀ (d i:Nat) (j:Nat->V) (p:Nat),n = i+d->d < p ->
  (A4 (Fp L) (FW n l q) p (Iz n l q t (gK l (λ_=>true) n) i j)).sem = some (match Bd (AJ n l (λ_=>true) q) d i with
   | none=>KF n l q t (gK l (λ_=>true) n) 0
   | some m=>KE n l q t (gK l (λ_=>true) n) m)
 | 0,i,j,p+1,h,_=>by
  have:n = i:=by omega
  subst this
  exact Ab (AgO L n l q t (gK l (λ_=>true) n) n j (A6 (Nat.le_refl _)))
 | d+1,i,j,p+1,h,h2=>by
  have hl:i < n:=by omega
  cases cg:ilt q (gK l (λ_=>true) n (l i)) with
  | false =>
   rw [B1 (show AJ n l (λ_=>true) q i = false by unfold AJ; rw [show ilt q (Gr n l (λ_=>true) (l i)) = false from cg]; cases (λ_=>true) i <;> rfl),Ab (AgQ L n l q t (gK l (λ_=>true) n) i j (ofNat_lt hl) (Ap hl) (A3.1 ho i hl) cg),Aq,Ao hl hn]
   exact VS L n l q t hn ho d (i+1) (λ_=>.und) p (by omega) (by omega)
  | true =>
   rw [BV (show AJ n l (λ_=>true) q i = true by unfold AJ; rw [show ilt q (Gr n l (λ_=>true) (l i)) = true from cg,show (λ_=>true) i = true from rfl]; rfl)]
   exact Ab (AgP L n l q t (gK l (λ_=>true) n) i j (ofNat_lt hl) (Ap hl) (A3.1 ho i hl) cg)
theorem AbC (n:Nat) (l:Nat->Int) (q:Int) (hn:n <= 4611686018427387904) (ho:okP n l = true) :
  (Ar (Ai tab (AI Gl Lo [(0,NW n l q),(2,FW n l q)]) Try.f86 [Cf n l,.fn 88 [],iV q] [])).sem = some (.tup [iV (crR n l (λ_=>true) q).1,bV (crR n l (λ_=>true) q).2],[]):=by
 have hL:=AE [(0,NW n l q),(2,FW n l q)]
 have h0:=λL j=>Zd L n l q hn ho n 0 j (n+1) (by omega) (by omega)
 have h2:=λL j=>VS L n l q (Al (λ_=>true) n) hn ho n 0 j (n+1) (by omega) (by omega)
 rw [Al9] at h0
 unfold crR
 cases c1:Bd (AJ n l (λ_=>true) q) n 0 with
 | some m =>
  rw [c1] at h2
  exact A2 (As (As hL hL) hL) _ (AeR _ _ _ n l q (Al (λ_=>true) n) (gK l (λ_=>true) n) n m (Aj (h0 _ _)) (Aj (h2 _ _)))
 | none =>
  rw [c1] at h2
  exact A2 (As (As hL hL) hL) _ (AeS _ _ _ n l q (Al (λ_=>true) n) (gK l (λ_=>true) n) n 0 (Aj (h0 _ _)) (Aj (h2 _ _)))
def V0:List V->T (V × List Blk)
 | [u,.fn 85 [.pp (.agg [v])],.val (.int .i64 q)]=>apI u λm l=>apL v λn f=>.br (AD n m) (.br (Ag n) (.br (okP m l) (out (.tup [iV (crR m l (λi=>isW (f i)) q).1,bV (crR m l (λi=>isW (f i)) q).2])) .fail) .fail) .fail
 | [u,.fn 88 [],.val (.int .i64 q)]=>apI u λm l=>.br (Ag m) (.br (okP m l) (out (.tup [iV (crR m l (λ_=>true) q).1,bV (crR m l (λ_=>true) q).2])) .fail) .fail
 | _=>.fail
theorem p91:A7 Try.prog Gl 86 V0:=by
 refine Av AL AN Try.func86 (by kernel_rfl) (by kernel_rfl) λvs v h' h=>?_
 unfold V0 at h
 split at h
 ·rename_i u1 v1 q
  obtain ⟨m,l,ha,h1⟩:=ED h
  obtain ⟨n,f,hb,h2⟩:=Ci h1
  obtain ⟨hm,h3⟩:=Ad h2
  obtain ⟨hn,h4⟩:=Ad h3
  obtain ⟨ho,hq⟩:=Ad h4
  have hm:n = m:=Nat.eq_of_beq_eq_true hm
  subst hm
  have:=Ac hq
  simp only [Prod.mk.injEq] at this
  obtain ⟨rfl,rfl⟩:=this
  have hn:n <= 4611686018427387904:=of_decide_eq_true hn
  have hA:Bp [u1,.fn 85 [.pp (.agg [v1])],.val (.int .i64 q)] [Cf n l,.fn 85 [.pp (.agg [Az n f])],iV q]:=λS w cs hv=>by
   obtain ⟨c,l1,rfl,q1,c2,l2,rfl,⟨ca,q4,c5,l5,q5,q6,q7⟩,q3⟩:=hv
   exact ⟨c,_,rfl,ha S w c q1,c2,l2,rfl,⟨ca,q4,c5,l5,q5,Aeo hb S w noK c5 q6,q7⟩,q3⟩
  have hx:=AO VI [(0,Mr n f l q),(2,Fe n f l q)]
  exact ⟨_,AI Gl Lo [(0,Mr n f l q),(2,Fe n f l q)],_,hA,rfl,hx.1,hx.2,AbB n f l q hn ho,A8.refl _⟩
 ·rename_i u1 q
  obtain ⟨n,l,ha,h1⟩:=ED h
  obtain ⟨hn,h4⟩:=Ad h1
  obtain ⟨ho,hq⟩:=Ad h4
  have:=Ac hq
  simp only [Prod.mk.injEq] at this
  obtain ⟨rfl,rfl⟩:=this
  have hn:n <= 4611686018427387904:=of_decide_eq_true hn
  have hA:Bp [u1,.fn 88 [],.val (.int .i64 q)] [Cf n l,.fn 88 [],iV q]:=λS w cs hv=>by
   obtain ⟨c,l1,rfl,q1,q3⟩:=hv
   exact ⟨c,_,rfl,ha S w c q1,q3⟩
  have hx:=AO VI [(0,NW n l q),(2,FW n l q)]
  exact ⟨_,AI Gl Lo [(0,NW n l q),(2,FW n l q)],_,hA,rfl,hx.1,hx.2,AbC n l q hn ho,A8.refl _⟩
 ·cases h
end Go.Proofs.Ytjhnfomefcngfaa.Ed
