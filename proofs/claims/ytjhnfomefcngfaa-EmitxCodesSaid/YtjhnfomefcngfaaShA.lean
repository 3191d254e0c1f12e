/-
  The document's parts, threads, locations: the part of each edge. No conditions.
-/
import Derived.Test.YtjhnfomefcngfaaCyO
namespace Go.Proofs.Ytjhnfomefcngfaa.Ed
open Go.Sy
open Int (ofNat)
def PK (n:Nat) (p:Nat->Bool):Lp:=⟨(bmK 57 0 [0,3,4,5]),2,bmK 57 0 [0,3,4],2,n+1⟩
def Sk (n:Nat) (p:Nat->Bool) (s:Int) (i:Nat) (h:Nat->Int) (j:Nat->V):St:=⟨(jsV 57 0 j [(0,.sl 1 n (λk=>bV (p k))),(3,.ref 1),(4,iV s),(5,nV i)]),[.row 3 1 0 (λ_=>.und),.row 3 1 i (λk=>iV (h k))]⟩
def FB (n:Nat) (p:Nat->Bool) (s:Int) (i:Nat) (h:Nat->Int):Ex × St:=(.ex 0,⟨(jsV 57 0 (λ_=>.und) [(0,.sl 1 n (λk=>bV (p k))),(3,.ref 1),(4,iV s)]),[.row 3 1 0 (λ_=>.und),.row 3 1 i (λk=>iV (h k))]⟩)
noncomputable def Ez (L:LT):St->T (Ex × St):=λst=>AC tab ⟨Am tb0,L,Gl⟩ (Au Try.f101 0) 0 st
section
variable (L:LT) (n:Nat) (p:Nat->Bool) (s:Int) (i:Nat) (h:Nat->Int)  (j:Nat->V)
include L n p s i h j
theorem Ahy (h0:ilt (ofNat i) (ofNat n) = false):Ah (Ez L) (PK n p) (Sk n p s i h j) = some ((.ex 0),⟨(jsV 57 0 (λ_=>.und) [(0,(.sl 1 n (λk=>(bV (p k))))),(3,(.ref 1)),(4,(iV s))]),[r3Z,(.row 3 1 i (λk=>(iV (h k))))]⟩):=by
 exact Aa (ks:=[kn h0]) (by kernel_rfl)
theorem Ahw (h0:ilt (ofNat i) (ofNat n) = true) (h2:AY i 1 8 = true) (h1:Ak (ile 0 (ofNat i)) (ilt (ofNat i) (ofNat n)) = true) (h3:p i = true):Ah (Ez L) (PK n p) (Sk n p s i h j) = some (.nm,⟨(jsV 57 0 (λ_=>.und) [(0,(.sl 1 n (λk=>(bV (p k))))),(3,(.ref 1)),(4,(iV (wr .i64 (Af s 1)))),(5,(iV (wr .i64 (Af (ofNat i) 1))))]),[r3Z,(.row 3 1 (AQ i 1) (A1 i (λk=>(iV (h k))) (iV s)))]⟩):=by
 exact Aa (ks:=[kn h0,kn h2,kn h1,kn h3]) (by kernel_rfl)
theorem Ahx (h0:ilt (ofNat i) (ofNat n) = true) (h2:AY i 1 8 = true) (h1:Ak (ile 0 (ofNat i)) (ilt (ofNat i) (ofNat n)) = true) (h3:p i = false):Ah (Ez L) (PK n p) (Sk n p s i h j) = some (.nm,⟨(jsV 57 0 (λ_=>.und) [(0,(.sl 1 n (λk=>(bV (p k))))),(3,(.ref 1)),(4,(iV s)),(5,(iV (wr .i64 (Af (ofNat i) 1))))]),[r3Z,(.row 3 1 (AQ i 1) (A1 i (λk=>(iV (h k))) (iV s)))]⟩):=by
 exact Aa (ks:=[kn h0,kn h2,kn h1,kn h3]) (by kernel_rfl)
end
def If (n:Nat) (p:Nat->Bool) :St:=⟨(jsV 57 0 (λ_=>A9) [(0,(.sl 1 n (λk=>bV (p k)))),(2,(.ref 0)),(3,(.ref 1)),(4,(iV 0)),(5,(iV 0))]),[r3Z,r3Z]⟩
def Kt (n:Nat) (p:Nat->Bool):Lp:=⟨(bmK 57 0 [0,3,7]),2,bmK 57 0 [3],2,n+1⟩
def JZ (n:Nat) (p:Nat->Bool) (d:Int) (g:Nat->Int) (j:Nat->V):St:=⟨(jsV 57 0 j [(0,.sl 1 n (λk=>bV (p k))),(3,.ref 1),(7,iV d)]),[.row 3 1 0 (λ_=>.und),.row 3 1 n (λk=>iV (g k))]⟩
def KL (n:Nat) (p:Nat->Bool) (d:Int) (g:Nat->Int):Ex × St:=(.ex 2,⟨(jsV 57 0 (λ_=>.und) [(3,.ref 1)]),[.row 3 1 0 (λ_=>.und),.row 3 1 n (λk=>iV (g k))]⟩)
noncomputable def GR (L:LT):St->T (Ex × St):=λst=>AC tab ⟨Am tb0,L,Gl⟩ (Au Try.f101 2) 2 st
section
variable (L:LT) (n:Nat) (p:Nat->Bool) (d:Int) (g:Nat->Int)  (j:Nat->V)
include L n p d g j
theorem Ahb (h0:ile 0 d = false):Ah (GR L) (Kt n p) (JZ n p d g j) = some ((.ex 2),⟨(jsV 57 0 (λ_=>.und) [(3,(.ref 1))]),[r3Z,(.row 3 1 n (λk=>(iV (g k))))]⟩):=by
 exact Aa (ks:=[kn h0,kn h0,kn h0,kn h0,kn h0,kn h0,kF]) (by kernel_rfl)
theorem Aha (h0:ile 0 d = true) (h1:Ak (ile 0 d) (ilt d (ofNat n)) = true) (h3:p (toN d) = true):Ah (GR L) (Kt n p) (JZ n p d g j) = some ((.ex 2),⟨(jsV 57 0 (λ_=>.und) [(3,(.ref 1))]),[r3Z,(.row 3 1 n (λk=>(iV (g k))))]⟩):=by
 exact Aa (ks:=[kn h0,kn h0,kn h0,kn h1,kn h0,kn h0,kn h0,kN (kn h3)]) (by kernel_rfl)
theorem AgZ (h0:ile 0 d = true) (h1:Ak (ile 0 d) (ilt d (ofNat n)) = true) (h3:p (toN d) = false) (h2:nlt (toN d) n = true):Ah (GR L) (Kt n p) (JZ n p d g j) = some (.nm,⟨(jsV 57 0 (λ_=>.und) [(0,(.sl 1 n (λk=>(bV (p k))))),(3,(.ref 1)),(7,(iV (wr .i64 (AK d 1))))]),[r3Z,(.row 3 1 n (Bu (λk=>(iV (g k))) (toN d) (iV 0)))]⟩):=by
 exact Aa (ks:=[kn h0,kn h0,kn h0,kn h1,kn h0,kn h0,kn h0,kN (kn h3),kn h1,kn h2]) (by kernel_rfl)
end
def Adu (n:Nat) (p:Nat->Bool) (s:Int) (g:Nat->Int):Nat->V:=lkV A9 [(1,.und),(2,.und),(4,(iV s)),(5,.und),(6,(nV n)),(8,.und),(9,.und),(10,.und),(11,.und),(12,.und),(13,.und),(14,.und),(15,.und),(16,.und),(17,.und),(18,.und),(19,.und),(20,.und),(21,.und),(22,.und),(23,.und),(24,(.sl 1 n (λk=>bV (p k)))),(25,(nV n)),(26,(nV n)),(27,(bV (ilt 0 (ofNat n)))),(28,(bV (ilt 0 (ofNat n)))),(29,(iV s)),(30,(bV (ilt 0 s))),(31,(bV (ilt 0 s))),(32,(bV (ilt 0 s))),(33,(.sl 1 n (λk=>bV (p k)))),(34,(nV n)),(35,(iV (wr .i64 (AK (ofNat n) 1)))),(36,(.pp (bV (p (toN (wr .i64 (AK (ofNat n) 1))))))),(37,(bV (p (toN (wr .i64 (AK (ofNat n) 1)))))),(38,(bV (AG (p (toN (wr .i64 (AK (ofNat n) 1))))))),(39,(bV (AG (p (toN (wr .i64 (AK (ofNat n) 1))))))),(40,(nV n)),(41,(iV (wr .i64 (AK (ofNat n) 1)))),(42,.und),(43,.und),(44,.und),(45,.und),(46,.und),(47,.und),(48,.und),(49,.und),(50,.und),(51,.und),(52,.und),(53,.und),(54,.und),(55,.und),(56,.und)]
section
variable (L:LT) (p0:PT) (n:Nat) (p:Nat->Bool) (s:Int) (g:Nat->Int)
include L p0 n p s g
theorem Af8 (h0:ilt 0 (ofNat n) = false) (hp0:p0 (Ez (onP 0 p0 (FB n p s n g) L)) (If n p) = true):(Ar (Ai tab ⟨Am tb0,(onP 0 p0 (FB n p s n g) L),Gl⟩ Try.f101 [.sl 1 n (λk=>bV (p k))] [])).sem = some ((.ref 0),[(.row 3 1 n (λk=>(iV (g k))))]):=by
 exact Aa (ks:=[kn hp0,kn h0,kn h0,kn h0,kF,kF,kF,kF,kF,kF,kF,kF]) (by kernel_rfl)
theorem Af7 (h0:ilt 0 (ofNat n) = true) (h1:ilt 0 s = false) (hp0:p0 (Ez (onP 0 p0 (FB n p s n g) L)) (If n p) = true):(Ar (Ai tab ⟨Am tb0,(onP 0 p0 (FB n p s n g) L),Gl⟩ Try.f101 [.sl 1 n (λk=>bV (p k))] [])).sem = some ((.ref 0),[(.row 3 1 n (λk=>(iV (g k))))]):=by
 exact Aa (ks:=[kn hp0,kn h0,kn h0,kn h0,kn h1,kn h1,kn h1,kn h1,kn h1,kn h1,kn h1,kF]) (by kernel_rfl)
theorem Af6 (h0:ilt 0 (ofNat n) = true) (h1:ilt 0 s = true) (h2:Ak (ile 0 (wr .i64 (AK (ofNat n) 1))) (ilt (wr .i64 (AK (ofNat n) 1)) (ofNat n)) = true) (h3:p (toN (wr .i64 (AK (ofNat n) 1))) = true) (hp0:p0 (Ez (onP 0 p0 (FB n p s n g) L)) (If n p) = true):(Ar (Ai tab ⟨Am tb0,(onP 0 p0 (FB n p s n g) L),Gl⟩ Try.f101 [.sl 1 n (λk=>bV (p k))] [])).sem = some ((.ref 0),[(.row 3 1 n (λk=>(iV (g k))))]):=by
 exact Aa (ks:=[kn hp0,kn h0,kn h0,kn h0,kn h1,kn h1,kn h1,kn h1,kn h2,kn h1,kn h1,kn h1,kN (kn h3)]) (by kernel_rfl)
end
theorem Af5 (L:LT) (p0:PT) (p2:PT) (n:Nat) (p:Nat->Bool) (s:Int) (g:Nat->Int) (d:Int) (u:Nat->Int) (h0:ilt 0 (ofNat n) = true) (h1:ilt 0 s = true) (h2:Ak (ile 0 (wr .i64 (AK (ofNat n) 1))) (ilt (wr .i64 (AK (ofNat n) 1)) (ofNat n)) = true) (h3:p (toN (wr .i64 (AK (ofNat n) 1))) = false) (hp0:p0 (Ez (onP 0 p0 (FB n p s n g) (onP 2 p2 (KL n p d u) L))) (If n p) = true) (hp2:p2 (GR (onP 0 p0 (FB n p s n g) (onP 2 p2 (KL n p d u) L))) (JZ n p (wr .i64 (AK (ofNat n) 1)) g (Adu n p s g)) = true):(Ar (Ai tab ⟨Am tb0,(onP 0 p0 (FB n p s n g) (onP 2 p2 (KL n p d u) L)),Gl⟩ Try.f101 [.sl 1 n (λk=>bV (p k))] [])).sem = some ((.ref 0),[(.row 3 1 n (λk=>(iV (u k))))]):=by
 exact Aa (ks:=[kn hp0,kn h0,kn h0,kn h0,kn h1,kn h1,kn h1,kn h1,kn h2,kn h1,kn h1,kn h1,kN (kn h3),kn hp2]) (by kernel_rfl)
theorem S7 (p:Nat->Bool) (i:Nat):A1 i (λk=>iV (CI p i k)) (iV (ofNat (Al p i))) = λk=>iV (CI p (i+1) k):=by
 funext k
 rw [Bq,show Nat.beq k i = decide (k = i) by rw [Bool.eq_iff_iff]; simp]
 unfold CI
 by_cases h:k = i
 ·subst h; simp
 ·by_cases h2:k < i
  ·have:k < i+1:=by omega
   simp [h,h2,this]
  ·have:¬ k < i+1:=by omega
   simp [h,h2,this]
theorem Bl {p:Nat->Bool} {i:Nat} (h:p i = true):Al p (i+1) = Al p i+1:=by rw [Al,h]
theorem By {p:Nat->Bool} {i:Nat} (h:p i = false):Al p (i+1) = Al p i:=by rw [Al,h]
theorem U4 (L:LT) (n:Nat) (p:Nat->Bool) (h8:n * 8 <= 140737488355328):∀ (e i:Nat) (j:Nat->V) (q:Nat),n = i+e->e < q ->
  (A4 (Ez L) (PK n p) q (Sk n p (ofNat (Al p i)) i (CI p i) j)).sem = some (FB n p (ofNat (Al p n)) n (CI p n))
 | 0,i,j,q+1,h,_=>by
  have:n = i:=by omega
  subst this
  exact Ab (Ahy L n p _ _ _ j (A6 (Nat.le_refl _)))
 | e+1,i,j,q+1,h,h2=>by
  have hc:=Be p i
  have hl:i < n:=by omega
  have ha:AY i 1 8 = true:=BH (by omega)
  cases hp:p i with
  | true =>
   rw [Ab (Ahw L n p (ofNat (Al p i)) i (CI p i) j (ofNat_lt hl) ha (Ap hl) hp),Aq,Ao hl (by omega),Ao (show Al p i < n by omega) (by omega),<- Bl hp,S7 p i]
   exact U4 L n p h8 e (i+1) (λ_=>.und) q (by omega) (by omega)
  | false =>
   rw [Ab (Ahx L n p (ofNat (Al p i)) i (CI p i) j (ofNat_lt hl) ha (Ap hl) hp),Aq,Ao hl (by omega),S7 p i,<- By hp]
   exact U4 L n p h8 e (i+1) (λ_=>.und) q (by omega) (by omega)
theorem Wb (L:LT) (n:Nat) (p:Nat->Bool) (hn:n <= 4611686018427387904) (hs:0 < Al p n):∀ (D:Nat) (j:Nat->V) (q:Nat),D <= n->D < q->(∀ k,D <= k->k < n->Al p k = Al p n) ->
  (A4 (GR L) (Kt n p) q (JZ n p (dn D) (CI p D) j)).sem = some (KL n p 0 (A0 p n))
 | 0,j,q+1,h,_,hb=>by
  rw [<- Hg p n 0 h (λk hk=>absurd hk (Nat.not_lt_zero _)) hb]
  exact Ab (Ahb L n p (dn 0) (CI p 0) j rfl)
 | D+1,j,q+1,h,h2,hb=>by
  have hD:D < n:=by omega
  have hk:nlt D n = true:=by simpa [nlt] using hD
  cases hp:p D with
  | false =>
   have he:Al p D = Al p n:=by
    rw [<- By hp]
    by_cases h5:D+1 = n
    ·rw [h5]
    ·exact hb (D+1) (Nat.le_refl _) (by omega)
   rw [show dn (D+1) = ofNat D from rfl,Ab (AgZ L n p (ofNat D) (CI p (D+1)) j (AF D) (Ap hD) hp hk),Aq,PX (show D <= n by omega) hn,Cl,show toN (ofNat D) = D from rfl,Ll]
   exact Wb L n p hn hs D (λ_=>.und) q (by omega) (by omega) λk h3 h4=>by
    by_cases h5:k = D
    ·subst h5; exact he
    ·exact hb k (by omega) h4
  | true =>
   have h6:Al p D < Al p n:=by
    have:=Bc p (show D+1 <= n by omega)
    rw [Bl hp] at this
    omega
   rw [<- Hg p n (D+1) h (λk hk=>by have:=Bc p (show k <= D by omega); omega) hb]
   rw [show dn (D+1) = ofNat D from rfl]
   exact Ab (Aha L n p (ofNat D) (CI p (D+1)) j (AF D) (Ap hD) hp)
def RL:List (Nat × List (Nat × V)):=[(0,[(1,iV 0)])]
def NT (n:Nat) (p:Nat->Bool):List (Nat × Lp):=[(0,PK n p),(2,Kt n p)]
def Lw:List V->T (V × List Blk)
 | [v]=>apB v λn p=>.br (DZ n) (.leaf (.ref 0,[.row 3 1 n λk=>iV (A0 p n k)])) .fail
 | _=>.fail
theorem Ad7 (n:Nat) (p:Nat->Bool):CU (If n p) [(1,iV 0)] = Sk n p 0 0 (λ_=>0) (λi=>nth (If n p).t i):=by kernel_rfl
theorem AbJ (n:Nat) (p:Nat->Bool) (h8:DZ n = true) :
  (Ar (Ai tab (cxZ Gl tb0 RL (NT n p)) Try.f101 [V5 n p] [])).sem = some (.ref 0,[.row 3 1 n λk=>iV (A0 p n k)]):=by
 have h8':n * 8 <= 140737488355328:=of_decide_eq_true h8
 have hn:n <= 4611686018427387904:=by omega
 have hL:=DL RL (NT n p)
 have h0:∀ L,(CE RL (NT n p) 0 (Ez L) (If n p)).sem = some (FB n p (ofNat (Al p n)) n (CI p n)):=λL=>by
  show (A4 (Ez L) (PK n p) (n+1) (CU (If n p) [(1,iV 0)])).sem = _
  rw [Ad7,<- U5 p]
  exact U4 L n p h8' n 0 _ (n+1) (by omega) (by omega)
 cases n with
 | zero =>
  rw [<- QJ p 0 rfl]
  exact A2 (As hL hL) _ (Af8 _ _ 0 p _ _ rfl (Aj (h0 _)))
 | succ m =>
  have c0:ilt 0 (ofNat (m+1)) = true:=by rw [show (0:Int) = ofNat 0 from rfl,Cs]; simp
  have e1:wr .i64 (AK (ofNat (m+1)) 1) = ofNat m:=PX (Nat.le_refl _) hn
  have e2:toN (ofNat m) = m:=rfl
  cases hs:ilt 0 (ofNat (Al p (m+1))) with
  | false =>
   have hz:Al p (m+1) = 0:=by simpa [ilt] using hs
   have hw:=A2 (As hL hL) _ (Af7 _ _ (m+1) p _ _ c0 hs (Aj (h0 _)))
   rw [<- QJ p (m+1) hz]
   exact hw
  | true =>
   have hz:0 < Al p (m+1):=by simpa [ilt] using hs
   have hb:Ak (ile 0 (wr .i64 (AK (ofNat (m+1)) 1))) (ilt (wr .i64 (AK (ofNat (m+1)) 1)) (ofNat (m+1))) = true:=by rw [e1]; exact Ap (Nat.lt_succ_self m)
   cases hp:p m with
   | true =>
    have hw:=A2 (As hL hL) _ (Af6 _ _ (m+1) p _ _ c0 hs hb (by rw [e1,e2]; exact hp) (Aj (h0 _)))
    rw [<- Hg p (m+1) (m+1) (Nat.le_refl _) (λk hk=>by have:=Bc p (show k <= m by omega); rw [Bl hp]; omega) (λk h1 h2=>by omega)]
    exact hw
   | false =>
    have h2:=λL j=>Wb L (m+1) p hn hz (m+1) j (m+2) (Nat.le_refl _) (by omega) (λk h1 h2=>by omega)
    rw [show dn (m+1) = ofNat m from rfl,<- e1] at h2
    exact A2 (As (As hL hL) hL) _ (Af5 _ _ _ (m+1) p _ (CI p (m+1)) 0 (A0 p (m+1)) c0 hs hb (by rw [e1,e2]; exact hp) (Aj (h0 _)) (Aj (h2 _ _)))
theorem Anq:A7 Try.prog Gl 101 Lw:=by
 refine Av AL AN Try.func101 (by kernel_rfl) (by kernel_rfl) λvs v h' h=>?_
 unfold Lw at h
 split at h
 ·rename_i u
  obtain ⟨n,p,ha,h1⟩:=Abu h
  obtain ⟨h8,hq⟩:=Ad h1
  have:=Ac hq
  simp only [Prod.mk.injEq] at this
  obtain ⟨rfl,rfl⟩:=this
  have hA:Bp [u] [V5 n p]:=λS w cs hv=>by
   obtain ⟨c,l,rfl,q1,q2⟩:=hv
   exact ⟨c,l,rfl,ha S w c q1,q2⟩
  have hx:=JB C9 RL (NT n p)
  exact ⟨_,cxZ Gl tb0 RL (NT n p),_,hA,rfl,hx.1,hx.2,AbJ n p h8,A8.refl _⟩
 ·cases h
theorem E5 {n:Nat}:Bn [.row 3 1 n (λ_=>iV 0)] = true:=by
 simp [Bn,LV,iV]
noncomputable def Ub:List (Nat × (List V->T (V × List Blk))):=(22,BO λe=>bV (Ax e)) :: (23,BO λe=>bV (Aw e)) :: (101,Lw) :: []
theorem VH:AA Try.prog Gl Ub:=.cons p60 <| .cons p61 <| .cons Anq .nil
def Je (p:Nat->Bool) (i k:Nat):Bool:=decide (k < i) && p k
theorem Zw (p:Nat->Bool):Je p 0 = λ_=>false:=by
 funext k
 simp [Je]
theorem P5 (p:Nat->Bool) (i:Nat):A1 i (λk=>bV (Je p i k)) (bV (p i)) = λk=>bV (Je p (i+1) k):=by
 funext k
 rw [Bq,show Nat.beq k i = decide (k = i) by rw [Bool.eq_iff_iff]; simp]
 unfold Je
 by_cases h:k = i
 ·subst h; simp
 ·by_cases h2:k < i
  ·have:k < i+1:=by omega
   simp [h,h2,this]
  ·have:¬ k < i+1:=by omega
   simp [h,h2,this]
theorem Do {p q:Nat->Bool}:∀ k,(∀ i,i < k->q i = p i)->Al q k = Al p k
 | 0,_=>rfl
 | k+1,h=>by
  rw [Al,Al,h k (Nat.lt_succ_self k),Do k λi hi=>h i (by omega)]
theorem NI (p:Nat->Bool) (n:Nat):A0 (Je p n) n = A0 p n:=by
 have hq:∀ i,i < n->Je p n i = p i:=λi hi=>by simp [Je,hi]
 funext k
 unfold A0
 by_cases h:k < n
 ·rw [Do k λi hi=>hq i (by omega),Do n hq]
 ·simp [h]
theorem Hs {n:Nat} (h:Bj n = true):n * 8 <= 140737488355328:=of_decide_eq_true (ET h)
def SL (n:Nat) (f:Nat->E6):Lp:=⟨(bmK 21 0 [0,3,4]),2,bmK 21 0 [3],2,n+1⟩
def Acf (n:Nat) (f:Nat->E6) (i:Nat) (h:Nat->Bool) (j:Nat->V):St:=⟨(jsV 21 0 j [(0,.sl 6 n (λi=>eV (f i))),(3,.ref 1),(4,nV i)]),[.row 3 1 0 (λ_=>.und),.row 4 1 i (λk=>bV (h k))]⟩
def WK (n:Nat) (f:Nat->E6) (i:Nat) (h:Nat->Bool):Ex × St:=(.ex 0,⟨(jsV 21 0 (λ_=>.und) [(3,.ref 1)]),[.row 3 1 0 (λ_=>.und),.row 4 1 i (λk=>bV (h k))]⟩)
noncomputable def LR (L:LT):St->T (Ex × St):=λst=>AC tab ⟨Am Ub,L,Gl⟩ (Au Try.f66 0) 0 st
section
variable (L:LT) (n:Nat) (f:Nat->E6) (i:Nat) (h:Nat->Bool)  (j:Nat->V)
include L n f i h j
theorem AkN (h0:ilt (ofNat i) (ofNat n) = false):Ah (LR L) (SL n f) (Acf n f i h j) = some ((.ex 0),⟨(jsV 21 0 (λ_=>.und) [(3,(.ref 1))]),[r3Z,(.row 4 1 i (λk=>(bV (h k))))]⟩):=by
 exact Aa (ks:=[kn h0]) (by kernel_rfl)
theorem AkM (h0:ilt (ofNat i) (ofNat n) = true) (h1:Ak (ile 0 (ofNat i)) (ilt (ofNat i) (ofNat n)) = true) (h2:AY i 1 1 = true):Ah (LR L) (SL n f) (Acf n f i h j) = some (.nm,⟨(jsV 21 0 (λ_=>.und) [(0,(.sl 6 n (λi=>(eV (f i))))),(3,(.ref 1)),(4,(iV (wr .i64 (Af (ofNat i) 1))))]),[r3Z,(.row 4 1 (AQ i 1) (A1 i (λk=>(bV (h k))) (bV (Ax (f i)))))]⟩):=by
 exact Aa (ks:=[kn h0,kn h1,kn h2]) (by kernel_rfl)
end
def Tz (n:Nat) (f:Nat->E6) :St:=⟨(jsV 21 0 (λ_=>A9) [(0,(.sl 6 n (λi=>eV (f i)))),(2,(.ref 0)),(3,(.ref 1)),(4,(iV 0))]),[r3Z,.row 4 1 0 (λ_=>.und)]⟩
theorem Amb (L:LT) (p0:PT) (n:Nat) (f:Nat->E6) (q:Nat->Bool) (h0:DZ n = true) (h10:Bn [.row 3 1 n (λ_=>iV 0)] = true) (hp0:p0 (LR (onP 0 p0 (WK n f n q) L)) (Tz n f) = true):(Ar (Ai tab ⟨Am Ub,(onP 0 p0 (WK n f n q) L),Gl⟩ Try.f66 [Az n f] [])).sem = some ((.ref 0),[(.row 3 1 n (λk=>(iV (A0 q n k))))]):=by
 exact Aa (ks:=[kn hp0,kL n,kn h0,kn h10]) (by kernel_rfl)
theorem AdX (L:LT) (n:Nat) (f:Nat->E6) (h8:n * 8 <= 140737488355328):∀ (e i:Nat) (j:Nat->V) (q:Nat),n = i+e->e < q ->
  (A4 (LR L) (SL n f) q (Acf n f i (Je (λk=>Ax (f k)) i) j)).sem = some (WK n f n (Je (λk=>Ax (f k)) n))
 | 0,i,j,q+1,h,_=>by
  have:n = i:=by omega
  subst this
  exact Ab (AkN L n f _ _ j (A6 (Nat.le_refl _)))
 | e+1,i,j,q+1,h,h2=>by
  have hl:i < n:=by omega
  have ha:AY i 1 1 = true:=BH (by omega)
  rw [Ab (AkM L n f i (Je (λk=>Ax (f k)) i) j (ofNat_lt hl) (Ap hl) ha),Aq,Ao hl (by omega)]
  have:=P5 (λk=>Ax (f k)) i
  rw [this]
  exact AdX L n f h8 e (i+1) (λ_=>.und) q (by omega) (by omega)
def Ab4:List (Nat × List (Nat × V)):=[(0,[(1,bV false)])]
theorem Aic (n:Nat) (f:Nat->E6):CU (Tz n f) [(1,bV false)] = Acf n f 0 (λ_=>false) (λi=>nth (Tz n f).t i):=by kernel_rfl
def QL:List V->T (V × List Blk):=GS λn f=>.br (Bj n) (.leaf (.ref 0,[.row 3 1 n λk=>iV (A0 (λk=>Ax (f k)) n k)])) .fail
theorem p94:A7 Try.prog Gl 66 QL:=by
 refine Av AL AN Try.func66 (by kernel_rfl) (by kernel_rfl) λvs v h' h=>?_
 obtain ⟨n,f,ha,h1⟩:=CZ h
 obtain ⟨hn,hq⟩:=Ad h1
 have:=Ac hq
 simp only [Prod.mk.injEq] at this
 obtain ⟨rfl,rfl⟩:=this
 have hx:=JB VH Ab4 [(0,SL n f)]
 have hL:=DL Ab4 [(0,SL n f)]
 have h0:∀ L,(CE Ab4 [(0,SL n f)] 0 (LR L) (Tz n f)).sem = some (WK n f n (Je (λk=>Ax (f k)) n)):=λL=>by
  show (A4 (LR L) (SL n f) (n+1) (CU (Tz n f) [(1,bV false)])).sem = _
  rw [Aic,<- Zw (λk=>Ax (f k))]
  exact AdX L n f (Hs hn) n 0 _ (n+1) (by omega) (by omega)
 have hw:=A2 (As hL hL) _ (Amb _ _ n f _ (ET hn) E5 (Aj (h0 _)))
 rw [NI (λk=>Ax (f k)) n] at hw
 exact ⟨_,cxZ Gl Ub Ab4 [(0,SL n f)],_,ha,rfl,hx.1,hx.2,hw,A8.refl _⟩
def lp95 (n:Nat) (f:Nat->E6):Lp:=⟨(bmK 21 0 [0,3,4]),2,bmK 21 0 [3],2,n+1⟩
def st95 (n:Nat) (f:Nat->E6) (i:Nat) (h:Nat->Bool) (j:Nat->V):St:=⟨(jsV 21 0 j [(0,.sl 6 n (λi=>eV (f i))),(3,.ref 1),(4,nV i)]),[.row 3 1 0 (λ_=>.und),.row 4 1 i (λk=>bV (h k))]⟩
def WJ (n:Nat) (f:Nat->E6) (i:Nat) (h:Nat->Bool):Ex × St:=(.ex 0,⟨(jsV 21 0 (λ_=>.und) [(3,.ref 1)]),[.row 3 1 0 (λ_=>.und),.row 4 1 i (λk=>bV (h k))]⟩)
noncomputable def body95 (L:LT):St->T (Ex × St):=λst=>AC tab ⟨Am Ub,L,Gl⟩ (Au Try.f67 0) 0 st
section
variable (L:LT) (n:Nat) (f:Nat->E6) (i:Nat) (h:Nat->Bool)  (j:Nat->V)
include L n f i h j
theorem AkL (h0:ilt (ofNat i) (ofNat n) = false):Ah (body95 L) (lp95 n f) (st95 n f i h j) = some ((.ex 0),⟨(jsV 21 0 (λ_=>.und) [(3,(.ref 1))]),[r3Z,(.row 4 1 i (λk=>(bV (h k))))]⟩):=by
 exact Aa (ks:=[kn h0]) (by kernel_rfl)
theorem AkK (h0:ilt (ofNat i) (ofNat n) = true) (h1:Ak (ile 0 (ofNat i)) (ilt (ofNat i) (ofNat n)) = true) (h2:AY i 1 1 = true):Ah (body95 L) (lp95 n f) (st95 n f i h j) = some (.nm,⟨(jsV 21 0 (λ_=>.und) [(0,(.sl 6 n (λi=>(eV (f i))))),(3,(.ref 1)),(4,(iV (wr .i64 (Af (ofNat i) 1))))]),[r3Z,(.row 4 1 (AQ i 1) (A1 i (λk=>(bV (h k))) (bV (Aw (f i)))))]⟩):=by
 exact Aa (ks:=[kn h0,kn h1,kn h2]) (by kernel_rfl)
end
def Tx (n:Nat) (f:Nat->E6) :St:=⟨(jsV 21 0 (λ_=>A9) [(0,(.sl 6 n (λi=>eV (f i)))),(2,(.ref 0)),(3,(.ref 1)),(4,(iV 0))]),[r3Z,.row 4 1 0 (λ_=>.und)]⟩
theorem Ama (L:LT) (p0:PT) (n:Nat) (f:Nat->E6) (q:Nat->Bool) (h0:DZ n = true) (h10:Bn [.row 3 1 n (λ_=>iV 0)] = true) (hp0:p0 (body95 (onP 0 p0 (WJ n f n q) L)) (Tx n f) = true):(Ar (Ai tab ⟨Am Ub,(onP 0 p0 (WJ n f n q) L),Gl⟩ Try.f67 [Az n f] [])).sem = some ((.ref 0),[(.row 3 1 n (λk=>(iV (A0 q n k))))]):=by
 exact Aa (ks:=[kn hp0,kL n,kn h0,kn h10]) (by kernel_rfl)
theorem run95 (L:LT) (n:Nat) (f:Nat->E6) (h8:n * 8 <= 140737488355328):∀ (e i:Nat) (j:Nat->V) (q:Nat),n = i+e->e < q ->
  (A4 (body95 L) (lp95 n f) q (st95 n f i (Je (λk=>Aw (f k)) i) j)).sem = some (WJ n f n (Je (λk=>Aw (f k)) n))
 | 0,i,j,q+1,h,_=>by
  have:n = i:=by omega
  subst this
  exact Ab (AkL L n f _ _ j (A6 (Nat.le_refl _)))
 | e+1,i,j,q+1,h,h2=>by
  have hl:i < n:=by omega
  have ha:AY i 1 1 = true:=BH (by omega)
  rw [Ab (AkK L n f i (Je (λk=>Aw (f k)) i) j (ofNat_lt hl) (Ap hl) ha),Aq,Ao hl (by omega)]
  have:=P5 (λk=>Aw (f k)) i
  rw [this]
  exact run95 L n f h8 e (i+1) (λ_=>.und) q (by omega) (by omega)
def Ab3:List (Nat × List (Nat × V)):=[(0,[(1,bV false)])]
theorem Aib (n:Nat) (f:Nat->E6):CU (Tx n f) [(1,bV false)] = st95 n f 0 (λ_=>false) (λi=>nth (Tx n f).t i):=by kernel_rfl
def QK:List V->T (V × List Blk):=GS λn f=>.br (Bj n) (.leaf (.ref 0,[.row 3 1 n λk=>iV (A0 (λk=>Aw (f k)) n k)])) .fail
theorem p95:A7 Try.prog Gl 67 QK:=by
 refine Av AL AN Try.func67 (by kernel_rfl) (by kernel_rfl) λvs v h' h=>?_
 obtain ⟨n,f,ha,h1⟩:=CZ h
 obtain ⟨hn,hq⟩:=Ad h1
 have:=Ac hq
 simp only [Prod.mk.injEq] at this
 obtain ⟨rfl,rfl⟩:=this
 have hx:=JB VH Ab3 [(0,lp95 n f)]
 have hL:=DL Ab3 [(0,lp95 n f)]
 have h0:∀ L,(CE Ab3 [(0,lp95 n f)] 0 (body95 L) (Tx n f)).sem = some (WJ n f n (Je (λk=>Aw (f k)) n)):=λL=>by
  show (A4 (body95 L) (lp95 n f) (n+1) (CU (Tx n f) [(1,bV false)])).sem = _
  rw [Aib,<- Zw (λk=>Aw (f k))]
  exact run95 L n f (Hs hn) n 0 _ (n+1) (by omega) (by omega)
 have hw:=A2 (As hL hL) _ (Ama _ _ n f _ (ET hn) E5 (Aj (h0 _)))
 rw [NI (λk=>Aw (f k)) n] at hw
 exact ⟨_,cxZ Gl Ub Ab3 [(0,lp95 n f)],_,ha,rfl,hx.1,hx.2,hw,A8.refl _⟩
noncomputable def tb53:List (Nat × (List V->T (V × List Blk))):=(94,Alo) :: (66,QL) :: (67,QK) :: []
theorem tb53_ok:AA Try.prog Gl tb53:=.cons p98 <| .cons p94 <| .cons p95 .nil
def Kg (g:Nat->(Nat->E6)->Nat->Int):List V->T (V × List Blk):=GS λn f=>.br (Bj n) (match CJ n f with
 | true=>.leaf (.tup [.ref 0,iV 0],[.row 3 1 n λk=>iV (g n f k)])
 | false=>.leaf (.tup [.ref 0,iV 30],[.row 3 1 0 λ_=>.und])) .fail
section
variable (L:LT) (n:Nat) (f:Nat->E6)
include L n f
theorem Amz (h0:Ag n = true) (h1:CJ n f = true) (h2:Bj n = true):(Ar (Ai tab ⟨Am tb53,L,Gl⟩ Try.f57 [Az n f] [])).sem = some ((.tup [(.ref 0),(iV 0)]),[(.row 3 1 n (λk=>(iV (A0 (λk=>(Ax (f k))) n k))))]):=by
 exact Aa (ks:=[kL n,kn h0,kN (kn h1),kL n,kn h2]) (by kernel_rfl)
theorem Am0 (h0:Ag n = true) (h1:CJ n f = false):(Ar (Ai tab ⟨Am tb53,L,Gl⟩ Try.f57 [Az n f] [])).sem = some ((.tup [(.ref 0),(iV 30)]),[r3Z]):=by
 exact Aa (ks:=[kL n,kn h0,kN (kn h1)]) (by kernel_rfl)
theorem Amx (h0:Ag n = true) (h1:CJ n f = true) (h2:Bj n = true):(Ar (Ai tab ⟨Am tb53,L,Gl⟩ Try.f58 [Az n f] [])).sem = some ((.tup [(.ref 0),(iV 0)]),[(.row 3 1 n (λk=>(iV (A0 (λk=>(Aw (f k))) n k))))]):=by
 exact Aa (ks:=[kL n,kn h0,kN (kn h1),kL n,kn h2]) (by kernel_rfl)
theorem Amy (h0:Ag n = true) (h1:CJ n f = false):(Ar (Ai tab ⟨Am tb53,L,Gl⟩ Try.f58 [Az n f] [])).sem = some ((.tup [(.ref 0),(iV 30)]),[r3Z]):=by
 exact Aa (ks:=[kL n,kn h0,kN (kn h1)]) (by kernel_rfl)
end
theorem p53:A7 Try.prog Gl 57 (Kg λn f=>A0 (λk=>Ax (f k)) n):=by
 refine Av AL AN Try.func57 (by kernel_rfl) (by kernel_rfl) λvs v h' h=>?_
 obtain ⟨n,f,ha,h1⟩:=CZ h
 obtain ⟨hn,hq⟩:=Ad h1
 have hx:=AO tb53_ok []
 have hs:Ag n = true:=Aav (ET hn)
 cases hm:CJ n f with
 | true =>
  rw [hm] at hq
  have:=Ac hq
  simp only [Prod.mk.injEq] at this
  obtain ⟨rfl,rfl⟩:=this
  exact ⟨_,AI Gl tb53 [],_,ha,rfl,hx.1,hx.2,Amz _ n f hs hm hn,A8.refl _⟩
 | false =>
  rw [hm] at hq
  have:=Ac hq
  simp only [Prod.mk.injEq] at this
  obtain ⟨rfl,rfl⟩:=this
  exact ⟨_,AI Gl tb53 [],_,ha,rfl,hx.1,hx.2,Am0 _ n f hs hm,A8.refl _⟩
theorem p54:A7 Try.prog Gl 58 (Kg λn f=>A0 (λk=>Aw (f k)) n):=by
 refine Av AL AN Try.func58 (by kernel_rfl) (by kernel_rfl) λvs v h' h=>?_
 obtain ⟨n,f,ha,h1⟩:=CZ h
 obtain ⟨hn,hq⟩:=Ad h1
 have hx:=AO tb53_ok []
 have hs:Ag n = true:=Aav (ET hn)
 cases hm:CJ n f with
 | true =>
  rw [hm] at hq
  have:=Ac hq
  simp only [Prod.mk.injEq] at this
  obtain ⟨rfl,rfl⟩:=this
  exact ⟨_,AI Gl tb53 [],_,ha,rfl,hx.1,hx.2,Amx _ n f hs hm hn,A8.refl _⟩
 | false =>
  rw [hm] at hq
  have:=Ac hq
  simp only [Prod.mk.injEq] at this
  obtain ⟨rfl,rfl⟩:=this
  exact ⟨_,AI Gl tb53 [],_,ha,rfl,hx.1,hx.2,Amy _ n f hs hm,A8.refl _⟩
end Go.Proofs.Ytjhnfomefcngfaa.Ed
namespace Go.Proofs.Ytjhnfomefcngfaa.Sh
open Go.Sy Ed
open Int (ofNat)
theorem AfF (e:E6):(Ar (Ai tab (AI Gl [] []) Try.f91 [eV e] [])).sem = (sel (ieq (e).kind 1) (sel (ieq (e).kind 1) (sel (ieq (e).kind 1) (sel (ieq (e).kind 1) (some ((bV true),[])) none) none) none) (sel (ieq (e).kind 1) (sel (ieq (e).kind 1) (sel (ieq (e).kind 1) (some ((bV true),[])) none) none) (sel (ieq (e).kind 1) (sel (ieq (e).kind 1) (some ((bV true),[])) none) (sel (ieq (e).kind 1) (some ((bV true),[])) (sel (ieq (e).kind 2) (sel (ieq (e).kind 2) (sel (ieq (e).kind 2) (sel (ieq (e).kind 2) (some ((bV true),[])) (some (A9,[]))) none) none) (sel (ieq (e).kind 2) (sel (ieq (e).kind 2) (sel (ieq (e).kind 2) (some ((bV true),[])) (some (A9,[]))) none) (sel (ieq (e).kind 2) (sel (ieq (e).kind 2) (some ((bV true),[])) (some (A9,[]))) (sel (ieq (e).kind 2) (some ((bV true),[])) (some ((bV (ieq (e).kind 3)),[])))))))))):=by kernel_rfl
theorem p91:A7 Try.prog Gl 91 (BO λe=>bV (Bx e)):=by
 refine A7.congr (AP AL AN Try.func91 (by kernel_rfl) (by kernel_rfl) (Γ:=AI Gl [] []) (AO AA.nil _)) λvs r h=>?_
 obtain ⟨e,rfl,rfl⟩:=BU h
 refine (AfF e).trans ?_
 rw [OC]
 cases ieq e.kind 1 <;> cases ieq e.kind 2 <;> cases ieq e.kind 3 <;> rfl
noncomputable def YF:List (Nat × (List V->T (V × List Blk))):=(91,BO λe=>bV (Bx e)) :: []
theorem VL:AA Try.prog Gl YF:=.cons p91 .nil
theorem AfL (e:E6):(Ar (Ai tab (AI Gl YF []) Try.f52 [eV e] [])).sem = (sel (Bx e) (sel (Bx e) (sel (Bx e) (some ((bV (e).ext),[])) (some ((bV false),[]))) (sel (Bx e) (some (A9,[])) (some ((bV false),[])))) (sel (Bx e) none (sel (Bx e) (some (A9,[])) (some ((bV false),[]))))):=by kernel_rfl
theorem p52:A7 Try.prog Gl 52 (BO λe=>bV (Ax e)):=by
 refine A7.congr (AP AL AN Try.func52 (by kernel_rfl) (by kernel_rfl) (Γ:=AI Gl YF []) (AO VL _)) λvs r h=>?_
 obtain ⟨e,rfl,rfl⟩:=BU h
 refine (AfL e).trans ?_
 unfold Ax
 cases Bx e <;> rfl
theorem AfK (e:E6):(Ar (Ai tab (AI Gl YF []) Try.f54 [eV e] [])).sem = (sel (AG (Bx e)) (sel (AG (Bx e)) (sel (AG (Bx e)) (sel (AG (Bx e)) (some ((bV (AG (e).same)),[])) (some ((bV false),[]))) (sel (AG (Bx e)) (some (A9,[])) (some ((bV false),[])))) (sel (AG (Bx e)) none (sel (AG (Bx e)) (some (A9,[])) (some ((bV false),[]))))) (sel (AG (Bx e)) none (sel (AG (Bx e)) none (sel (AG (Bx e)) (some (A9,[])) (some ((bV false),[])))))):=by kernel_rfl
theorem p54:A7 Try.prog Gl 54 (BO λe=>bV (Aw e)):=by
 refine A7.congr (AP AL AN Try.func54 (by kernel_rfl) (by kernel_rfl) (Γ:=AI Gl YF []) (AO VL _)) λvs r h=>?_
 obtain ⟨e,rfl,rfl⟩:=BU h
 refine (AfK e).trans ?_
 unfold Aw
 cases Bx e <;> rfl
noncomputable def J5 (n:Nat) (f:Nat->Int) (x:Int):Int:=match (List.range n).find? λi=>ieq x (f i) with
 | some i=>ofNat i
 | none=>-1
theorem PO {n:Nat} {f:Nat->Int} {x:Int} {i:Nat} (hi:i < n) (h:ieq x (f i) = true) (hb:∀ k,k < i->ieq x (f k) = false):J5 n f x = ofNat i:=by
 unfold J5
 have:(List.range n).find? (λi=>ieq x (f i)) = some i:=by
  rw [List.find?_range_eq_some]
  exact ⟨h,by simpa using hi,λj hj=>by rw [hb j hj]; rfl⟩
 rw [this]
theorem Tj {n:Nat} {f:Nat->Int} {x:Int} (h:∀ k,k < n->ieq x (f k) = false):J5 n f x = -1:=by
 unfold J5
 have:(List.range n).find? (λi=>ieq x (f i)) = none:=by
  rw [List.find?_eq_none]
  intro k hk
  rw [h k (by simpa using hk)]
  simp
 rw [this]
def NV (n:Nat) (f:Nat->Int) (x:Int):Lp:=⟨(bmK 19 0 [0,1,4,7,8]),0,bmK 19 0 [4],0,n+1⟩
def Qy (n:Nat) (f:Nat->Int) (x:Int) (b:Nat) (j:Nat->V):St:=⟨(jsV 19 0 j [(0,.sl 1 n λk=>iV (f k)),(1,iV x),(4,iV 0),(7,nV n),(8,nV b)]),[]⟩
def WL (n:Nat) (f:Nat->Int) (x:Int) (b:Nat):Ex × St:=(.rt,⟨(jsV 19 0 (λ_=>.und) [(4,nV b)]),[]⟩)
def WM (n:Nat) (f:Nat->Int) (x:Int) (b:Nat):Ex × St:=(.ex 0,⟨(jsV 19 0 (λ_=>.und) [(4,iV 0)]),[]⟩)
noncomputable def Hy (L:LT):St->T (Ex × St):=λst=>AC tab ⟨Am tb0,L,Gl⟩ (Au Try.f92 0) 0 st
section
variable (L:LT) (n:Nat) (f:Nat->Int) (x:Int) (b:Nat)  (j:Nat->V)
include L n f x b j
theorem Ako (h0:ilt (ofNat b) (ofNat n) = true) (h11:ile 0 (ofNat b) = true) (h1:ieq x (f b) = false):Ah (Hy L) (NV n f x) (Qy n f x b j) = some (.nm,⟨(jsV 19 0 (λ_=>.und) [(0,(.sl 1 n (λk=>(iV (f k))))),(1,(iV x)),(4,(iV 0)),(7,(nV n)),(8,(iV (wr .i64 (Af (ofNat b) 1))))]),[]⟩):=by
 exact Aa (ks:=[kn h0,kA (kn h11) (kn h0),kn h1]) (by kernel_rfl)
theorem Akn (h0:ilt (ofNat b) (ofNat n) = true) (h11:ile 0 (ofNat b) = true) (h1:ieq x (f b) = true):Ah (Hy L) (NV n f x) (Qy n f x b j) = some (.rt,⟨(jsV 19 0 (λ_=>.und) [(4,(nV b))]),[]⟩):=by
 exact Aa (ks:=[kn h0,kA (kn h11) (kn h0),kn h1]) (by kernel_rfl)
theorem Akp (h0:ilt (ofNat b) (ofNat n) = false):Ah (Hy L) (NV n f x) (Qy n f x b j) = some ((.ex 0),⟨(jsV 19 0 (λ_=>.und) [(4,(iV 0))]),[]⟩):=by
 exact Aa (ks:=[kn h0]) (by kernel_rfl)
end
def AhQ (n:Nat) (f:Nat->Int) (x:Int) :Nat->V:=lkV A9 [(6,(.sl 1 n (λk=>iV (f k))))]
theorem Ai8 (L:LT) (p0:PT) (n:Nat) (f:Nat->Int) (x:Int) (b:Nat)  (hp0:p0 (Hy (onP 0 p0 (WL n f x b) L)) (Qy n f x 0 (AhQ n f x )) = true):(Ar (Ai tab ⟨Am tb0,(onP 0 p0 (WL n f x b) L),Gl⟩ Try.f92 [.sl 1 n λk=>iV (f k),iV x] [])).sem = some ((nV b),[]):=by
 exact Aa (ks:=[kn hp0]) (by kernel_rfl)
theorem Ai9 (L:LT) (p0:PT) (n:Nat) (f:Nat->Int) (x:Int)  (hp0:p0 (Hy (onP 0 p0 (WM n f x 0) L)) (Qy n f x 0 (AhQ n f x )) = true):(Ar (Ai tab ⟨Am tb0,(onP 0 p0 (WM n f x 0) L),Gl⟩ Try.f92 [.sl 1 n λk=>iV (f k),iV x] [])).sem = some ((iV (-1)),[]):=by
 exact Aa (ks:=[kn hp0]) (by kernel_rfl)
theorem AdY (L:LT) (n:Nat) (f:Nat->Int) (x:Int) (hn:n <= 4611686018427387904):∀ (e i:Nat) (j:Nat->V) (q:Nat),n = i+e->e < q->(∀ k,k < i->ieq x (f k) = false) ->
  ((A4 (Hy L) (NV n f x) q (Qy n f x i j)).sem = some (WM n f x 0) ∧ J5 n f x = -1) ∨ ∃ b,(A4 (Hy L) (NV n f x) q (Qy n f x i j)).sem = some (WL n f x b) ∧ J5 n f x = ofNat b
 | 0,i,j,q+1,h,_,hb=>by
  have:n = i:=by omega
  subst this
  exact .inl ⟨Ab (Akp L n f x n j (A6 (Nat.le_refl _))),Tj hb⟩
 | e+1,i,j,q+1,h,h2,hb=>by
  have hl:i < n:=by omega
  cases hp:ieq x (f i) with
  | true =>
   exact .inr ⟨i,Ab (Akn L n f x i j (ofNat_lt hl) (AF i) hp),PO hl hp hb⟩
  | false =>
   rw [Ab (Ako L n f x i j (ofNat_lt hl) (AF i) hp),Aq,Ao hl hn]
   refine AdY L n f x hn e (i+1) (λ_=>.und) q (by omega) (by omega) λk hk=>?_
   by_cases hki:k = i
   ·rw [hki]; exact hp
   ·exact hb k (by omega)
noncomputable def UV:List V->T (V × List Blk)
 | [v,.val (.int .i64 x)]=>apI v λn f=>.br (DZ n) (.leaf (iV (J5 n f x),[])) .fail
 | _=>.fail
theorem p92:A7 Try.prog Gl 92 UV:=by
 refine Av AL AN Try.func92 (by kernel_rfl) (by kernel_rfl) λvs v h' h=>?_
 unfold UV at h
 split at h
 ·rename_i u x
  obtain ⟨n,f,ha,h1⟩:=ED h
  obtain ⟨h8,hq⟩:=Ad h1
  have:=Ac hq
  simp only [Prod.mk.injEq] at this
  obtain ⟨rfl,rfl⟩:=this
  have h8':n * 8 <= 140737488355328:=of_decide_eq_true h8
  have hA:Bp [u,iV x] [Cf n f,iV x]:=λS w cs hv=>by
   obtain ⟨c,l,rfl,q1,q2⟩:=hv
   exact ⟨c,l,rfl,ha S w c q1,q2⟩
  have hx:=AO C9 [(0,NV n f x)] (G:=Gl)
  have hL:=AE [(0,NV n f x)]
  refine ⟨_,AI Gl tb0 [(0,NV n f x)],_,hA,rfl,hx.1,hx.2,?_,A8.refl _⟩
  have h0:=λL j=>AdY L n f x (by omega) n 0 j (n+1) (by omega) (by omega) (λk hk=>absurd hk (Nat.not_lt_zero _))
  rcases h0 (AV [(0,NV n f x)]) (AhQ n f x) with ⟨_,h5⟩ | ⟨b,_,h5⟩
  ·have h6:∀ L j,(A4 (Hy L) (NV n f x) (n+1) (Qy n f x 0 j)).sem = some (WM n f x 0):=λL j=>by
    rcases h0 L j with ⟨h,_⟩ | ⟨b,_,h⟩
    ·exact h
    ·rw [h5] at h
     cases h
   rw [h5]
   exact A2 (As hL hL) _ (Ai9 _ _ n f x (Aj (h6 _ _)))
  ·have h6:∀ L j,(A4 (Hy L) (NV n f x) (n+1) (Qy n f x 0 j)).sem = some (WL n f x b):=λL j=>by
    rcases h0 L j with ⟨_,h⟩ | ⟨b',h,h'⟩
    ·rw [h5] at h
     cases h
    ·rw [h5] at h'
     cases h'
     exact h
   rw [h5]
   exact A2 (As hL hL) _ (Ai8 _ _ n f x b (Aj (h6 _ _)))
 ·cases h
end Go.Proofs.Ytjhnfomefcngfaa.Sh
