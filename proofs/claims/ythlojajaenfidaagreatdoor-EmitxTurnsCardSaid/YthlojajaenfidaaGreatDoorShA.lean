/-
  The document's parts, threads, locations: the part of each edge. No conditions.
-/
import Derived.Test.YthlojajaenfidaaGreatDoorCyO
namespace Go.Proofs.YthlojajaenfidaaGreatDoor.Ed
open Go.Sy
open Int (ofNat)
def PE (n:Nat) (p:Nat->Bool):Lp:=⟨(bmK 57 0 [0,3,4,5]),2,bmK 57 0 [0,3,4],2,n+1⟩
def Sl (n:Nat) (p:Nat->Bool) (s:Int) (i:Nat) (h:Nat->Int) (j:Nat->V):St:=⟨(jsV 57 0 j [(0,.sl 1 n (λk=>bV (p k))),(3,.ref 1),(4,iV s),(5,nV i)]),[.row 3 1 0 (λ_=>.und),.row 3 1 i (λk=>iV (h k))]⟩
def F5 (n:Nat) (p:Nat->Bool) (s:Int) (i:Nat) (h:Nat->Int):Ex × St:=(.ex 0,⟨(jsV 57 0 (λ_=>.und) [(0,.sl 1 n (λk=>bV (p k))),(3,.ref 1),(4,iV s)]),[.row 3 1 0 (λ_=>.und),.row 3 1 i (λk=>iV (h k))]⟩)
noncomputable def Et (L:LT):St->T (Ex × St):=λst=>AD tab ⟨Ak tb0,L,Gl⟩ (As Tryz.f91 0) 0 st
section
variable (L:LT) (n:Nat) (p:Nat->Bool) (s:Int) (i:Nat) (h:Nat->Int)  (j:Nat->V)
include L n p s i h j
theorem AhD (h0:ilt (ofNat i) (ofNat n) = false):Ag (Et L) (PE n p) (Sl n p s i h j) = some ((.ex 0),⟨(jsV 57 0 (λ_=>.und) [(0,(.sl 1 n (λk=>(bV (p k))))),(3,(.ref 1)),(4,(iV s))]),[r3Z,(.row 3 1 i (λk=>(iV (h k))))]⟩):=by
 exact Aa (ks:=[kn h0]) (by kernel_rfl)
theorem AhB (h0:ilt (ofNat i) (ofNat n) = true) (h2:Bx i 1 8 = true) (h1:Al (ile 0 (ofNat i)) (ilt (ofNat i) (ofNat n)) = true) (h3:p i = true):Ag (Et L) (PE n p) (Sl n p s i h j) = some (.nm,⟨(jsV 57 0 (λ_=>.und) [(0,(.sl 1 n (λk=>(bV (p k))))),(3,(.ref 1)),(4,(iV (wr .i64 (Af s 1)))),(5,(iV (wr .i64 (Af (ofNat i) 1))))]),[r3Z,(.row 3 1 (Bd i 1) (A2 i (λk=>(iV (h k))) (iV s)))]⟩):=by
 exact Aa (ks:=[kn h0,kn h2,kn h1,kn h3]) (by kernel_rfl)
theorem AhC (h0:ilt (ofNat i) (ofNat n) = true) (h2:Bx i 1 8 = true) (h1:Al (ile 0 (ofNat i)) (ilt (ofNat i) (ofNat n)) = true) (h3:p i = false):Ag (Et L) (PE n p) (Sl n p s i h j) = some (.nm,⟨(jsV 57 0 (λ_=>.und) [(0,(.sl 1 n (λk=>(bV (p k))))),(3,(.ref 1)),(4,(iV s)),(5,(iV (wr .i64 (Af (ofNat i) 1))))]),[r3Z,(.row 3 1 (Bd i 1) (A2 i (λk=>(iV (h k))) (iV s)))]⟩):=by
 exact Aa (ks:=[kn h0,kn h2,kn h1,kn h3]) (by kernel_rfl)
end
def Ib (n:Nat) (p:Nat->Bool) :St:=⟨(jsV 57 0 (λ_=>A7) [(0,(.sl 1 n (λk=>bV (p k)))),(2,(.ref 0)),(3,(.ref 1)),(4,(iV 0)),(5,(iV 0))]),[r3Z,r3Z]⟩
def Kx (n:Nat) (p:Nat->Bool):Lp:=⟨(bmK 57 0 [0,3,7]),2,bmK 57 0 [3],2,n+1⟩
def Kb (n:Nat) (p:Nat->Bool) (d:Int) (g:Nat->Int) (j:Nat->V):St:=⟨(jsV 57 0 j [(0,.sl 1 n (λk=>bV (p k))),(3,.ref 1),(7,iV d)]),[.row 3 1 0 (λ_=>.und),.row 3 1 n (λk=>iV (g k))]⟩
def KO (n:Nat) (p:Nat->Bool) (d:Int) (g:Nat->Int):Ex × St:=(.ex 2,⟨(jsV 57 0 (λ_=>.und) [(3,.ref 1)]),[.row 3 1 0 (λ_=>.und),.row 3 1 n (λk=>iV (g k))]⟩)
noncomputable def GR (L:LT):St->T (Ex × St):=λst=>AD tab ⟨Ak tb0,L,Gl⟩ (As Tryz.f91 2) 2 st
section
variable (L:LT) (n:Nat) (p:Nat->Bool) (d:Int) (g:Nat->Int)  (j:Nat->V)
include L n p d g j
theorem Ahq (h0:ile 0 d = false):Ag (GR L) (Kx n p) (Kb n p d g j) = some ((.ex 2),⟨(jsV 57 0 (λ_=>.und) [(3,(.ref 1))]),[r3Z,(.row 3 1 n (λk=>(iV (g k))))]⟩):=by
 exact Aa (ks:=[kn h0,kn h0,kn h0,kn h0,kn h0,kn h0,kF]) (by kernel_rfl)
theorem Ahp (h0:ile 0 d = true) (h1:Al (ile 0 d) (ilt d (ofNat n)) = true) (h3:p (toN d) = true):Ag (GR L) (Kx n p) (Kb n p d g j) = some ((.ex 2),⟨(jsV 57 0 (λ_=>.und) [(3,(.ref 1))]),[r3Z,(.row 3 1 n (λk=>(iV (g k))))]⟩):=by
 exact Aa (ks:=[kn h0,kn h0,kn h0,kn h1,kn h0,kn h0,kn h0,kN (kn h3)]) (by kernel_rfl)
theorem Aho (h0:ile 0 d = true) (h1:Al (ile 0 d) (ilt d (ofNat n)) = true) (h3:p (toN d) = false) (h2:nlt (toN d) n = true):Ag (GR L) (Kx n p) (Kb n p d g j) = some (.nm,⟨(jsV 57 0 (λ_=>.und) [(0,(.sl 1 n (λk=>(bV (p k))))),(3,(.ref 1)),(7,(iV (wr .i64 (Az d 1))))]),[r3Z,(.row 3 1 n (Br (λk=>(iV (g k))) (toN d) (iV 0)))]⟩):=by
 exact Aa (ks:=[kn h0,kn h0,kn h0,kn h1,kn h0,kn h0,kn h0,kN (kn h3),kn h1,kn h2]) (by kernel_rfl)
end
def AdD (n:Nat) (p:Nat->Bool) (s:Int) (g:Nat->Int):Nat->V:=lkV A7 [(1,.und),(2,.und),(4,(iV s)),(5,.und),(6,(nV n)),(8,.und),(9,.und),(10,.und),(11,.und),(12,.und),(13,.und),(14,.und),(15,.und),(16,.und),(17,.und),(18,.und),(19,.und),(20,.und),(21,.und),(22,.und),(23,.und),(24,(.sl 1 n (λk=>bV (p k)))),(25,(nV n)),(26,(nV n)),(27,(bV (ilt 0 (ofNat n)))),(28,(bV (ilt 0 (ofNat n)))),(29,(iV s)),(30,(bV (ilt 0 s))),(31,(bV (ilt 0 s))),(32,(bV (ilt 0 s))),(33,(.sl 1 n (λk=>bV (p k)))),(34,(nV n)),(35,(iV (wr .i64 (Az (ofNat n) 1)))),(36,(.pp (bV (p (toN (wr .i64 (Az (ofNat n) 1))))))),(37,(bV (p (toN (wr .i64 (Az (ofNat n) 1)))))),(38,(bV (AG (p (toN (wr .i64 (Az (ofNat n) 1))))))),(39,(bV (AG (p (toN (wr .i64 (Az (ofNat n) 1))))))),(40,(nV n)),(41,(iV (wr .i64 (Az (ofNat n) 1)))),(42,.und),(43,.und),(44,.und),(45,.und),(46,.und),(47,.und),(48,.und),(49,.und),(50,.und),(51,.und),(52,.und),(53,.und),(54,.und),(55,.und),(56,.und)]
section
variable (L:LT) (p0:PT) (n:Nat) (p:Nat->Bool) (s:Int) (g:Nat->Int)
include L p0 n p s g
theorem AfO (h0:ilt 0 (ofNat n) = false) (hp0:p0 (Et (onP 0 p0 (F5 n p s n g) L)) (Ib n p) = true):(Au (Ah tab ⟨Ak tb0,(onP 0 p0 (F5 n p s n g) L),Gl⟩ Tryz.f91 [.sl 1 n (λk=>bV (p k))] [])).sem = some ((.ref 0),[(.row 3 1 n (λk=>(iV (g k))))]):=by
 exact Aa (ks:=[kn hp0,kn h0,kn h0,kn h0,kF,kF,kF,kF,kF,kF,kF,kF]) (by kernel_rfl)
theorem AfN (h0:ilt 0 (ofNat n) = true) (h1:ilt 0 s = false) (hp0:p0 (Et (onP 0 p0 (F5 n p s n g) L)) (Ib n p) = true):(Au (Ah tab ⟨Ak tb0,(onP 0 p0 (F5 n p s n g) L),Gl⟩ Tryz.f91 [.sl 1 n (λk=>bV (p k))] [])).sem = some ((.ref 0),[(.row 3 1 n (λk=>(iV (g k))))]):=by
 exact Aa (ks:=[kn hp0,kn h0,kn h0,kn h0,kn h1,kn h1,kn h1,kn h1,kn h1,kn h1,kn h1,kF]) (by kernel_rfl)
theorem AfM (h0:ilt 0 (ofNat n) = true) (h1:ilt 0 s = true) (h2:Al (ile 0 (wr .i64 (Az (ofNat n) 1))) (ilt (wr .i64 (Az (ofNat n) 1)) (ofNat n)) = true) (h3:p (toN (wr .i64 (Az (ofNat n) 1))) = true) (hp0:p0 (Et (onP 0 p0 (F5 n p s n g) L)) (Ib n p) = true):(Au (Ah tab ⟨Ak tb0,(onP 0 p0 (F5 n p s n g) L),Gl⟩ Tryz.f91 [.sl 1 n (λk=>bV (p k))] [])).sem = some ((.ref 0),[(.row 3 1 n (λk=>(iV (g k))))]):=by
 exact Aa (ks:=[kn hp0,kn h0,kn h0,kn h0,kn h1,kn h1,kn h1,kn h1,kn h2,kn h1,kn h1,kn h1,kN (kn h3)]) (by kernel_rfl)
end
theorem AfL (L:LT) (p0:PT) (p2:PT) (n:Nat) (p:Nat->Bool) (s:Int) (g:Nat->Int) (d:Int) (u:Nat->Int) (h0:ilt 0 (ofNat n) = true) (h1:ilt 0 s = true) (h2:Al (ile 0 (wr .i64 (Az (ofNat n) 1))) (ilt (wr .i64 (Az (ofNat n) 1)) (ofNat n)) = true) (h3:p (toN (wr .i64 (Az (ofNat n) 1))) = false) (hp0:p0 (Et (onP 0 p0 (F5 n p s n g) (onP 2 p2 (KO n p d u) L))) (Ib n p) = true) (hp2:p2 (GR (onP 0 p0 (F5 n p s n g) (onP 2 p2 (KO n p d u) L))) (Kb n p (wr .i64 (Az (ofNat n) 1)) g (AdD n p s g)) = true):(Au (Ah tab ⟨Ak tb0,(onP 0 p0 (F5 n p s n g) (onP 2 p2 (KO n p d u) L)),Gl⟩ Tryz.f91 [.sl 1 n (λk=>bV (p k))] [])).sem = some ((.ref 0),[(.row 3 1 n (λk=>(iV (u k))))]):=by
 exact Aa (ks:=[kn hp0,kn h0,kn h0,kn h0,kn h1,kn h1,kn h1,kn h1,kn h2,kn h1,kn h1,kn h1,kN (kn h3),kn hp2]) (by kernel_rfl)
theorem SA (p:Nat->Bool) (i:Nat):A2 i (λk=>iV (C8 p i k)) (iV (ofNat (Aj p i))) = λk=>iV (C8 p (i+1) k):=by
 funext k
 rw [Bl,show Nat.beq k i = decide (k = i) by rw [Bool.eq_iff_iff]; simp]
 unfold C8
 by_cases h:k = i
 ·subst h; simp
 ·by_cases h2:k < i
  ·have:k < i+1:=by omega
   simp [h,h2,this]
  ·have:¬ k < i+1:=by omega
   simp [h,h2,this]
theorem Bi {p:Nat->Bool} {i:Nat} (h:p i = true):Aj p (i+1) = Aj p i+1:=by rw [Aj,h]
theorem B5 {p:Nat->Bool} {i:Nat} (h:p i = false):Aj p (i+1) = Aj p i:=by rw [Aj,h]
theorem UC (L:LT) (n:Nat) (p:Nat->Bool) (h8:n * 8 <= 140737488355328):∀ (e i:Nat) (j:Nat->V) (q:Nat),n = i+e->e < q ->
  (AA (Et L) (PE n p) q (Sl n p (ofNat (Aj p i)) i (C8 p i) j)).sem = some (F5 n p (ofNat (Aj p n)) n (C8 p n))
 | 0,i,j,q+1,h,_=>by
  have:n = i:=by omega
  subst this
  exact Ab (AhD L n p _ _ _ j (A9 (Nat.le_refl _)))
 | e+1,i,j,q+1,h,h2=>by
  have hc:=AV p i
  have hl:i < n:=by omega
  have ha:Bx i 1 8 = true:=BM (by omega)
  cases hp:p i with
  | true =>
   rw [Ab (AhB L n p (ofNat (Aj p i)) i (C8 p i) j (ofNat_lt hl) ha (Ap hl) hp),Aq,An hl (by omega),An (show Aj p i < n by omega) (by omega),<- Bi hp,SA p i]
   exact UC L n p h8 e (i+1) (λ_=>.und) q (by omega) (by omega)
  | false =>
   rw [Ab (AhC L n p (ofNat (Aj p i)) i (C8 p i) j (ofNat_lt hl) ha (Ap hl) hp),Aq,An hl (by omega),SA p i,<- B5 hp]
   exact UC L n p h8 e (i+1) (λ_=>.und) q (by omega) (by omega)
theorem Ww (L:LT) (n:Nat) (p:Nat->Bool) (hn:n <= 4611686018427387904) (hs:0 < Aj p n):∀ (D:Nat) (j:Nat->V) (q:Nat),D <= n->D < q->(∀ k,D <= k->k < n->Aj p k = Aj p n) ->
  (AA (GR L) (Kx n p) q (Kb n p (dn D) (C8 p D) j)).sem = some (KO n p 0 (Ay p n))
 | 0,j,q+1,h,_,hb=>by
  rw [<- Hc p n 0 h (λk hk=>absurd hk (Nat.not_lt_zero _)) hb]
  exact Ab (Ahq L n p (dn 0) (C8 p 0) j rfl)
 | D+1,j,q+1,h,h2,hb=>by
  have hD:D < n:=by omega
  have hk:nlt D n = true:=by simpa [nlt] using hD
  cases hp:p D with
  | false =>
   have he:Aj p D = Aj p n:=by
    rw [<- B5 hp]
    by_cases h5:D+1 = n
    ·rw [h5]
    ·exact hb (D+1) (Nat.le_refl _) (by omega)
   rw [show dn (D+1) = ofNat D from rfl,Ab (Aho L n p (ofNat D) (C8 p (D+1)) j (AE D) (Ap hD) hp hk),Aq,PZ (show D <= n by omega) hn,Ce,show toN (ofNat D) = D from rfl,Lu]
   exact Ww L n p hn hs D (λ_=>.und) q (by omega) (by omega) λk h3 h4=>by
    by_cases h5:k = D
    ·subst h5; exact he
    ·exact hb k (by omega) h4
  | true =>
   have h6:Aj p D < Aj p n:=by
    have:=AW p (show D+1 <= n by omega)
    rw [Bi hp] at this
    omega
   rw [<- Hc p n (D+1) h (λk hk=>by have:=AW p (show k <= D by omega); omega) hb]
   rw [show dn (D+1) = ofNat D from rfl]
   exact Ab (Ahp L n p (ofNat D) (C8 p (D+1)) j (AE D) (Ap hD) hp)
def RQ:List (Nat × List (Nat × V)):=[(0,[(1,iV 0)])]
def NR (n:Nat) (p:Nat->Bool):List (Nat × Lp):=[(0,PE n p),(2,Kx n p)]
def L6:List V->T (V × List Blk)
 | [v]=>apB v λn p=>.br (Dv n) (.leaf (.ref 0,[.row 3 1 n λk=>iV (Ay p n k)])) .fail
 | _=>.fail
theorem AdN (n:Nat) (p:Nat->Bool):Ck (Ib n p) [(1,iV 0)] = Sl n p 0 0 (λ_=>0) (λi=>nth (Ib n p).t i):=by kernel_rfl
theorem Acp (n:Nat) (p:Nat->Bool) (h8:Dv n = true) :
  (Au (Ah tab (cxZ Gl tb0 RQ (NR n p)) Tryz.f91 [VM n p] [])).sem = some (.ref 0,[.row 3 1 n λk=>iV (Ay p n k)]):=by
 have h8':n * 8 <= 140737488355328:=of_decide_eq_true h8
 have hn:n <= 4611686018427387904:=by omega
 have hL:=CK RQ (NR n p)
 have h0:∀ L,(BK RQ (NR n p) 0 (Et L) (Ib n p)).sem = some (F5 n p (ofNat (Aj p n)) n (C8 p n)):=λL=>by
  show (AA (Et L) (PE n p) (n+1) (Ck (Ib n p) [(1,iV 0)])).sem = _
  rw [AdN,<- UD p]
  exact UC L n p h8' n 0 _ (n+1) (by omega) (by omega)
 cases n with
 | zero =>
  rw [<- QT p 0 rfl]
  exact A1 (Ar hL hL) _ (AfO _ _ 0 p _ _ rfl (Ai (h0 _)))
 | succ m =>
  have c0:ilt 0 (ofNat (m+1)) = true:=by rw [show (0:Int) = ofNat 0 from rfl,Cf]; simp
  have e1:wr .i64 (Az (ofNat (m+1)) 1) = ofNat m:=PZ (Nat.le_refl _) hn
  have e2:toN (ofNat m) = m:=rfl
  cases hs:ilt 0 (ofNat (Aj p (m+1))) with
  | false =>
   have hz:Aj p (m+1) = 0:=by simpa [ilt] using hs
   have hw:=A1 (Ar hL hL) _ (AfN _ _ (m+1) p _ _ c0 hs (Ai (h0 _)))
   rw [<- QT p (m+1) hz]
   exact hw
  | true =>
   have hz:0 < Aj p (m+1):=by simpa [ilt] using hs
   have hb:Al (ile 0 (wr .i64 (Az (ofNat (m+1)) 1))) (ilt (wr .i64 (Az (ofNat (m+1)) 1)) (ofNat (m+1))) = true:=by rw [e1]; exact Ap (Nat.lt_succ_self m)
   cases hp:p m with
   | true =>
    have hw:=A1 (Ar hL hL) _ (AfM _ _ (m+1) p _ _ c0 hs hb (by rw [e1,e2]; exact hp) (Ai (h0 _)))
    rw [<- Hc p (m+1) (m+1) (Nat.le_refl _) (λk hk=>by have:=AW p (show k <= m by omega); rw [Bi hp]; omega) (λk h1 h2=>by omega)]
    exact hw
   | false =>
    have h2:=λL j=>Ww L (m+1) p hn hz (m+1) j (m+2) (Nat.le_refl _) (by omega) (λk h1 h2=>by omega)
    rw [show dn (m+1) = ofNat m from rfl,<- e1] at h2
    exact A1 (Ar (Ar hL hL) hL) _ (AfL _ _ _ (m+1) p _ (C8 p (m+1)) 0 (Ay p (m+1)) c0 hs hb (by rw [e1,e2]; exact hp) (Ai (h0 _)) (Ai (h2 _ _)))
theorem AmW:A6 Tryz.prog Gl 91 L6:=by
 refine Av AI mixed Tryz.func91 (by kernel_rfl) (by kernel_rfl) λvs v h' h=>?_
 unfold L6 at h
 split at h
 ·rename_i u
  obtain ⟨n,p,ha,h1⟩:=AbQ h
  obtain ⟨h8,hq⟩:=Ad h1
  have:=Ac hq
  simp only [Prod.mk.injEq] at this
  obtain ⟨rfl,rfl⟩:=this
  have hA:Bm [u] [VM n p]:=λS w cs hv=>by
   obtain ⟨c,l,rfl,q1,q2⟩:=hv
   exact ⟨c,l,rfl,ha S w c q1,q2⟩
  have hx:=Hx Dn RQ (NR n p)
  exact ⟨_,cxZ Gl tb0 RQ (NR n p),_,hA,rfl,hx.1,hx.2,Acp n p h8,A0.refl _⟩
 ·cases h
theorem E0 {n:Nat}:Bk [.row 3 1 n (λ_=>iV 0)] = true:=by
 simp [Bk,JN,iV]
noncomputable def Ug:List (Nat × (List V->T (V × List Blk))):=(67,BE λe=>bV (Ax e)) :: (68,BE λe=>bV (Aw e)) :: (91,L6) :: []
theorem Wa:A8 Tryz.prog Gl Ug:=.cons p60 <| .cons p61 <| .cons AmW .nil
def Jd (p:Nat->Bool) (i k:Nat):Bool:=decide (k < i) && p k
theorem ZJ (p:Nat->Bool):Jd p 0 = λ_=>false:=by
 funext k
 simp [Jd]
theorem P3 (p:Nat->Bool) (i:Nat):A2 i (λk=>bV (Jd p i k)) (bV (p i)) = λk=>bV (Jd p (i+1) k):=by
 funext k
 rw [Bl,show Nat.beq k i = decide (k = i) by rw [Bool.eq_iff_iff]; simp]
 unfold Jd
 by_cases h:k = i
 ·subst h; simp
 ·by_cases h2:k < i
  ·have:k < i+1:=by omega
   simp [h,h2,this]
  ·have:¬ k < i+1:=by omega
   simp [h,h2,this]
theorem D3 {p q:Nat->Bool}:∀ k,(∀ i,i < k->q i = p i)->Aj q k = Aj p k
 | 0,_=>rfl
 | k+1,h=>by
  rw [Aj,Aj,h k (Nat.lt_succ_self k),D3 k λi hi=>h i (by omega)]
theorem NG (p:Nat->Bool) (n:Nat):Ay (Jd p n) n = Ay p n:=by
 have hq:∀ i,i < n->Jd p n i = p i:=λi hi=>by simp [Jd,hi]
 funext k
 unfold Ay
 by_cases h:k < n
 ·rw [D3 k λi hi=>hq i (by omega),D3 n hq]
 ·simp [h]
theorem Hs {n:Nat} (h:Be n = true):n * 8 <= 140737488355328:=of_decide_eq_true (EP h)
def SM (n:Nat) (f:Nat->E6):Lp:=⟨(bmK 21 0 [0,3,4]),2,bmK 21 0 [3],2,n+1⟩
def AcA (n:Nat) (f:Nat->E6) (i:Nat) (h:Nat->Bool) (j:Nat->V):St:=⟨(jsV 21 0 j [(0,.sl 6 n (λi=>eV (f i))),(3,.ref 1),(4,nV i)]),[.row 3 1 0 (λ_=>.und),.row 4 1 i (λk=>bV (h k))]⟩
def Xh (n:Nat) (f:Nat->E6) (i:Nat) (h:Nat->Bool):Ex × St:=(.ex 0,⟨(jsV 21 0 (λ_=>.und) [(3,.ref 1)]),[.row 3 1 0 (λ_=>.und),.row 4 1 i (λk=>bV (h k))]⟩)
noncomputable def LZ (L:LT):St->T (Ex × St):=λst=>AD tab ⟨Ak Ug,L,Gl⟩ (As Tryz.f69 0) 0 st
section
variable (L:LT) (n:Nat) (f:Nat->E6) (i:Nat) (h:Nat->Bool)  (j:Nat->V)
include L n f i h j
theorem AkB (h0:ilt (ofNat i) (ofNat n) = false):Ag (LZ L) (SM n f) (AcA n f i h j) = some ((.ex 0),⟨(jsV 21 0 (λ_=>.und) [(3,(.ref 1))]),[r3Z,(.row 4 1 i (λk=>(bV (h k))))]⟩):=by
 exact Aa (ks:=[kn h0]) (by kernel_rfl)
theorem AkA (h0:ilt (ofNat i) (ofNat n) = true) (h1:Al (ile 0 (ofNat i)) (ilt (ofNat i) (ofNat n)) = true) (h2:Bx i 1 1 = true):Ag (LZ L) (SM n f) (AcA n f i h j) = some (.nm,⟨(jsV 21 0 (λ_=>.und) [(0,(.sl 6 n (λi=>(eV (f i))))),(3,(.ref 1)),(4,(iV (wr .i64 (Af (ofNat i) 1))))]),[r3Z,(.row 4 1 (Bd i 1) (A2 i (λk=>(bV (h k))) (bV (Ax (f i)))))]⟩):=by
 exact Aa (ks:=[kn h0,kn h1,kn h2]) (by kernel_rfl)
end
def Tw (n:Nat) (f:Nat->E6) :St:=⟨(jsV 21 0 (λ_=>A7) [(0,(.sl 6 n (λi=>eV (f i)))),(2,(.ref 0)),(3,(.ref 1)),(4,(iV 0))]),[r3Z,.row 4 1 0 (λ_=>.und)]⟩
theorem AlK (L:LT) (p0:PT) (n:Nat) (f:Nat->E6) (q:Nat->Bool) (h0:Dv n = true) (h10:Bk [.row 3 1 n (λ_=>iV 0)] = true) (hp0:p0 (LZ (onP 0 p0 (Xh n f n q) L)) (Tw n f) = true):(Au (Ah tab ⟨Ak Ug,(onP 0 p0 (Xh n f n q) L),Gl⟩ Tryz.f69 [A5 n f] [])).sem = some ((.ref 0),[(.row 3 1 n (λk=>(iV (Ay q n k))))]):=by
 exact Aa (ks:=[kn hp0,kL n,kn h0,kn h10]) (by kernel_rfl)
theorem Aep (L:LT) (n:Nat) (f:Nat->E6) (h8:n * 8 <= 140737488355328):∀ (e i:Nat) (j:Nat->V) (q:Nat),n = i+e->e < q ->
  (AA (LZ L) (SM n f) q (AcA n f i (Jd (λk=>Ax (f k)) i) j)).sem = some (Xh n f n (Jd (λk=>Ax (f k)) n))
 | 0,i,j,q+1,h,_=>by
  have:n = i:=by omega
  subst this
  exact Ab (AkB L n f _ _ j (A9 (Nat.le_refl _)))
 | e+1,i,j,q+1,h,h2=>by
  have hl:i < n:=by omega
  have ha:Bx i 1 1 = true:=BM (by omega)
  rw [Ab (AkA L n f i (Jd (λk=>Ax (f k)) i) j (ofNat_lt hl) (Ap hl) ha),Aq,An hl (by omega)]
  have:=P3 (λk=>Ax (f k)) i
  rw [this]
  exact Aep L n f h8 e (i+1) (λ_=>.und) q (by omega) (by omega)
def Acb:List (Nat × List (Nat × V)):=[(0,[(1,bV false)])]
theorem Aiw (n:Nat) (f:Nat->E6):Ck (Tw n f) [(1,bV false)] = AcA n f 0 (λ_=>false) (λi=>nth (Tw n f).t i):=by kernel_rfl
def QV:List V->T (V × List Blk):=Gt λn f=>.br (Be n) (.leaf (.ref 0,[.row 3 1 n λk=>iV (Ay (λk=>Ax (f k)) n k)])) .fail
theorem p94:A6 Tryz.prog Gl 69 QV:=by
 refine Av AI mixed Tryz.func69 (by kernel_rfl) (by kernel_rfl) λvs v h' h=>?_
 obtain ⟨n,f,ha,h1⟩:=C2 h
 obtain ⟨hn,hq⟩:=Ad h1
 have:=Ac hq
 simp only [Prod.mk.injEq] at this
 obtain ⟨rfl,rfl⟩:=this
 have hx:=Hx Wa Acb [(0,SM n f)]
 have hL:=CK Acb [(0,SM n f)]
 have h0:∀ L,(BK Acb [(0,SM n f)] 0 (LZ L) (Tw n f)).sem = some (Xh n f n (Jd (λk=>Ax (f k)) n)):=λL=>by
  show (AA (LZ L) (SM n f) (n+1) (Ck (Tw n f) [(1,bV false)])).sem = _
  rw [Aiw,<- ZJ (λk=>Ax (f k))]
  exact Aep L n f (Hs hn) n 0 _ (n+1) (by omega) (by omega)
 have hw:=A1 (Ar hL hL) _ (AlK _ _ n f _ (EP hn) E0 (Ai (h0 _)))
 rw [NG (λk=>Ax (f k)) n] at hw
 exact ⟨_,cxZ Gl Ug Acb [(0,SM n f)],_,ha,rfl,hx.1,hx.2,hw,A0.refl _⟩
def lp95 (n:Nat) (f:Nat->E6):Lp:=⟨(bmK 21 0 [0,3,4]),2,bmK 21 0 [3],2,n+1⟩
def st95 (n:Nat) (f:Nat->E6) (i:Nat) (h:Nat->Bool) (j:Nat->V):St:=⟨(jsV 21 0 j [(0,.sl 6 n (λi=>eV (f i))),(3,.ref 1),(4,nV i)]),[.row 3 1 0 (λ_=>.und),.row 4 1 i (λk=>bV (h k))]⟩
def Xg (n:Nat) (f:Nat->E6) (i:Nat) (h:Nat->Bool):Ex × St:=(.ex 0,⟨(jsV 21 0 (λ_=>.und) [(3,.ref 1)]),[.row 3 1 0 (λ_=>.und),.row 4 1 i (λk=>bV (h k))]⟩)
noncomputable def body95 (L:LT):St->T (Ex × St):=λst=>AD tab ⟨Ak Ug,L,Gl⟩ (As Tryz.f70 0) 0 st
section
variable (L:LT) (n:Nat) (f:Nat->E6) (i:Nat) (h:Nat->Bool)  (j:Nat->V)
include L n f i h j
theorem Ak9 (h0:ilt (ofNat i) (ofNat n) = false):Ag (body95 L) (lp95 n f) (st95 n f i h j) = some ((.ex 0),⟨(jsV 21 0 (λ_=>.und) [(3,(.ref 1))]),[r3Z,(.row 4 1 i (λk=>(bV (h k))))]⟩):=by
 exact Aa (ks:=[kn h0]) (by kernel_rfl)
theorem Ak8 (h0:ilt (ofNat i) (ofNat n) = true) (h1:Al (ile 0 (ofNat i)) (ilt (ofNat i) (ofNat n)) = true) (h2:Bx i 1 1 = true):Ag (body95 L) (lp95 n f) (st95 n f i h j) = some (.nm,⟨(jsV 21 0 (λ_=>.und) [(0,(.sl 6 n (λi=>(eV (f i))))),(3,(.ref 1)),(4,(iV (wr .i64 (Af (ofNat i) 1))))]),[r3Z,(.row 4 1 (Bd i 1) (A2 i (λk=>(bV (h k))) (bV (Aw (f i)))))]⟩):=by
 exact Aa (ks:=[kn h0,kn h1,kn h2]) (by kernel_rfl)
end
def Tv (n:Nat) (f:Nat->E6) :St:=⟨(jsV 21 0 (λ_=>A7) [(0,(.sl 6 n (λi=>eV (f i)))),(2,(.ref 0)),(3,(.ref 1)),(4,(iV 0))]),[r3Z,.row 4 1 0 (λ_=>.und)]⟩
theorem AlJ (L:LT) (p0:PT) (n:Nat) (f:Nat->E6) (q:Nat->Bool) (h0:Dv n = true) (h10:Bk [.row 3 1 n (λ_=>iV 0)] = true) (hp0:p0 (body95 (onP 0 p0 (Xg n f n q) L)) (Tv n f) = true):(Au (Ah tab ⟨Ak Ug,(onP 0 p0 (Xg n f n q) L),Gl⟩ Tryz.f70 [A5 n f] [])).sem = some ((.ref 0),[(.row 3 1 n (λk=>(iV (Ay q n k))))]):=by
 exact Aa (ks:=[kn hp0,kL n,kn h0,kn h10]) (by kernel_rfl)
theorem run95 (L:LT) (n:Nat) (f:Nat->E6) (h8:n * 8 <= 140737488355328):∀ (e i:Nat) (j:Nat->V) (q:Nat),n = i+e->e < q ->
  (AA (body95 L) (lp95 n f) q (st95 n f i (Jd (λk=>Aw (f k)) i) j)).sem = some (Xg n f n (Jd (λk=>Aw (f k)) n))
 | 0,i,j,q+1,h,_=>by
  have:n = i:=by omega
  subst this
  exact Ab (Ak9 L n f _ _ j (A9 (Nat.le_refl _)))
 | e+1,i,j,q+1,h,h2=>by
  have hl:i < n:=by omega
  have ha:Bx i 1 1 = true:=BM (by omega)
  rw [Ab (Ak8 L n f i (Jd (λk=>Aw (f k)) i) j (ofNat_lt hl) (Ap hl) ha),Aq,An hl (by omega)]
  have:=P3 (λk=>Aw (f k)) i
  rw [this]
  exact run95 L n f h8 e (i+1) (λ_=>.und) q (by omega) (by omega)
def Aca:List (Nat × List (Nat × V)):=[(0,[(1,bV false)])]
theorem Aiv (n:Nat) (f:Nat->E6):Ck (Tv n f) [(1,bV false)] = st95 n f 0 (λ_=>false) (λi=>nth (Tv n f).t i):=by kernel_rfl
def QU:List V->T (V × List Blk):=Gt λn f=>.br (Be n) (.leaf (.ref 0,[.row 3 1 n λk=>iV (Ay (λk=>Aw (f k)) n k)])) .fail
theorem p95:A6 Tryz.prog Gl 70 QU:=by
 refine Av AI mixed Tryz.func70 (by kernel_rfl) (by kernel_rfl) λvs v h' h=>?_
 obtain ⟨n,f,ha,h1⟩:=C2 h
 obtain ⟨hn,hq⟩:=Ad h1
 have:=Ac hq
 simp only [Prod.mk.injEq] at this
 obtain ⟨rfl,rfl⟩:=this
 have hx:=Hx Wa Aca [(0,lp95 n f)]
 have hL:=CK Aca [(0,lp95 n f)]
 have h0:∀ L,(BK Aca [(0,lp95 n f)] 0 (body95 L) (Tv n f)).sem = some (Xg n f n (Jd (λk=>Aw (f k)) n)):=λL=>by
  show (AA (body95 L) (lp95 n f) (n+1) (Ck (Tv n f) [(1,bV false)])).sem = _
  rw [Aiv,<- ZJ (λk=>Aw (f k))]
  exact run95 L n f (Hs hn) n 0 _ (n+1) (by omega) (by omega)
 have hw:=A1 (Ar hL hL) _ (AlJ _ _ n f _ (EP hn) E0 (Ai (h0 _)))
 rw [NG (λk=>Aw (f k)) n] at hw
 exact ⟨_,cxZ Gl Ug Aca [(0,lp95 n f)],_,ha,rfl,hx.1,hx.2,hw,A0.refl _⟩
noncomputable def tb53:List (Nat × (List V->T (V × List Blk))):=(73,Ale) :: (69,QV) :: (70,QU) :: []
theorem tb53_ok:A8 Tryz.prog Gl tb53:=.cons p98 <| .cons p94 <| .cons p95 .nil
def Ki (g:Nat->(Nat->E6)->Nat->Int):List V->T (V × List Blk):=Gt λn f=>.br (Be n) (match BR n f with
 | true=>.leaf (.tup [.ref 0,iV 0],[.row 3 1 n λk=>iV (g n f k)])
 | false=>.leaf (.tup [.ref 0,iV 30],[.row 3 1 0 λ_=>.und])) .fail
section
variable (L:LT) (n:Nat) (f:Nat->E6)
include L n f
theorem AlY (h0:Ao n = true) (h1:BR n f = true) (h2:Be n = true):(Au (Ah tab ⟨Ak tb53,L,Gl⟩ Tryz.f49 [A5 n f] [])).sem = some ((.tup [(.ref 0),(iV 0)]),[(.row 3 1 n (λk=>(iV (Ay (λk=>(Ax (f k))) n k))))]):=by
 exact Aa (ks:=[kL n,kn h0,kN (kn h1),kL n,kn h2]) (by kernel_rfl)
theorem AlZ (h0:Ao n = true) (h1:BR n f = false):(Au (Ah tab ⟨Ak tb53,L,Gl⟩ Tryz.f49 [A5 n f] [])).sem = some ((.tup [(.ref 0),(iV 30)]),[r3Z]):=by
 exact Aa (ks:=[kL n,kn h0,kN (kn h1)]) (by kernel_rfl)
theorem AlW (h0:Ao n = true) (h1:BR n f = true) (h2:Be n = true):(Au (Ah tab ⟨Ak tb53,L,Gl⟩ Tryz.f50 [A5 n f] [])).sem = some ((.tup [(.ref 0),(iV 0)]),[(.row 3 1 n (λk=>(iV (Ay (λk=>(Aw (f k))) n k))))]):=by
 exact Aa (ks:=[kL n,kn h0,kN (kn h1),kL n,kn h2]) (by kernel_rfl)
theorem AlX (h0:Ao n = true) (h1:BR n f = false):(Au (Ah tab ⟨Ak tb53,L,Gl⟩ Tryz.f50 [A5 n f] [])).sem = some ((.tup [(.ref 0),(iV 30)]),[r3Z]):=by
 exact Aa (ks:=[kL n,kn h0,kN (kn h1)]) (by kernel_rfl)
end
theorem p53:A6 Tryz.prog Gl 49 (Ki λn f=>Ay (λk=>Ax (f k)) n):=by
 refine Av AI mixed Tryz.func49 (by kernel_rfl) (by kernel_rfl) λvs v h' h=>?_
 obtain ⟨n,f,ha,h1⟩:=C2 h
 obtain ⟨hn,hq⟩:=Ad h1
 have hx:=AK tb53_ok []
 have hs:Ao n = true:=AaV (EP hn)
 cases hm:BR n f with
 | true =>
  rw [hm] at hq
  have:=Ac hq
  simp only [Prod.mk.injEq] at this
  obtain ⟨rfl,rfl⟩:=this
  exact ⟨_,AN Gl tb53 [],_,ha,rfl,hx.1,hx.2,AlY _ n f hs hm hn,A0.refl _⟩
 | false =>
  rw [hm] at hq
  have:=Ac hq
  simp only [Prod.mk.injEq] at this
  obtain ⟨rfl,rfl⟩:=this
  exact ⟨_,AN Gl tb53 [],_,ha,rfl,hx.1,hx.2,AlZ _ n f hs hm,A0.refl _⟩
theorem p54:A6 Tryz.prog Gl 50 (Ki λn f=>Ay (λk=>Aw (f k)) n):=by
 refine Av AI mixed Tryz.func50 (by kernel_rfl) (by kernel_rfl) λvs v h' h=>?_
 obtain ⟨n,f,ha,h1⟩:=C2 h
 obtain ⟨hn,hq⟩:=Ad h1
 have hx:=AK tb53_ok []
 have hs:Ao n = true:=AaV (EP hn)
 cases hm:BR n f with
 | true =>
  rw [hm] at hq
  have:=Ac hq
  simp only [Prod.mk.injEq] at this
  obtain ⟨rfl,rfl⟩:=this
  exact ⟨_,AN Gl tb53 [],_,ha,rfl,hx.1,hx.2,AlW _ n f hs hm hn,A0.refl _⟩
 | false =>
  rw [hm] at hq
  have:=Ac hq
  simp only [Prod.mk.injEq] at this
  obtain ⟨rfl,rfl⟩:=this
  exact ⟨_,AN Gl tb53 [],_,ha,rfl,hx.1,hx.2,AlX _ n f hs hm,A0.refl _⟩
end Go.Proofs.YthlojajaenfidaaGreatDoor.Ed
namespace Go.Proofs.YthlojajaenfidaaGreatDoor.Sh
open Go.Sy Ed
open Int (ofNat)
theorem AfW (e:E6):(Au (Ah tab (AN Gl [] []) Tryz.f38 [eV e] [])).sem = (sel (ieq (e).kind 1) (sel (ieq (e).kind 1) (sel (ieq (e).kind 1) (sel (ieq (e).kind 1) (some ((bV true),[])) none) none) none) (sel (ieq (e).kind 1) (sel (ieq (e).kind 1) (sel (ieq (e).kind 1) (some ((bV true),[])) none) none) (sel (ieq (e).kind 1) (sel (ieq (e).kind 1) (some ((bV true),[])) none) (sel (ieq (e).kind 1) (some ((bV true),[])) (sel (ieq (e).kind 2) (sel (ieq (e).kind 2) (sel (ieq (e).kind 2) (sel (ieq (e).kind 2) (some ((bV true),[])) (some (A7,[]))) none) none) (sel (ieq (e).kind 2) (sel (ieq (e).kind 2) (sel (ieq (e).kind 2) (some ((bV true),[])) (some (A7,[]))) none) (sel (ieq (e).kind 2) (sel (ieq (e).kind 2) (some ((bV true),[])) (some (A7,[]))) (sel (ieq (e).kind 2) (some ((bV true),[])) (some ((bV (ieq (e).kind 3)),[])))))))))):=by kernel_rfl
theorem p91:A6 Tryz.prog Gl 38 (BE λe=>bV (Bz e)):=by
 refine A6.congr (AL AI mixed Tryz.func38 (by kernel_rfl) (by kernel_rfl) (Γ:=AN Gl [] []) (AK A8.nil _)) λvs r h=>?_
 obtain ⟨e,rfl,rfl⟩:=BJ h
 refine (AfW e).trans ?_
 rw [O8]
 cases ieq e.kind 1 <;> cases ieq e.kind 2 <;> cases ieq e.kind 3 <;> rfl
noncomputable def Zh:List (Nat × (List V->T (V × List Blk))):=(38,BE λe=>bV (Bz e)) :: []
theorem Wf:A8 Tryz.prog Gl Zh:=.cons p91 .nil
theorem Agc (e:E6):(Au (Ah tab (AN Gl Zh []) Tryz.f13 [eV e] [])).sem = (sel (Bz e) (sel (Bz e) (sel (Bz e) (some ((bV (e).ext),[])) (some ((bV false),[]))) (sel (Bz e) (some (A7,[])) (some ((bV false),[])))) (sel (Bz e) none (sel (Bz e) (some (A7,[])) (some ((bV false),[]))))):=by kernel_rfl
theorem p52:A6 Tryz.prog Gl 13 (BE λe=>bV (Ax e)):=by
 refine A6.congr (AL AI mixed Tryz.func13 (by kernel_rfl) (by kernel_rfl) (Γ:=AN Gl Zh []) (AK Wf _)) λvs r h=>?_
 obtain ⟨e,rfl,rfl⟩:=BJ h
 refine (Agc e).trans ?_
 unfold Ax
 cases Bz e <;> rfl
theorem Agb (e:E6):(Au (Ah tab (AN Gl Zh []) Tryz.f15 [eV e] [])).sem = (sel (AG (Bz e)) (sel (AG (Bz e)) (sel (AG (Bz e)) (sel (AG (Bz e)) (some ((bV (AG (e).same)),[])) (some ((bV false),[]))) (sel (AG (Bz e)) (some (A7,[])) (some ((bV false),[])))) (sel (AG (Bz e)) none (sel (AG (Bz e)) (some (A7,[])) (some ((bV false),[]))))) (sel (AG (Bz e)) none (sel (AG (Bz e)) none (sel (AG (Bz e)) (some (A7,[])) (some ((bV false),[])))))):=by kernel_rfl
theorem p54:A6 Tryz.prog Gl 15 (BE λe=>bV (Aw e)):=by
 refine A6.congr (AL AI mixed Tryz.func15 (by kernel_rfl) (by kernel_rfl) (Γ:=AN Gl Zh []) (AK Wf _)) λvs r h=>?_
 obtain ⟨e,rfl,rfl⟩:=BJ h
 refine (Agb e).trans ?_
 unfold Aw
 cases Bz e <;> rfl
noncomputable def JA (n:Nat) (f:Nat->Int) (x:Int):Int:=match (List.range n).find? λi=>ieq x (f i) with
 | some i=>ofNat i
 | none=>-1
theorem PL {n:Nat} {f:Nat->Int} {x:Int} {i:Nat} (hi:i < n) (h:ieq x (f i) = true) (hb:∀ k,k < i->ieq x (f k) = false):JA n f x = ofNat i:=by
 unfold JA
 have:(List.range n).find? (λi=>ieq x (f i)) = some i:=by
  rw [List.find?_range_eq_some]
  exact ⟨h,by simpa using hi,λj hj=>by rw [hb j hj]; rfl⟩
 rw [this]
theorem Tj {n:Nat} {f:Nat->Int} {x:Int} (h:∀ k,k < n->ieq x (f k) = false):JA n f x = -1:=by
 unfold JA
 have:(List.range n).find? (λi=>ieq x (f i)) = none:=by
  rw [List.find?_eq_none]
  intro k hk
  rw [h k (by simpa using hk)]
  simp
 rw [this]
def NT (n:Nat) (f:Nat->Int) (x:Int):Lp:=⟨(bmK 19 0 [0,1,4,7,8]),0,bmK 19 0 [4],0,n+1⟩
def Q3 (n:Nat) (f:Nat->Int) (x:Int) (b:Nat) (j:Nat->V):St:=⟨(jsV 19 0 j [(0,.sl 1 n λk=>iV (f k)),(1,iV x),(4,iV 0),(7,nV n),(8,nV b)]),[]⟩
def Xi (n:Nat) (f:Nat->Int) (x:Int) (b:Nat):Ex × St:=(.rt,⟨(jsV 19 0 (λ_=>.und) [(4,nV b)]),[]⟩)
def Xj (n:Nat) (f:Nat->Int) (x:Int) (b:Nat):Ex × St:=(.ex 0,⟨(jsV 19 0 (λ_=>.und) [(4,iV 0)]),[]⟩)
noncomputable def Hz (L:LT):St->T (Ex × St):=λst=>AD tab ⟨Ak tb0,L,Gl⟩ (As Tryz.f39 0) 0 st
section
variable (L:LT) (n:Nat) (f:Nat->Int) (x:Int) (b:Nat)  (j:Nat->V)
include L n f x b j
theorem Akg (h0:ilt (ofNat b) (ofNat n) = true) (h11:ile 0 (ofNat b) = true) (h1:ieq x (f b) = false):Ag (Hz L) (NT n f x) (Q3 n f x b j) = some (.nm,⟨(jsV 19 0 (λ_=>.und) [(0,(.sl 1 n (λk=>(iV (f k))))),(1,(iV x)),(4,(iV 0)),(7,(nV n)),(8,(iV (wr .i64 (Af (ofNat b) 1))))]),[]⟩):=by
 exact Aa (ks:=[kn h0,kA (kn h11) (kn h0),kn h1]) (by kernel_rfl)
theorem Akf (h0:ilt (ofNat b) (ofNat n) = true) (h11:ile 0 (ofNat b) = true) (h1:ieq x (f b) = true):Ag (Hz L) (NT n f x) (Q3 n f x b j) = some (.rt,⟨(jsV 19 0 (λ_=>.und) [(4,(nV b))]),[]⟩):=by
 exact Aa (ks:=[kn h0,kA (kn h11) (kn h0),kn h1]) (by kernel_rfl)
theorem Akh (h0:ilt (ofNat b) (ofNat n) = false):Ag (Hz L) (NT n f x) (Q3 n f x b j) = some ((.ex 0),⟨(jsV 19 0 (λ_=>.und) [(4,(iV 0))]),[]⟩):=by
 exact Aa (ks:=[kn h0]) (by kernel_rfl)
end
def Aim (n:Nat) (f:Nat->Int) (x:Int) :Nat->V:=lkV A7 [(6,(.sl 1 n (λk=>iV (f k))))]
theorem AiP (L:LT) (p0:PT) (n:Nat) (f:Nat->Int) (x:Int) (b:Nat)  (hp0:p0 (Hz (onP 0 p0 (Xi n f x b) L)) (Q3 n f x 0 (Aim n f x )) = true):(Au (Ah tab ⟨Ak tb0,(onP 0 p0 (Xi n f x b) L),Gl⟩ Tryz.f39 [.sl 1 n λk=>iV (f k),iV x] [])).sem = some ((nV b),[]):=by
 exact Aa (ks:=[kn hp0]) (by kernel_rfl)
theorem AiQ (L:LT) (p0:PT) (n:Nat) (f:Nat->Int) (x:Int)  (hp0:p0 (Hz (onP 0 p0 (Xj n f x 0) L)) (Q3 n f x 0 (Aim n f x )) = true):(Au (Ah tab ⟨Ak tb0,(onP 0 p0 (Xj n f x 0) L),Gl⟩ Tryz.f39 [.sl 1 n λk=>iV (f k),iV x] [])).sem = some ((iV (-1)),[]):=by
 exact Aa (ks:=[kn hp0]) (by kernel_rfl)
theorem Aeq (L:LT) (n:Nat) (f:Nat->Int) (x:Int) (hn:n <= 4611686018427387904):∀ (e i:Nat) (j:Nat->V) (q:Nat),n = i+e->e < q->(∀ k,k < i->ieq x (f k) = false) ->
  ((AA (Hz L) (NT n f x) q (Q3 n f x i j)).sem = some (Xj n f x 0) ∧ JA n f x = -1) ∨ ∃ b,(AA (Hz L) (NT n f x) q (Q3 n f x i j)).sem = some (Xi n f x b) ∧ JA n f x = ofNat b
 | 0,i,j,q+1,h,_,hb=>by
  have:n = i:=by omega
  subst this
  exact .inl ⟨Ab (Akh L n f x n j (A9 (Nat.le_refl _))),Tj hb⟩
 | e+1,i,j,q+1,h,h2,hb=>by
  have hl:i < n:=by omega
  cases hp:ieq x (f i) with
  | true =>
   exact .inr ⟨i,Ab (Akf L n f x i j (ofNat_lt hl) (AE i) hp),PL hl hp hb⟩
  | false =>
   rw [Ab (Akg L n f x i j (ofNat_lt hl) (AE i) hp),Aq,An hl hn]
   refine Aeq L n f x hn e (i+1) (λ_=>.und) q (by omega) (by omega) λk hk=>?_
   by_cases hki:k = i
   ·rw [hki]; exact hp
   ·exact hb k (by omega)
noncomputable def Vj:List V->T (V × List Blk)
 | [v,.val (.int .i64 x)]=>apI v λn f=>.br (Dv n) (.leaf (iV (JA n f x),[])) .fail
 | _=>.fail
theorem p92:A6 Tryz.prog Gl 39 Vj:=by
 refine Av AI mixed Tryz.func39 (by kernel_rfl) (by kernel_rfl) λvs v h' h=>?_
 unfold Vj at h
 split at h
 ·rename_i u x
  obtain ⟨n,f,ha,h1⟩:=GS h
  obtain ⟨h8,hq⟩:=Ad h1
  have:=Ac hq
  simp only [Prod.mk.injEq] at this
  obtain ⟨rfl,rfl⟩:=this
  have h8':n * 8 <= 140737488355328:=of_decide_eq_true h8
  have hA:Bm [u,iV x] [E4 n f,iV x]:=λS w cs hv=>by
   obtain ⟨c,l,rfl,q1,q2⟩:=hv
   exact ⟨c,l,rfl,ha S w c q1,q2⟩
  have hx:=AK Dn [(0,NT n f x)] (G:=Gl)
  have hL:=AF [(0,NT n f x)]
  refine ⟨_,AN Gl tb0 [(0,NT n f x)],_,hA,rfl,hx.1,hx.2,?_,A0.refl _⟩
  have h0:=λL j=>Aeq L n f x (by omega) n 0 j (n+1) (by omega) (by omega) (λk hk=>absurd hk (Nat.not_lt_zero _))
  rcases h0 (AP [(0,NT n f x)]) (Aim n f x) with ⟨_,h5⟩ | ⟨b,_,h5⟩
  ·have h6:∀ L j,(AA (Hz L) (NT n f x) (n+1) (Q3 n f x 0 j)).sem = some (Xj n f x 0):=λL j=>by
    rcases h0 L j with ⟨h,_⟩ | ⟨b,_,h⟩
    ·exact h
    ·rw [h5] at h
     cases h
   rw [h5]
   exact A1 (Ar hL hL) _ (AiQ _ _ n f x (Ai (h6 _ _)))
  ·have h6:∀ L j,(AA (Hz L) (NT n f x) (n+1) (Q3 n f x 0 j)).sem = some (Xi n f x b):=λL j=>by
    rcases h0 L j with ⟨_,h⟩ | ⟨b',h,h'⟩
    ·rw [h5] at h
     cases h
    ·rw [h5] at h'
     cases h'
     exact h
   rw [h5]
   exact A1 (Ar hL hL) _ (AiP _ _ n f x b (Ai (h6 _ _)))
 ·cases h
end Go.Proofs.YthlojajaenfidaaGreatDoor.Sh
