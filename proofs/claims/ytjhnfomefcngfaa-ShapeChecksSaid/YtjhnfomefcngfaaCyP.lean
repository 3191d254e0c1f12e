/-
  The document's parts, threads, locations: the part of each edge. No conditions.
-/
import Derived.Test.YtjhnfomefcngfaaCyO
namespace Go.Proofs.Ytjhnfomefcngfaa.Ed
open Go.Sy
open Int (ofNat)
def Pk (n:Nat) (p:Nat->Bool):Lp:=⟨(bmK 57 0 [0,3,4,5]),2,bmK 57 0 [0,3,4],2,n+1⟩
def Rv (n:Nat) (p:Nat->Bool) (s:Int) (i:Nat) (h:Nat->Int) (j:Nat->V):St:=⟨(jsV 57 0 j [(0,.sl 1 n (fun k=>bV (p k))),(3,.ref 1),(4,iV s),(5,nV i)]),[.row 3 1 0 (fun _=>.und),.row 3 1 i (fun k=>iV (h k))]⟩
def Dz (n:Nat) (p:Nat->Bool) (s:Int) (i:Nat) (h:Nat->Int):Ex × St:=(.ex 0,⟨(jsV 57 0 (fun _=>.und) [(0,.sl 1 n (fun k=>bV (p k))),(3,.ref 1),(4,iV s)]),[.row 3 1 0 (fun _=>.und),.row 3 1 i (fun k=>iV (h k))]⟩)
noncomputable def Dc (L:LT):St->T (Ex × St):=fun st=>AE tab ⟨Ao tb0,L,Gl⟩ (Az Try.f101 0) 0 st
section
variable (L:LT) (n:Nat) (p:Nat->Bool) (s:Int) (i:Nat) (h:Nat->Int)  (j:Nat->V)
include L n p s i h j
theorem Afh (h0:ilt (ofNat i) (ofNat n) = false):Al (Dc L) (Pk n p) (Rv n p s i h j) = some ((.ex 0),⟨(jsV 57 0 (fun _=>.und) [(0,(.sl 1 n (fun k=>bV (p k)))),(3,(.ref 1)),(4,(iV s))]),[r3Z,.row 3 1 i (fun k=>iV (h k))]⟩):=Aa [false] [ilt (ofNat i) (ofNat n)] (by kernel_rfl) (by simp only [h0] <;> rfl)
theorem Aff (h0:ilt (ofNat i) (ofNat n) = true) (h2:AN i 1 8 = true) (h1:Ag (ile 0 (ofNat i)) (ilt (ofNat i) (ofNat n)) = true) (h3:p i = true):Al (Dc L) (Pk n p) (Rv n p s i h j) = some (.nm,⟨(jsV 57 0 (fun _=>.und) [(0,(.sl 1 n (fun k=>bV (p k)))),(3,(.ref 1)),(4,(iV (wr .i64 (Af s 1)))),(5,(iV (wr .i64 (Af (ofNat i) 1))))]),[r3Z,.row 3 1 (Bj i 1) (AO i (fun k=>iV (h k)) (iV s))]⟩):=Aa [true,true,true,true] [ilt (ofNat i) (ofNat n),AN i 1 8,Ag (ile 0 (ofNat i)) (ilt (ofNat i) (ofNat n)),p i] (by kernel_rfl) (by simp only [h1] <;> simp only [*] <;> rfl)
theorem Afg (h0:ilt (ofNat i) (ofNat n) = true) (h2:AN i 1 8 = true) (h1:Ag (ile 0 (ofNat i)) (ilt (ofNat i) (ofNat n)) = true) (h3:p i = false):Al (Dc L) (Pk n p) (Rv n p s i h j) = some (.nm,⟨(jsV 57 0 (fun _=>.und) [(0,(.sl 1 n (fun k=>bV (p k)))),(3,(.ref 1)),(4,(iV s)),(5,(iV (wr .i64 (Af (ofNat i) 1))))]),[r3Z,.row 3 1 (Bj i 1) (AO i (fun k=>iV (h k)) (iV s))]⟩):=Aa [true,true,true,false] [ilt (ofNat i) (ofNat n),AN i 1 8,Ag (ile 0 (ofNat i)) (ilt (ofNat i) (ofNat n)),p i] (by kernel_rfl) (by simp only [h1] <;> simp only [*] <;> rfl)
end
def EZ (n:Nat) (p:Nat->Bool) :St:=⟨(jsV 57 0 (fun _=>A8) [(0,(.sl 1 n (fun k=>bV (p k)))),(2,(.ref 0)),(3,(.ref 1)),(4,(iV 0)),(5,(iV 0))]),[r3Z,r3Z]⟩
def Kt (n:Nat) (p:Nat->Bool):Lp:=⟨(bmK 57 0 [0,3,7]),2,bmK 57 0 [3],2,n+1⟩
def IJ (n:Nat) (p:Nat->Bool) (d:Int) (g:Nat->Int) (j:Nat->V):St:=⟨(jsV 57 0 j [(0,.sl 1 n (fun k=>bV (p k))),(3,.ref 1),(7,iV d)]),[.row 3 1 0 (fun _=>.und),.row 3 1 n (fun k=>iV (g k))]⟩
def GU (n:Nat) (p:Nat->Bool) (d:Int) (g:Nat->Int):Ex × St:=(.ex 2,⟨(jsV 57 0 (fun _=>.und) [(3,.ref 1)]),[.row 3 1 0 (fun _=>.und),.row 3 1 n (fun k=>iV (g k))]⟩)
noncomputable def Fx (L:LT):St->T (Ex × St):=fun st=>AE tab ⟨Ao tb0,L,Gl⟩ (Az Try.f101 2) 2 st
section
variable (L:LT) (n:Nat) (p:Nat->Bool) (d:Int) (g:Nat->Int)  (j:Nat->V)
include L n p d g j
theorem AeK (h0:ile 0 d = false):Al (Fx L) (Kt n p) (IJ n p d g j) = some ((.ex 2),⟨(jsV 57 0 (fun _=>.und) [(3,(.ref 1))]),[r3Z,.row 3 1 n (fun k=>iV (g k))]⟩):=Aa (bbK 7 0) [ile 0 d,ile 0 d,ile 0 d,ile 0 d,ile 0 d,ile 0 d,false] (by kernel_rfl) (by simp only [h0] <;> rfl)
theorem AeJ (h0:ile 0 d = true) (h1:Ag (ile 0 d) (ilt d (ofNat n)) = true) (h3:p (toN d) = true):Al (Fx L) (Kt n p) (IJ n p d g j) = some ((.ex 2),⟨(jsV 57 0 (fun _=>.und) [(3,(.ref 1))]),[r3Z,.row 3 1 n (fun k=>iV (g k))]⟩):=Aa (bbK 8 127) [ile 0 d,ile 0 d,ile 0 d,Ag (ile 0 d) (ilt d (ofNat n)),ile 0 d,ile 0 d,ile 0 d,Am (p (toN d))] (by kernel_rfl) (by simp only [h1] <;> simp only [h0,h3] <;> rfl)
theorem AeI (h0:ile 0 d = true) (h1:Ag (ile 0 d) (ilt d (ofNat n)) = true) (h3:p (toN d) = false) (h2:nlt (toN d) n = true):Al (Fx L) (Kt n p) (IJ n p d g j) = some (.nm,⟨(jsV 57 0 (fun _=>.und) [(0,(.sl 1 n (fun k=>bV (p k)))),(3,(.ref 1)),(7,(iV (wr .i64 (AF d 1))))]),[r3Z,.row 3 1 n (Bs (fun k=>iV (g k)) (toN d) (iV 0))]⟩):=Aa (bbK 10 1023) ((fun c0 c1=>[c0,c0,c0,c1,c0,c0,c0,Am (p (toN d)),c1,nlt (toN d) n]) (ile 0 d) (Ag (ile 0 d) (ilt d (ofNat n)))) (by kernel_rfl) (by simp only [h1] <;> simp only [*] <;> rfl)
end
def Vh (n:Nat) (p:Nat->Bool) (s:Int) (g:Nat->Int):Nat->V:=lkV A8 [(1,.und),(2,.und),(4,(iV s)),(5,.und),(6,(nV n)),(8,.und),(9,.und),(10,.und),(11,.und),(12,.und),(13,.und),(14,.und),(15,.und),(16,.und),(17,.und),(18,.und),(19,.und),(20,.und),(21,.und),(22,.und),(23,.und),(24,(.sl 1 n (fun k=>bV (p k)))),(25,(nV n)),(26,(nV n)),(27,(bV (ilt 0 (ofNat n)))),(28,(bV (ilt 0 (ofNat n)))),(29,(iV s)),(30,(bV (ilt 0 s))),(31,(bV (ilt 0 s))),(32,(bV (ilt 0 s))),(33,(.sl 1 n (fun k=>bV (p k)))),(34,(nV n)),(35,(iV (wr .i64 (AF (ofNat n) 1)))),(36,(.pp (bV (p (toN (wr .i64 (AF (ofNat n) 1))))))),(37,(bV (p (toN (wr .i64 (AF (ofNat n) 1)))))),(38,(bV (Am (p (toN (wr .i64 (AF (ofNat n) 1))))))),(39,(bV (Am (p (toN (wr .i64 (AF (ofNat n) 1))))))),(40,(nV n)),(41,(iV (wr .i64 (AF (ofNat n) 1)))),(42,.und),(43,.und),(44,.und),(45,.und),(46,.und),(47,.und),(48,.und),(49,.und),(50,.und),(51,.und),(52,.und),(53,.und),(54,.und),(55,.und),(56,.und)]
section
variable (L:LT) (p0:PT) (n:Nat) (p:Nat->Bool) (s:Int) (g:Nat->Int)
include L p0 n p s g
theorem Adu (h0:ilt 0 (ofNat n) = false) (hp0:p0 (Dc (onP 0 p0 (Dz n p s n g) L)) (EZ n p) = true):(As (Aj tab ⟨Ao tb0,onP 0 p0 (Dz n p s n g) L,Gl⟩ Try.f101 [.sl 1 n (fun k=>bV (p k))] [])).sem = some ((.ref 0),[.row 3 1 n (fun k=>iV (g k))]):=Aa (bbK 12 1) ((fun c0 c1=>[p0 (Dc (onP 0 p0 (Dz n p s n g) L)) (EZ n p),c0,c0,c0,c1,c1,c1,c1,c1,c1,c1,c1]) (ilt 0 (ofNat n)) (false)) (by kernel_rfl) (by simp only [hp0] <;> simp only [h0] <;> rfl)
theorem Adt (h0:ilt 0 (ofNat n) = true) (h1:ilt 0 s = false) (hp0:p0 (Dc (onP 0 p0 (Dz n p s n g) L)) (EZ n p) = true):(As (Aj tab ⟨Ao tb0,onP 0 p0 (Dz n p s n g) L,Gl⟩ Try.f101 [.sl 1 n (fun k=>bV (p k))] [])).sem = some ((.ref 0),[.row 3 1 n (fun k=>iV (g k))]):=Aa (bbK 12 15) ((fun c0 c1=>[p0 (Dc (onP 0 p0 (Dz n p s n g) L)) (EZ n p),c0,c0,c0,c1,c1,c1,c1,c1,c1,c1,false]) (ilt 0 (ofNat n)) (ilt 0 s)) (by kernel_rfl) (by simp only [hp0] <;> simp only [h0,h1] <;> rfl)
theorem Ads (h0:ilt 0 (ofNat n) = true) (h1:ilt 0 s = true) (h2:Ag (ile 0 (wr .i64 (AF (ofNat n) 1))) (ilt (wr .i64 (AF (ofNat n) 1)) (ofNat n)) = true) (h3:p (toN (wr .i64 (AF (ofNat n) 1))) = true) (hp0:p0 (Dc (onP 0 p0 (Dz n p s n g) L)) (EZ n p) = true):(As (Aj tab ⟨Ao tb0,onP 0 p0 (Dz n p s n g) L,Gl⟩ Try.f101 [.sl 1 n (fun k=>bV (p k))] [])).sem = some ((.ref 0),[.row 3 1 n (fun k=>iV (g k))]):=Aa (bbK 13 4095) ((fun c0 c1=>[p0 (Dc (onP 0 p0 (Dz n p s n g) L)) (EZ n p),c0,c0,c0,c1,c1,c1,c1,Ag (ile 0 (wr .i64 (AF (ofNat n) 1))) (ilt (wr .i64 (AF (ofNat n) 1)) (ofNat n)),c1,c1,c1,Am (p (toN (wr .i64 (AF (ofNat n) 1))))]) (ilt 0 (ofNat n)) (ilt 0 s)) (by kernel_rfl) (by simp only [hp0] <;> simp only [h2] <;> simp only [*] <;> rfl)
end
theorem Adr (L:LT) (p0:PT) (p2:PT) (n:Nat) (p:Nat->Bool) (s:Int) (g:Nat->Int) (d:Int) (u:Nat->Int) (h0:ilt 0 (ofNat n) = true) (h1:ilt 0 s = true) (h2:Ag (ile 0 (wr .i64 (AF (ofNat n) 1))) (ilt (wr .i64 (AF (ofNat n) 1)) (ofNat n)) = true) (h3:p (toN (wr .i64 (AF (ofNat n) 1))) = false) (hp0:p0 (Dc (onP 0 p0 (Dz n p s n g) (onP 2 p2 (GU n p d u) L))) (EZ n p) = true) (hp2:p2 (Fx (onP 0 p0 (Dz n p s n g) (onP 2 p2 (GU n p d u) L))) (IJ n p (wr .i64 (AF (ofNat n) 1)) g (Vh n p s g)) = true):(As (Aj tab ⟨Ao tb0,onP 0 p0 (Dz n p s n g) (onP 2 p2 (GU n p d u) L),Gl⟩ Try.f101 [.sl 1 n (fun k=>bV (p k))] [])).sem = some ((.ref 0),[.row 3 1 n (fun k=>iV (u k))]):=Aa (bbK 14 16383) ((fun c0 c1=>[p0 (Dc (onP 0 p0 (Dz n p s n g) (onP 2 p2 (GU n p d u) L))) (EZ n p),c0,c0,c0,c1,c1,c1,c1,Ag (ile 0 (wr .i64 (AF (ofNat n) 1))) (ilt (wr .i64 (AF (ofNat n) 1)) (ofNat n)),c1,c1,c1,Am (p (toN (wr .i64 (AF (ofNat n) 1)))),p2 (Fx (onP 0 p0 (Dz n p s n g) (onP 2 p2 (GU n p d u) L))) (IJ n p (wr .i64 (AF (ofNat n) 1)) g (Vh n p s g))]) (ilt 0 (ofNat n)) (ilt 0 s)) (by kernel_rfl) (by simp only [hp0,hp2] <;> simp only [h2] <;> simp only [*] <;> rfl)
theorem RA (p:Nat->Bool) (i:Nat):AO i (fun k=>iV (CL p i k)) (iV (ofNat (Ak p i))) = fun k=>iV (CL p (i+1) k):=by
  funext k
  rw [B4,show Nat.beq k i = decide (k = i) by rw [Bool.eq_iff_iff]; simp]
  unfold CL
  by_cases h:k = i
  · subst h; simp
  · by_cases h2:k < i
    · have:k < i+1:=by omega
      simp [h,h2,this]
    · have:¬ k < i+1:=by omega
      simp [h,h2,this]
theorem Bg {p:Nat->Bool} {i:Nat} (h:p i = true):Ak p (i+1) = Ak p i+1:=by rw [Ak,h]
theorem Bv {p:Nat->Bool} {i:Nat} (h:p i = false):Ak p (i+1) = Ak p i:=by rw [Ak,h]
theorem T6 (L:LT) (n:Nat) (p:Nat->Bool) (h8:n * 8 <= 140737488355328):∀ (e i:Nat) (j:Nat->V) (q:Nat),n = i+e->e < q ->
    (A7 (Dc L) (Pk n p) q (Rv n p (ofNat (Ak p i)) i (CL p i) j)).sem = some (Dz n p (ofNat (Ak p n)) n (CL p n))
  | 0,i,j,q+1,h,_=>by
    have:n = i:=by omega
    subst this
    exact Ac (Afh L n p _ _ _ j (AA (Nat.le_refl _)))
  | e+1,i,j,q+1,h,h2=>by
    have hc:=Be p i
    have hl:i < n:=by omega
    have ha:AN i 1 8 = true:=C6 (by omega)
    cases hp:p i with
    | true =>
      rw [Ac (Aff L n p (ofNat (Ak p i)) i (CL p i) j (ofNat_lt hl) ha (Ax hl) hp),Av,Aq hl (by omega),Aq (show Ak p i < n by omega) (by omega),<- Bg hp,RA p i]
      exact T6 L n p h8 e (i+1) (fun _=>.und) q (by omega) (by omega)
    | false =>
      rw [Ac (Afg L n p (ofNat (Ak p i)) i (CL p i) j (ofNat_lt hl) ha (Ax hl) hp),Av,Aq hl (by omega),RA p i,<- Bv hp]
      exact T6 L n p h8 e (i+1) (fun _=>.und) q (by omega) (by omega)
theorem UD (L:LT) (n:Nat) (p:Nat->Bool) (hn:n <= 4611686018427387904) (hs:0 < Ak p n):∀ (D:Nat) (j:Nat->V) (q:Nat),D <= n->D < q->(∀ k,D <= k->k < n->Ak p k = Ak p n) ->
    (A7 (Fx L) (Kt n p) q (IJ n p (dn D) (CL p D) j)).sem = some (GU n p 0 (A0 p n))
  | 0,j,q+1,h,_,hb=>by
    rw [<- Hn p n 0 h (fun k hk=>absurd hk (Nat.not_lt_zero _)) hb]
    exact Ac (AeK L n p (dn 0) (CL p 0) j rfl)
  | D+1,j,q+1,h,h2,hb=>by
    have hD:D < n:=by omega
    have hk:nlt D n = true:=by simpa [nlt] using hD
    cases hp:p D with
    | false =>
      have he:Ak p D = Ak p n:=by
        rw [<- Bv hp]
        by_cases h5:D+1 = n
        · rw [h5]
        · exact hb (D+1) (Nat.le_refl _) (by omega)
      rw [show dn (D+1) = ofNat D from rfl,Ac (AeI L n p (ofNat D) (CL p (D+1)) j (AH D) (Ax hD) hp hk),Av,Py (show D <= n by omega) hn,Co,show toN (ofNat D) = D from rfl,KI]
      exact UD L n p hn hs D (fun _=>.und) q (by omega) (by omega) fun k h3 h4=>by
        by_cases h5:k = D
        · subst h5; exact he
        · exact hb k (by omega) h4
    | true =>
      have h6:Ak p D < Ak p n:=by
        have:=Bb p (show D+1 <= n by omega)
        rw [Bg hp] at this
        omega
      rw [<- Hn p n (D+1) h (fun k hk=>by have:=Bb p (show k <= D by omega); omega) hb]
      rw [show dn (D+1) = ofNat D from rfl]
      exact Ac (AeJ L n p (ofNat D) (CL p (D+1)) j (AH D) (Ax hD) hp)
def Rh:List (Nat × List (Nat × V)):=[(0,[(1,iV 0)])]
def Nx (n:Nat) (p:Nat->Bool):List (Nat × Lp):=[(0,Pk n p),(2,Kt n p)]
def KU:List V->T (V × List Blk)
  | [v]=>apB v fun n p=>.br (BL n) (.leaf (.ref 0,[.row 3 1 n fun k=>iV (A0 p n k)])) .fail
  | _=>.fail
theorem Ab6 (n:Nat) (p:Nat->Bool):CT (EZ n p) [(1,iV 0)] = Rv n p 0 0 (fun _=>0) (fun i=>nth (EZ n p).t i):=by kernel_rfl
theorem ZQ (n:Nat) (p:Nat->Bool) (h8:BL n = true) :
    (As (Aj tab (cxZ Gl tb0 Rh (Nx n p)) Try.f101 [Uk n p] [])).sem = some (.ref 0,[.row 3 1 n fun k=>iV (A0 p n k)]):=by
  have h8':n * 8 <= 140737488355328:=of_decide_eq_true h8
  have hn:n <= 4611686018427387904:=by omega
  have hL:=DS Rh (Nx n p)
  have h0:∀ L,(CG Rh (Nx n p) 0 (Dc L) (EZ n p)).sem = some (Dz n p (ofNat (Ak p n)) n (CL p n)):=fun L=>by
    show (A7 (Dc L) (Pk n p) (n+1) (CT (EZ n p) [(1,iV 0)])).sem = _
    rw [Ab6,<- T7 p]
    exact T6 L n p h8' n 0 _ (n+1) (by omega) (by omega)
  cases n with
  | zero =>
    rw [<- PZ p 0 rfl]
    exact A3 (Aw hL hL) _ (Adu _ _ 0 p _ _ rfl (An (h0 _)))
  | succ m =>
    have c0:ilt 0 (ofNat (m+1)) = true:=by rw [show (0:Int) = ofNat 0 from rfl,CB]; simp
    have e1:wr .i64 (AF (ofNat (m+1)) 1) = ofNat m:=Py (Nat.le_refl _) hn
    have e2:toN (ofNat m) = m:=rfl
    cases hs:ilt 0 (ofNat (Ak p (m+1))) with
    | false =>
      have hz:Ak p (m+1) = 0:=by simpa [ilt] using hs
      have hw:=A3 (Aw hL hL) _ (Adt _ _ (m+1) p _ _ c0 hs (An (h0 _)))
      rw [<- PZ p (m+1) hz]
      exact hw
    | true =>
      have hz:0 < Ak p (m+1):=by simpa [ilt] using hs
      have hb:Ag (ile 0 (wr .i64 (AF (ofNat (m+1)) 1))) (ilt (wr .i64 (AF (ofNat (m+1)) 1)) (ofNat (m+1))) = true:=by rw [e1]; exact Ax (Nat.lt_succ_self m)
      cases hp:p m with
      | true =>
        have hw:=A3 (Aw hL hL) _ (Ads _ _ (m+1) p _ _ c0 hs hb (by rw [e1,e2]; exact hp) (An (h0 _)))
        rw [<- Hn p (m+1) (m+1) (Nat.le_refl _) (fun k hk=>by have:=Bb p (show k <= m by omega); rw [Bg hp]; omega) (fun k h1 h2=>by omega)]
        exact hw
      | false =>
        have h2:=fun L j=>UD L (m+1) p hn hz (m+1) j (m+2) (Nat.le_refl _) (by omega) (fun k h1 h2=>by omega)
        rw [show dn (m+1) = ofNat m from rfl,<- e1] at h2
        exact A3 (Aw (Aw hL hL) hL) _ (Adr _ _ _ (m+1) p _ (CL p (m+1)) 0 (A0 p (m+1)) c0 hs hb (by rw [e1,e2]; exact hp) (An (h0 _)) (An (h2 _ _)))
theorem Akx:AB Try.prog Gl 101 KU:=by
  refine A1 AQ AR Try.func101 (by kernel_rfl) (by kernel_rfl) fun vs v h' h=>?_
  unfold KU at h
  split at h
  · rename_i u
    obtain ⟨n,p,ha,h1⟩:=Z3 h
    obtain ⟨h8,hq⟩:=Ah h1
    have:=Ad hq
    simp only [Prod.mk.injEq] at this
    obtain ⟨rfl,rfl⟩:=this
    have hA:Bw [u] [Uk n p]:=fun S w cs hv=>by
      obtain ⟨c,l,rfl,q1,q2⟩:=hv
      exact ⟨c,l,rfl,ha S w c q1,q2⟩
    have hx:=JL CW Rh (Nx n p)
    exact ⟨_,cxZ Gl tb0 Rh (Nx n p),_,hA,rfl,hx.1,hx.2,ZQ n p h8,A6.refl _⟩
  · cases h
theorem Cc {n:Nat}:AW [.row 3 1 n (fun _=>iV 0)] = true:=by
  simp [AW,L6,iV]
noncomputable def Ti:List (Nat × (List V->T (V × List Blk))):=(22,BN fun e=>bV (Ay e)) :: (23,BN fun e=>bV (Au e)) :: (101,KU) :: []
theorem Uv:AC Try.prog Gl Ti:=.cons p60 <| .cons p61 <| .cons Akx .nil
def Js (p:Nat->Bool) (i k:Nat):Bool:=decide (k < i) && p k
theorem XQ (p:Nat->Bool):Js p 0 = fun _=>false:=by
  funext k
  simp [Js]
theorem OW (p:Nat->Bool) (i:Nat):AO i (fun k=>bV (Js p i k)) (bV (p i)) = fun k=>bV (Js p (i+1) k):=by
  funext k
  rw [B4,show Nat.beq k i = decide (k = i) by rw [Bool.eq_iff_iff]; simp]
  unfold Js
  by_cases h:k = i
  · subst h; simp
  · by_cases h2:k < i
    · have:k < i+1:=by omega
      simp [h,h2,this]
    · have:¬ k < i+1:=by omega
      simp [h,h2,this]
theorem DJ {p q:Nat->Bool}:∀ k,(∀ i,i < k->q i = p i)->Ak q k = Ak p k
  | 0,_=>rfl
  | k+1,h=>by
    rw [Ak,Ak,h k (Nat.lt_succ_self k),DJ k fun i hi=>h i (by omega)]
theorem Nl (p:Nat->Bool) (n:Nat):A0 (Js p n) n = A0 p n:=by
  have hq:∀ i,i < n->Js p n i = p i:=fun i hi=>by simp [Js,hi]
  funext k
  unfold A0
  by_cases h:k < n
  · rw [DJ k fun i hi=>hq i (by omega),DJ n hq]
  · simp [h]
theorem H3 {n:Nat} (h:AL n = true):n * 8 <= 140737488355328:=of_decide_eq_true (EY h)
def RM (n:Nat) (f:Nat->E6):Lp:=⟨(bmK 21 0 [0,3,4]),2,bmK 21 0 [3],2,n+1⟩
def Aao (n:Nat) (f:Nat->E6) (i:Nat) (h:Nat->Bool) (j:Nat->V):St:=⟨(jsV 21 0 j [(0,.sl 6 n (fun i=>eV (f i))),(3,.ref 1),(4,nV i)]),[.row 3 1 0 (fun _=>.und),.row 4 1 i (fun k=>bV (h k))]⟩
def S9 (n:Nat) (f:Nat->E6) (i:Nat) (h:Nat->Bool):Ex × St:=(.ex 0,⟨(jsV 21 0 (fun _=>.und) [(3,.ref 1)]),[.row 3 1 0 (fun _=>.und),.row 4 1 i (fun k=>bV (h k))]⟩)
noncomputable def JP (L:LT):St->T (Ex × St):=fun st=>AE tab ⟨Ao Ti,L,Gl⟩ (Az Try.f66 0) 0 st
section
variable (L:LT) (n:Nat) (f:Nat->E6) (i:Nat) (h:Nat->Bool)  (j:Nat->V)
include L n f i h j
theorem AhV (h0:ilt (ofNat i) (ofNat n) = false):Al (JP L) (RM n f) (Aao n f i h j) = some ((.ex 0),⟨(jsV 21 0 (fun _=>.und) [(3,(.ref 1))]),[r3Z,.row 4 1 i (fun k=>bV (h k))]⟩):=Aa [false] [ilt (ofNat i) (ofNat n)] (by kernel_rfl) (by simp only [h0] <;> rfl)
theorem AhU (h0:ilt (ofNat i) (ofNat n) = true) (h1:Ag (ile 0 (ofNat i)) (ilt (ofNat i) (ofNat n)) = true) (h2:AN i 1 1 = true):Al (JP L) (RM n f) (Aao n f i h j) = some (.nm,⟨(jsV 21 0 (fun _=>.und) [(0,(.sl 6 n (fun i=>eV (f i)))),(3,(.ref 1)),(4,(iV (wr .i64 (Af (ofNat i) 1))))]),[r3Z,.row 4 1 (Bj i 1) (AO i (fun k=>bV (h k)) (bV (Ay (f i))))]⟩):=Aa [true,true,true] [ilt (ofNat i) (ofNat n),Ag (ile 0 (ofNat i)) (ilt (ofNat i) (ofNat n)),AN i 1 1] (by kernel_rfl) (by simp only [h1] <;> simp only [h0,h2] <;> rfl)
end
def Pw (n:Nat) (f:Nat->E6) :St:=⟨(jsV 21 0 (fun _=>A8) [(0,(.sl 6 n (fun i=>eV (f i)))),(2,(.ref 0)),(3,(.ref 1)),(4,(iV 0))]),[r3Z,.row 4 1 0 (fun _=>.und)]⟩
theorem AiZ (L:LT) (p0:PT) (n:Nat) (f:Nat->E6) (q:Nat->Bool) (h0:BL n = true) (h10:AW [.row 3 1 n (fun _=>iV 0)] = true) (hp0:p0 (JP (onP 0 p0 (S9 n f n q) L)) (Pw n f) = true):(As (Aj tab ⟨Ao Ti,onP 0 p0 (S9 n f n q) L,Gl⟩ Try.f66 [A2 n f] [])).sem = some ((.ref 0),[.row 3 1 n (fun k=>iV (A0 q n k))]):=Aa [true,true,true,true] [p0 (JP (onP 0 p0 (S9 n f n q) L)) (Pw n f),Ai n (fun _=>true),BL n,AW [.row 3 1 n (fun _=>iV 0)]] (by kernel_rfl) (by simp only [hp0] <;> simp only [h0,h10,Ar,Cc] <;> rfl)
theorem AbR (L:LT) (n:Nat) (f:Nat->E6) (h8:n * 8 <= 140737488355328):∀ (e i:Nat) (j:Nat->V) (q:Nat),n = i+e->e < q ->
    (A7 (JP L) (RM n f) q (Aao n f i (Js (fun k=>Ay (f k)) i) j)).sem = some (S9 n f n (Js (fun k=>Ay (f k)) n))
  | 0,i,j,q+1,h,_=>by
    have:n = i:=by omega
    subst this
    exact Ac (AhV L n f _ _ j (AA (Nat.le_refl _)))
  | e+1,i,j,q+1,h,h2=>by
    have hl:i < n:=by omega
    have ha:AN i 1 1 = true:=C6 (by omega)
    rw [Ac (AhU L n f i (Js (fun k=>Ay (f k)) i) j (ofNat_lt hl) (Ax hl) ha),Av,Aq hl (by omega)]
    have:=OW (fun k=>Ay (f k)) i
    rw [this]
    exact AbR L n f h8 e (i+1) (fun _=>.und) q (by omega) (by omega)
def ZC:List (Nat × List (Nat × V)):=[(0,[(1,bV false)])]
theorem AfH (n:Nat) (f:Nat->E6):CT (Pw n f) [(1,bV false)] = Aao n f 0 (fun _=>false) (fun i=>nth (Pw n f).t i):=by kernel_rfl
def Qb:List V->T (V × List Blk):=Ha fun n f=>.br (AL n) (.leaf (.ref 0,[.row 3 1 n fun k=>iV (A0 (fun k=>Ay (f k)) n k)])) .fail
theorem p94:AB Try.prog Gl 66 Qb:=by
  refine A1 AQ AR Try.func66 (by kernel_rfl) (by kernel_rfl) fun vs v h' h=>?_
  obtain ⟨n,f,ha,h1⟩:=CV h
  obtain ⟨hn,hq⟩:=Ah h1
  have:=Ad hq
  simp only [Prod.mk.injEq] at this
  obtain ⟨rfl,rfl⟩:=this
  have hx:=JL Uv ZC [(0,RM n f)]
  have hL:=DS ZC [(0,RM n f)]
  have h0:∀ L,(CG ZC [(0,RM n f)] 0 (JP L) (Pw n f)).sem = some (S9 n f n (Js (fun k=>Ay (f k)) n)):=fun L=>by
    show (A7 (JP L) (RM n f) (n+1) (CT (Pw n f) [(1,bV false)])).sem = _
    rw [AfH,<- XQ (fun k=>Ay (f k))]
    exact AbR L n f (H3 hn) n 0 _ (n+1) (by omega) (by omega)
  have hw:=A3 (Aw hL hL) _ (AiZ _ _ n f _ (EY hn) Cc (An (h0 _)))
  rw [Nl (fun k=>Ay (f k)) n] at hw
  exact ⟨_,cxZ Gl Ti ZC [(0,RM n f)],_,ha,rfl,hx.1,hx.2,hw,A6.refl _⟩
def lp95 (n:Nat) (f:Nat->E6):Lp:=⟨(bmK 21 0 [0,3,4]),2,bmK 21 0 [3],2,n+1⟩
def st95 (n:Nat) (f:Nat->E6) (i:Nat) (h:Nat->Bool) (j:Nat->V):St:=⟨(jsV 21 0 j [(0,.sl 6 n (fun i=>eV (f i))),(3,.ref 1),(4,nV i)]),[.row 3 1 0 (fun _=>.und),.row 4 1 i (fun k=>bV (h k))]⟩
def S8 (n:Nat) (f:Nat->E6) (i:Nat) (h:Nat->Bool):Ex × St:=(.ex 0,⟨(jsV 21 0 (fun _=>.und) [(3,.ref 1)]),[.row 3 1 0 (fun _=>.und),.row 4 1 i (fun k=>bV (h k))]⟩)
noncomputable def body95 (L:LT):St->T (Ex × St):=fun st=>AE tab ⟨Ao Ti,L,Gl⟩ (Az Try.f67 0) 0 st
section
variable (L:LT) (n:Nat) (f:Nat->E6) (i:Nat) (h:Nat->Bool)  (j:Nat->V)
include L n f i h j
theorem AhT (h0:ilt (ofNat i) (ofNat n) = false):Al (body95 L) (lp95 n f) (st95 n f i h j) = some ((.ex 0),⟨(jsV 21 0 (fun _=>.und) [(3,(.ref 1))]),[r3Z,.row 4 1 i (fun k=>bV (h k))]⟩):=Aa [false] [ilt (ofNat i) (ofNat n)] (by kernel_rfl) (by simp only [h0] <;> rfl)
theorem AhS (h0:ilt (ofNat i) (ofNat n) = true) (h1:Ag (ile 0 (ofNat i)) (ilt (ofNat i) (ofNat n)) = true) (h2:AN i 1 1 = true):Al (body95 L) (lp95 n f) (st95 n f i h j) = some (.nm,⟨(jsV 21 0 (fun _=>.und) [(0,(.sl 6 n (fun i=>eV (f i)))),(3,(.ref 1)),(4,(iV (wr .i64 (Af (ofNat i) 1))))]),[r3Z,.row 4 1 (Bj i 1) (AO i (fun k=>bV (h k)) (bV (Au (f i))))]⟩):=Aa [true,true,true] [ilt (ofNat i) (ofNat n),Ag (ile 0 (ofNat i)) (ilt (ofNat i) (ofNat n)),AN i 1 1] (by kernel_rfl) (by simp only [h1] <;> simp only [h0,h2] <;> rfl)
end
def Pv (n:Nat) (f:Nat->E6) :St:=⟨(jsV 21 0 (fun _=>A8) [(0,(.sl 6 n (fun i=>eV (f i)))),(2,(.ref 0)),(3,(.ref 1)),(4,(iV 0))]),[r3Z,.row 4 1 0 (fun _=>.und)]⟩
theorem AiY (L:LT) (p0:PT) (n:Nat) (f:Nat->E6) (q:Nat->Bool) (h0:BL n = true) (h10:AW [.row 3 1 n (fun _=>iV 0)] = true) (hp0:p0 (body95 (onP 0 p0 (S8 n f n q) L)) (Pv n f) = true):(As (Aj tab ⟨Ao Ti,onP 0 p0 (S8 n f n q) L,Gl⟩ Try.f67 [A2 n f] [])).sem = some ((.ref 0),[.row 3 1 n (fun k=>iV (A0 q n k))]):=Aa [true,true,true,true] [p0 (body95 (onP 0 p0 (S8 n f n q) L)) (Pv n f),Ai n (fun _=>true),BL n,AW [.row 3 1 n (fun _=>iV 0)]] (by kernel_rfl) (by simp only [hp0] <;> simp only [h0,h10,Ar,Cc] <;> rfl)
theorem run95 (L:LT) (n:Nat) (f:Nat->E6) (h8:n * 8 <= 140737488355328):∀ (e i:Nat) (j:Nat->V) (q:Nat),n = i+e->e < q ->
    (A7 (body95 L) (lp95 n f) q (st95 n f i (Js (fun k=>Au (f k)) i) j)).sem = some (S8 n f n (Js (fun k=>Au (f k)) n))
  | 0,i,j,q+1,h,_=>by
    have:n = i:=by omega
    subst this
    exact Ac (AhT L n f _ _ j (AA (Nat.le_refl _)))
  | e+1,i,j,q+1,h,h2=>by
    have hl:i < n:=by omega
    have ha:AN i 1 1 = true:=C6 (by omega)
    rw [Ac (AhS L n f i (Js (fun k=>Au (f k)) i) j (ofNat_lt hl) (Ax hl) ha),Av,Aq hl (by omega)]
    have:=OW (fun k=>Au (f k)) i
    rw [this]
    exact run95 L n f h8 e (i+1) (fun _=>.und) q (by omega) (by omega)
def ZB:List (Nat × List (Nat × V)):=[(0,[(1,bV false)])]
theorem AfG (n:Nat) (f:Nat->E6):CT (Pv n f) [(1,bV false)] = st95 n f 0 (fun _=>false) (fun i=>nth (Pv n f).t i):=by kernel_rfl
def Qa:List V->T (V × List Blk):=Ha fun n f=>.br (AL n) (.leaf (.ref 0,[.row 3 1 n fun k=>iV (A0 (fun k=>Au (f k)) n k)])) .fail
theorem p95:AB Try.prog Gl 67 Qa:=by
  refine A1 AQ AR Try.func67 (by kernel_rfl) (by kernel_rfl) fun vs v h' h=>?_
  obtain ⟨n,f,ha,h1⟩:=CV h
  obtain ⟨hn,hq⟩:=Ah h1
  have:=Ad hq
  simp only [Prod.mk.injEq] at this
  obtain ⟨rfl,rfl⟩:=this
  have hx:=JL Uv ZB [(0,lp95 n f)]
  have hL:=DS ZB [(0,lp95 n f)]
  have h0:∀ L,(CG ZB [(0,lp95 n f)] 0 (body95 L) (Pv n f)).sem = some (S8 n f n (Js (fun k=>Au (f k)) n)):=fun L=>by
    show (A7 (body95 L) (lp95 n f) (n+1) (CT (Pv n f) [(1,bV false)])).sem = _
    rw [AfG,<- XQ (fun k=>Au (f k))]
    exact run95 L n f (H3 hn) n 0 _ (n+1) (by omega) (by omega)
  have hw:=A3 (Aw hL hL) _ (AiY _ _ n f _ (EY hn) Cc (An (h0 _)))
  rw [Nl (fun k=>Au (f k)) n] at hw
  exact ⟨_,cxZ Gl Ti ZB [(0,lp95 n f)],_,ha,rfl,hx.1,hx.2,hw,A6.refl _⟩
noncomputable def tb53:List (Nat × (List V->T (V × List Blk))):=(94,Aiv) :: (66,Qb) :: (67,Qa) :: []
theorem tb53_ok:AC Try.prog Gl tb53:=.cons p98 <| .cons p94 <| .cons p95 .nil
def Kg (g:Nat->(Nat->E6)->Nat->Int):List V->T (V × List Blk):=Ha fun n f=>.br (AL n) (match BW n f with
  | true=>.leaf (.tup [.ref 0,iV 0],[.row 3 1 n fun k=>iV (g n f k)])
  | false=>.leaf (.tup [.ref 0,iV 30],[.row 3 1 0 fun _=>.und])) .fail
section
variable (L:LT) (n:Nat) (f:Nat->E6)
include L n f
theorem Ajo (h0:Ab n = true) (h1:BW n f = true) (h2:AL n = true):(As (Aj tab ⟨Ao tb53,L,Gl⟩ Try.f57 [A2 n f] [])).sem = some ((.tup [.ref 0,iV 0]),[.row 3 1 n (fun k=>iV (A0 (fun k=>Ay (f k)) n k))]):=Aa [true,true,false,true,true] [Ai n (fun _=>true),Ab n,Am (BW n f),Ai n (fun _=>true),AL n] (by kernel_rfl) (by simp only [*,Ar] <;> rfl)
theorem Ajp (h0:Ab n = true) (h1:BW n f = false):(As (Aj tab ⟨Ao tb53,L,Gl⟩ Try.f57 [A2 n f] [])).sem = some ((.tup [.ref 0,iV 30]),[r3Z]):=Aa [true,true,true] [Ai n (fun _=>true),Ab n,Am (BW n f)] (by kernel_rfl) (by simp only [h0,h1,Ar] <;> rfl)
theorem Ajm (h0:Ab n = true) (h1:BW n f = true) (h2:AL n = true):(As (Aj tab ⟨Ao tb53,L,Gl⟩ Try.f58 [A2 n f] [])).sem = some ((.tup [.ref 0,iV 0]),[.row 3 1 n (fun k=>iV (A0 (fun k=>Au (f k)) n k))]):=Aa [true,true,false,true,true] [Ai n (fun _=>true),Ab n,Am (BW n f),Ai n (fun _=>true),AL n] (by kernel_rfl) (by simp only [*,Ar] <;> rfl)
theorem Ajn (h0:Ab n = true) (h1:BW n f = false):(As (Aj tab ⟨Ao tb53,L,Gl⟩ Try.f58 [A2 n f] [])).sem = some ((.tup [.ref 0,iV 30]),[r3Z]):=Aa [true,true,true] [Ai n (fun _=>true),Ab n,Am (BW n f)] (by kernel_rfl) (by simp only [h0,h1,Ar] <;> rfl)
end
theorem p53:AB Try.prog Gl 57 (Kg fun n f=>A0 (fun k=>Ay (f k)) n):=by
  refine A1 AQ AR Try.func57 (by kernel_rfl) (by kernel_rfl) fun vs v h' h=>?_
  obtain ⟨n,f,ha,h1⟩:=CV h
  obtain ⟨hn,hq⟩:=Ah h1
  have hx:=AP tb53_ok []
  have hs:Ab n = true:=YR (EY hn)
  cases hm:BW n f with
  | true =>
    rw [hm] at hq
    have:=Ad hq
    simp only [Prod.mk.injEq] at this
    obtain ⟨rfl,rfl⟩:=this
    exact ⟨_,AI Gl tb53 [],_,ha,rfl,hx.1,hx.2,Ajo _ n f hs hm hn,A6.refl _⟩
  | false =>
    rw [hm] at hq
    have:=Ad hq
    simp only [Prod.mk.injEq] at this
    obtain ⟨rfl,rfl⟩:=this
    exact ⟨_,AI Gl tb53 [],_,ha,rfl,hx.1,hx.2,Ajp _ n f hs hm,A6.refl _⟩
theorem p54:AB Try.prog Gl 58 (Kg fun n f=>A0 (fun k=>Au (f k)) n):=by
  refine A1 AQ AR Try.func58 (by kernel_rfl) (by kernel_rfl) fun vs v h' h=>?_
  obtain ⟨n,f,ha,h1⟩:=CV h
  obtain ⟨hn,hq⟩:=Ah h1
  have hx:=AP tb53_ok []
  have hs:Ab n = true:=YR (EY hn)
  cases hm:BW n f with
  | true =>
    rw [hm] at hq
    have:=Ad hq
    simp only [Prod.mk.injEq] at this
    obtain ⟨rfl,rfl⟩:=this
    exact ⟨_,AI Gl tb53 [],_,ha,rfl,hx.1,hx.2,Ajm _ n f hs hm hn,A6.refl _⟩
  | false =>
    rw [hm] at hq
    have:=Ad hq
    simp only [Prod.mk.injEq] at this
    obtain ⟨rfl,rfl⟩:=this
    exact ⟨_,AI Gl tb53 [],_,ha,rfl,hx.1,hx.2,Ajn _ n f hs hm,A6.refl _⟩
end Go.Proofs.Ytjhnfomefcngfaa.Ed
