/-
  The document's parts, threads, locations: the part of each edge. No conditions.
-/
import Derived.Test.YtjhnfomefcngfaaCyO
namespace Go.Proofs.Ytjhnfomefcngfaa.Ed
open Go.Sy
open Int (ofNat)
def Pn (n:Nat) (p:Nat->Bool):Lp:=⟨(bmK 57 0 [0,3,4,5]),2,bmK 57 0 [0,3,4],2,n+1⟩
def Rp (n:Nat) (p:Nat->Bool) (s:Int) (i:Nat) (h:Nat->Int) (j:Nat->V):St:=⟨(jsV 57 0 j [(0,.sl 1 n (fun k=>bV (p k))),(3,.ref 1),(4,iV s),(5,nV i)]),[.row 3 1 0 (fun _=>.und),.row 3 1 i (fun k=>iV (h k))]⟩
def Dr (n:Nat) (p:Nat->Bool) (s:Int) (i:Nat) (h:Nat->Int):Ex × St:=(.ex 0,⟨(jsV 57 0 (fun _=>.und) [(0,.sl 1 n (fun k=>bV (p k))),(3,.ref 1),(4,iV s)]),[.row 3 1 0 (fun _=>.und),.row 3 1 i (fun k=>iV (h k))]⟩)
noncomputable def CR (L:LT):St->T (Ex × St):=fun st=>A9 tab ⟨Ao tb0,L,Gl⟩ (Av Try.f101 0) 0 st
section
variable (L:LT) (n:Nat) (p:Nat->Bool) (s:Int) (i:Nat) (h:Nat->Int)  (j:Nat->V)
include L n p s i h j
theorem Afq (h0:ilt (ofNat i) (ofNat n) = false):Ai (CR L) (Pn n p) (Rp n p s i h j) = some ((.ex 0),⟨(jsV 57 0 (fun _=>.und) [(0,(.sl 1 n (fun k=>bV (p k)))),(3,(.ref 1)),(4,(iV s))]),[r3Z,.row 3 1 i (fun k=>iV (h k))]⟩):=Aa [false] [ilt (ofNat i) (ofNat n)] (by kernel_rfl) (by simp only [h0] <;> rfl)
theorem Afo (h0:ilt (ofNat i) (ofNat n) = true) (h2:Bj i 1 8 = true) (h1:Af (ile 0 (ofNat i)) (ilt (ofNat i) (ofNat n)) = true) (h3:p i = true):Ai (CR L) (Pn n p) (Rp n p s i h j) = some (.nm,⟨(jsV 57 0 (fun _=>.und) [(0,(.sl 1 n (fun k=>bV (p k)))),(3,(.ref 1)),(4,(iV (wr .i64 (Ae s 1)))),(5,(iV (wr .i64 (Ae (ofNat i) 1))))]),[r3Z,.row 3 1 (B4 i 1) (AK i (fun k=>iV (h k)) (iV s))]⟩):=Aa [true,true,true,true] [ilt (ofNat i) (ofNat n),Bj i 1 8,Af (ile 0 (ofNat i)) (ilt (ofNat i) (ofNat n)),p i] (by kernel_rfl) (by simp only [h1] <;> simp only [*] <;> rfl)
theorem Afp (h0:ilt (ofNat i) (ofNat n) = true) (h2:Bj i 1 8 = true) (h1:Af (ile 0 (ofNat i)) (ilt (ofNat i) (ofNat n)) = true) (h3:p i = false):Ai (CR L) (Pn n p) (Rp n p s i h j) = some (.nm,⟨(jsV 57 0 (fun _=>.und) [(0,(.sl 1 n (fun k=>bV (p k)))),(3,(.ref 1)),(4,(iV s)),(5,(iV (wr .i64 (Ae (ofNat i) 1))))]),[r3Z,.row 3 1 (B4 i 1) (AK i (fun k=>iV (h k)) (iV s))]⟩):=Aa [true,true,true,false] [ilt (ofNat i) (ofNat n),Bj i 1 8,Af (ile 0 (ofNat i)) (ilt (ofNat i) (ofNat n)),p i] (by kernel_rfl) (by simp only [h1] <;> simp only [*] <;> rfl)
end
def EU (n:Nat) (p:Nat->Bool) :St:=⟨(jsV 57 0 (fun _=>A7) [(0,(.sl 1 n (fun k=>bV (p k)))),(2,(.ref 0)),(3,(.ref 1)),(4,(iV 0)),(5,(iV 0))]),[r3Z,r3Z]⟩
def Ko (n:Nat) (p:Nat->Bool):Lp:=⟨(bmK 57 0 [0,3,7]),2,bmK 57 0 [3],2,n+1⟩
def I8 (n:Nat) (p:Nat->Bool) (d:Int) (g:Nat->Int) (j:Nat->V):St:=⟨(jsV 57 0 j [(0,.sl 1 n (fun k=>bV (p k))),(3,.ref 1),(7,iV d)]),[.row 3 1 0 (fun _=>.und),.row 3 1 n (fun k=>iV (g k))]⟩
def GM (n:Nat) (p:Nat->Bool) (d:Int) (g:Nat->Int):Ex × St:=(.ex 2,⟨(jsV 57 0 (fun _=>.und) [(3,.ref 1)]),[.row 3 1 0 (fun _=>.und),.row 3 1 n (fun k=>iV (g k))]⟩)
noncomputable def Fu (L:LT):St->T (Ex × St):=fun st=>A9 tab ⟨Ao tb0,L,Gl⟩ (Av Try.f101 2) 2 st
section
variable (L:LT) (n:Nat) (p:Nat->Bool) (d:Int) (g:Nat->Int)  (j:Nat->V)
include L n p d g j
theorem AeT (h0:ile 0 d = false):Ai (Fu L) (Ko n p) (I8 n p d g j) = some ((.ex 2),⟨(jsV 57 0 (fun _=>.und) [(3,(.ref 1))]),[r3Z,.row 3 1 n (fun k=>iV (g k))]⟩):=Aa (bbK 7 0) [ile 0 d,ile 0 d,ile 0 d,ile 0 d,ile 0 d,ile 0 d,false] (by kernel_rfl) (by simp only [h0] <;> rfl)
theorem AeS (h0:ile 0 d = true) (h1:Af (ile 0 d) (ilt d (ofNat n)) = true) (h3:p (toN d) = true):Ai (Fu L) (Ko n p) (I8 n p d g j) = some ((.ex 2),⟨(jsV 57 0 (fun _=>.und) [(3,(.ref 1))]),[r3Z,.row 3 1 n (fun k=>iV (g k))]⟩):=Aa (bbK 8 127) [ile 0 d,ile 0 d,ile 0 d,Af (ile 0 d) (ilt d (ofNat n)),ile 0 d,ile 0 d,ile 0 d,Am (p (toN d))] (by kernel_rfl) (by simp only [h1] <;> simp only [h0,h3] <;> rfl)
theorem AeR (h0:ile 0 d = true) (h1:Af (ile 0 d) (ilt d (ofNat n)) = true) (h3:p (toN d) = false) (h2:nlt (toN d) n = true):Ai (Fu L) (Ko n p) (I8 n p d g j) = some (.nm,⟨(jsV 57 0 (fun _=>.und) [(0,(.sl 1 n (fun k=>bV (p k)))),(3,(.ref 1)),(7,(iV (wr .i64 (As d 1))))]),[r3Z,.row 3 1 n (Bl (fun k=>iV (g k)) (toN d) (iV 0))]⟩):=Aa (bbK 10 1023) ((fun c0 c1=>[c0,c0,c0,c1,c0,c0,c0,Am (p (toN d)),c1,nlt (toN d) n]) (ile 0 d) (Af (ile 0 d) (ilt d (ofNat n)))) (by kernel_rfl) (by simp only [h1] <;> simp only [*] <;> rfl)
end
def Vs (n:Nat) (p:Nat->Bool) (s:Int) (g:Nat->Int):Nat->V:=lkV A7 [(1,.und),(2,.und),(4,(iV s)),(5,.und),(6,(nV n)),(8,.und),(9,.und),(10,.und),(11,.und),(12,.und),(13,.und),(14,.und),(15,.und),(16,.und),(17,.und),(18,.und),(19,.und),(20,.und),(21,.und),(22,.und),(23,.und),(24,(.sl 1 n (fun k=>bV (p k)))),(25,(nV n)),(26,(nV n)),(27,(bV (ilt 0 (ofNat n)))),(28,(bV (ilt 0 (ofNat n)))),(29,(iV s)),(30,(bV (ilt 0 s))),(31,(bV (ilt 0 s))),(32,(bV (ilt 0 s))),(33,(.sl 1 n (fun k=>bV (p k)))),(34,(nV n)),(35,(iV (wr .i64 (As (ofNat n) 1)))),(36,(.pp (bV (p (toN (wr .i64 (As (ofNat n) 1))))))),(37,(bV (p (toN (wr .i64 (As (ofNat n) 1)))))),(38,(bV (Am (p (toN (wr .i64 (As (ofNat n) 1))))))),(39,(bV (Am (p (toN (wr .i64 (As (ofNat n) 1))))))),(40,(nV n)),(41,(iV (wr .i64 (As (ofNat n) 1)))),(42,.und),(43,.und),(44,.und),(45,.und),(46,.und),(47,.und),(48,.und),(49,.und),(50,.und),(51,.und),(52,.und),(53,.und),(54,.und),(55,.und),(56,.und)]
section
variable (L:LT) (p0:PT) (n:Nat) (p:Nat->Bool) (s:Int) (g:Nat->Int)
include L p0 n p s g
theorem Adx (h0:ilt 0 (ofNat n) = false) (hp0:p0 (CR (onP 0 p0 (Dr n p s n g) L)) (EU n p) = true):(A1 (Al tab ⟨Ao tb0,onP 0 p0 (Dr n p s n g) L,Gl⟩ Try.f101 [.sl 1 n (fun k=>bV (p k))] [])).sem = some ((.ref 0),[.row 3 1 n (fun k=>iV (g k))]):=Aa (bbK 12 1) ((fun c0 c1=>[p0 (CR (onP 0 p0 (Dr n p s n g) L)) (EU n p),c0,c0,c0,c1,c1,c1,c1,c1,c1,c1,c1]) (ilt 0 (ofNat n)) (false)) (by kernel_rfl) (by simp only [hp0] <;> simp only [h0] <;> rfl)
theorem Adw (h0:ilt 0 (ofNat n) = true) (h1:ilt 0 s = false) (hp0:p0 (CR (onP 0 p0 (Dr n p s n g) L)) (EU n p) = true):(A1 (Al tab ⟨Ao tb0,onP 0 p0 (Dr n p s n g) L,Gl⟩ Try.f101 [.sl 1 n (fun k=>bV (p k))] [])).sem = some ((.ref 0),[.row 3 1 n (fun k=>iV (g k))]):=Aa (bbK 12 15) ((fun c0 c1=>[p0 (CR (onP 0 p0 (Dr n p s n g) L)) (EU n p),c0,c0,c0,c1,c1,c1,c1,c1,c1,c1,false]) (ilt 0 (ofNat n)) (ilt 0 s)) (by kernel_rfl) (by simp only [hp0] <;> simp only [h0,h1] <;> rfl)
theorem Adv (h0:ilt 0 (ofNat n) = true) (h1:ilt 0 s = true) (h2:Af (ile 0 (wr .i64 (As (ofNat n) 1))) (ilt (wr .i64 (As (ofNat n) 1)) (ofNat n)) = true) (h3:p (toN (wr .i64 (As (ofNat n) 1))) = true) (hp0:p0 (CR (onP 0 p0 (Dr n p s n g) L)) (EU n p) = true):(A1 (Al tab ⟨Ao tb0,onP 0 p0 (Dr n p s n g) L,Gl⟩ Try.f101 [.sl 1 n (fun k=>bV (p k))] [])).sem = some ((.ref 0),[.row 3 1 n (fun k=>iV (g k))]):=Aa (bbK 13 4095) ((fun c0 c1=>[p0 (CR (onP 0 p0 (Dr n p s n g) L)) (EU n p),c0,c0,c0,c1,c1,c1,c1,Af (ile 0 (wr .i64 (As (ofNat n) 1))) (ilt (wr .i64 (As (ofNat n) 1)) (ofNat n)),c1,c1,c1,Am (p (toN (wr .i64 (As (ofNat n) 1))))]) (ilt 0 (ofNat n)) (ilt 0 s)) (by kernel_rfl) (by simp only [hp0] <;> simp only [h2] <;> simp only [*] <;> rfl)
end
theorem Adu (L:LT) (p0:PT) (p2:PT) (n:Nat) (p:Nat->Bool) (s:Int) (g:Nat->Int) (d:Int) (u:Nat->Int) (h0:ilt 0 (ofNat n) = true) (h1:ilt 0 s = true) (h2:Af (ile 0 (wr .i64 (As (ofNat n) 1))) (ilt (wr .i64 (As (ofNat n) 1)) (ofNat n)) = true) (h3:p (toN (wr .i64 (As (ofNat n) 1))) = false) (hp0:p0 (CR (onP 0 p0 (Dr n p s n g) (onP 2 p2 (GM n p d u) L))) (EU n p) = true) (hp2:p2 (Fu (onP 0 p0 (Dr n p s n g) (onP 2 p2 (GM n p d u) L))) (I8 n p (wr .i64 (As (ofNat n) 1)) g (Vs n p s g)) = true):(A1 (Al tab ⟨Ao tb0,onP 0 p0 (Dr n p s n g) (onP 2 p2 (GM n p d u) L),Gl⟩ Try.f101 [.sl 1 n (fun k=>bV (p k))] [])).sem = some ((.ref 0),[.row 3 1 n (fun k=>iV (u k))]):=Aa (bbK 14 16383) ((fun c0 c1=>[p0 (CR (onP 0 p0 (Dr n p s n g) (onP 2 p2 (GM n p d u) L))) (EU n p),c0,c0,c0,c1,c1,c1,c1,Af (ile 0 (wr .i64 (As (ofNat n) 1))) (ilt (wr .i64 (As (ofNat n) 1)) (ofNat n)),c1,c1,c1,Am (p (toN (wr .i64 (As (ofNat n) 1)))),p2 (Fu (onP 0 p0 (Dr n p s n g) (onP 2 p2 (GM n p d u) L))) (I8 n p (wr .i64 (As (ofNat n) 1)) g (Vs n p s g))]) (ilt 0 (ofNat n)) (ilt 0 s)) (by kernel_rfl) (by simp only [hp0,hp2] <;> simp only [h2] <;> simp only [*] <;> rfl)
theorem R5 (p:Nat->Bool) (i:Nat):AK i (fun k=>iV (C9 p i k)) (iV (ofNat (Aj p i))) = fun k=>iV (C9 p (i+1) k):=by
  funext k
  rw [BH,show Nat.beq k i = decide (k = i) by rw [Bool.eq_iff_iff]; simp]
  unfold C9
  by_cases h:k = i
  · subst h; simp
  · by_cases h2:k < i
    · have:k < i+1:=by omega
      simp [h,h2,this]
    · have:¬ k < i+1:=by omega
      simp [h,h2,this]
theorem Bi {p:Nat->Bool} {i:Nat} (h:p i = true):Aj p (i+1) = Aj p i+1:=by rw [Aj,h]
theorem B2 {p:Nat->Bool} {i:Nat} (h:p i = false):Aj p (i+1) = Aj p i:=by rw [Aj,h]
theorem T9 (L:LT) (n:Nat) (p:Nat->Bool) (h8:n * 8 <= 140737488355328):∀ (e i:Nat) (j:Nat->V) (q:Nat),n = i+e->e < q ->
    (A3 (CR L) (Pn n p) q (Rp n p (ofNat (Aj p i)) i (C9 p i) j)).sem = some (Dr n p (ofNat (Aj p n)) n (C9 p n))
  | 0,i,j,q+1,h,_=>by
    have:n = i:=by omega
    subst this
    exact Ab (Afq L n p _ _ _ j (A8 (Nat.le_refl _)))
  | e+1,i,j,q+1,h,h2=>by
    have hc:=Bd p i
    have hl:i < n:=by omega
    have ha:Bj i 1 8 = true:=CS (by omega)
    cases hp:p i with
    | true =>
      rw [Ab (Afo L n p (ofNat (Aj p i)) i (C9 p i) j (ofNat_lt hl) ha (Ay hl) hp),Aw,Aq hl (by omega),Aq (show Aj p i < n by omega) (by omega),<- Bi hp,R5 p i]
      exact T9 L n p h8 e (i+1) (fun _=>.und) q (by omega) (by omega)
    | false =>
      rw [Ab (Afp L n p (ofNat (Aj p i)) i (C9 p i) j (ofNat_lt hl) ha (Ay hl) hp),Aw,Aq hl (by omega),R5 p i,<- B2 hp]
      exact T9 L n p h8 e (i+1) (fun _=>.und) q (by omega) (by omega)
theorem UP (L:LT) (n:Nat) (p:Nat->Bool) (hn:n <= 4611686018427387904) (hs:0 < Aj p n):∀ (D:Nat) (j:Nat->V) (q:Nat),D <= n->D < q->(∀ k,D <= k->k < n->Aj p k = Aj p n) ->
    (A3 (Fu L) (Ko n p) q (I8 n p (dn D) (C9 p D) j)).sem = some (GM n p 0 (A0 p n))
  | 0,j,q+1,h,_,hb=>by
    rw [<- He p n 0 h (fun k hk=>absurd hk (Nat.not_lt_zero _)) hb]
    exact Ab (AeT L n p (dn 0) (C9 p 0) j rfl)
  | D+1,j,q+1,h,h2,hb=>by
    have hD:D < n:=by omega
    have hk:nlt D n = true:=by simpa [nlt] using hD
    cases hp:p D with
    | false =>
      have he:Aj p D = Aj p n:=by
        rw [<- B2 hp]
        by_cases h5:D+1 = n
        · rw [h5]
        · exact hb (D+1) (Nat.le_refl _) (by omega)
      rw [show dn (D+1) = ofNat D from rfl,Ab (AeR L n p (ofNat D) (C9 p (D+1)) j (AJ D) (Ay hD) hp hk),Aw,Pz (show D <= n by omega) hn,Cf,show toN (ofNat D) = D from rfl,KG]
      exact UP L n p hn hs D (fun _=>.und) q (by omega) (by omega) fun k h3 h4=>by
        by_cases h5:k = D
        · subst h5; exact he
        · exact hb k (by omega) h4
    | true =>
      have h6:Aj p D < Aj p n:=by
        have:=AY p (show D+1 <= n by omega)
        rw [Bi hp] at this
        omega
      rw [<- He p n (D+1) h (fun k hk=>by have:=AY p (show k <= D by omega); omega) hb]
      rw [show dn (D+1) = ofNat D from rfl]
      exact Ab (AeS L n p (ofNat D) (C9 p (D+1)) j (AJ D) (Ay hD) hp)
def Rf:List (Nat × List (Nat × V)):=[(0,[(1,iV 0)])]
def Nr (n:Nat) (p:Nat->Bool):List (Nat × Lp):=[(0,Pn n p),(2,Ko n p)]
def KR:List V->T (V × List Blk)
  | [v]=>apB v fun n p=>.br (Ca n) (.leaf (.ref 0,[.row 3 1 n fun k=>iV (A0 p n k)])) .fail
  | _=>.fail
theorem AbL (n:Nat) (p:Nat->Bool):CI (EU n p) [(1,iV 0)] = Rp n p 0 0 (fun _=>0) (fun i=>nth (EU n p).t i):=by kernel_rfl
theorem Aan (n:Nat) (p:Nat->Bool) (h8:Ca n = true) :
    (A1 (Al tab (cxZ Gl tb0 Rf (Nr n p)) Try.f101 [Us n p] [])).sem = some (.ref 0,[.row 3 1 n fun k=>iV (A0 p n k)]):=by
  have h8':n * 8 <= 140737488355328:=of_decide_eq_true h8
  have hn:n <= 4611686018427387904:=by omega
  have hL:=DI Rf (Nr n p)
  have h0:∀ L,(C2 Rf (Nr n p) 0 (CR L) (EU n p)).sem = some (Dr n p (ofNat (Aj p n)) n (C9 p n)):=fun L=>by
    show (A3 (CR L) (Pn n p) (n+1) (CI (EU n p) [(1,iV 0)])).sem = _
    rw [AbL,<- TA p]
    exact T9 L n p h8' n 0 _ (n+1) (by omega) (by omega)
  cases n with
  | zero =>
    rw [<- Qc p 0 rfl]
    exact A6 (Ax hL hL) _ (Adx _ _ 0 p _ _ rfl (Ak (h0 _)))
  | succ m =>
    have c0:ilt 0 (ofNat (m+1)) = true:=by rw [show (0:Int) = ofNat 0 from rfl,Cz]; simp
    have e1:wr .i64 (As (ofNat (m+1)) 1) = ofNat m:=Pz (Nat.le_refl _) hn
    have e2:toN (ofNat m) = m:=rfl
    cases hs:ilt 0 (ofNat (Aj p (m+1))) with
    | false =>
      have hz:Aj p (m+1) = 0:=by simpa [ilt] using hs
      have hw:=A6 (Ax hL hL) _ (Adw _ _ (m+1) p _ _ c0 hs (Ak (h0 _)))
      rw [<- Qc p (m+1) hz]
      exact hw
    | true =>
      have hz:0 < Aj p (m+1):=by simpa [ilt] using hs
      have hb:Af (ile 0 (wr .i64 (As (ofNat (m+1)) 1))) (ilt (wr .i64 (As (ofNat (m+1)) 1)) (ofNat (m+1))) = true:=by rw [e1]; exact Ay (Nat.lt_succ_self m)
      cases hp:p m with
      | true =>
        have hw:=A6 (Ax hL hL) _ (Adv _ _ (m+1) p _ _ c0 hs hb (by rw [e1,e2]; exact hp) (Ak (h0 _)))
        rw [<- He p (m+1) (m+1) (Nat.le_refl _) (fun k hk=>by have:=AY p (show k <= m by omega); rw [Bi hp]; omega) (fun k h1 h2=>by omega)]
        exact hw
      | false =>
        have h2:=fun L j=>UP L (m+1) p hn hz (m+1) j (m+2) (Nat.le_refl _) (by omega) (fun k h1 h2=>by omega)
        rw [show dn (m+1) = ofNat m from rfl,<- e1] at h2
        exact A6 (Ax (Ax hL hL) hL) _ (Adu _ _ _ (m+1) p _ (C9 p (m+1)) 0 (A0 p (m+1)) c0 hs hb (by rw [e1,e2]; exact hp) (Ak (h0 _)) (Ak (h2 _ _)))
theorem Akk:AD Try.prog Gl 101 KR:=by
  refine A5 AO AP Try.func101 (by kernel_rfl) (by kernel_rfl) fun vs v h' h=>?_
  unfold KR at h
  split at h
  · rename_i u
    obtain ⟨n,p,ha,h1⟩:=ZR h
    obtain ⟨h8,hq⟩:=Ag h1
    have:=Ac hq
    simp only [Prod.mk.injEq] at this
    obtain ⟨rfl,rfl⟩:=this
    have hA:BA [u] [Us n p]:=fun S w cs hv=>by
      obtain ⟨c,l,rfl,q1,q2⟩:=hv
      exact ⟨c,l,rfl,ha S w c q1,q2⟩
    have hx:=JH CU Rf (Nr n p)
    exact ⟨_,cxZ Gl tb0 Rf (Nr n p),_,hA,rfl,hx.1,hx.2,Aan n p h8,AB.refl _⟩
  · cases h
theorem BY {n:Nat}:Bg [.row 3 1 n (fun _=>iV 0)] = true:=by
  simp [Bg,L5,iV]
noncomputable def Tl:List (Nat × (List V->T (V × List Blk))):=(22,BK fun e=>bV (Az e)) :: (23,BK fun e=>bV (Au e)) :: (101,KR) :: []
theorem U3:AF Try.prog Gl Tl:=.cons p60 <| .cons p61 <| .cons Akk .nil
def Jo (p:Nat->Bool) (i k:Nat):Bool:=decide (k < i) && p k
theorem Yi (p:Nat->Bool):Jo p 0 = fun _=>false:=by
  funext k
  simp [Jo]
theorem OY (p:Nat->Bool) (i:Nat):AK i (fun k=>bV (Jo p i k)) (bV (p i)) = fun k=>bV (Jo p (i+1) k):=by
  funext k
  rw [BH,show Nat.beq k i = decide (k = i) by rw [Bool.eq_iff_iff]; simp]
  unfold Jo
  by_cases h:k = i
  · subst h; simp
  · by_cases h2:k < i
    · have:k < i+1:=by omega
      simp [h,h2,this]
    · have:¬ k < i+1:=by omega
      simp [h,h2,this]
theorem D9 {p q:Nat->Bool}:∀ k,(∀ i,i < k->q i = p i)->Aj q k = Aj p k
  | 0,_=>rfl
  | k+1,h=>by
    rw [Aj,Aj,h k (Nat.lt_succ_self k),D9 k fun i hi=>h i (by omega)]
theorem Nf (p:Nat->Bool) (n:Nat):A0 (Jo p n) n = A0 p n:=by
  have hq:∀ i,i < n->Jo p n i = p i:=fun i hi=>by simp [Jo,hi]
  funext k
  unfold A0
  by_cases h:k < n
  · rw [D9 k fun i hi=>hq i (by omega),D9 n hq]
  · simp [h]
theorem Ht {n:Nat} (h:AL n = true):n * 8 <= 140737488355328:=of_decide_eq_true (ET h)
def RJ (n:Nat) (f:Nat->E6):Lp:=⟨(bmK 21 0 [0,3,4]),2,bmK 21 0 [3],2,n+1⟩
def Aa6 (n:Nat) (f:Nat->E6) (i:Nat) (h:Nat->Bool) (j:Nat->V):St:=⟨(jsV 21 0 j [(0,.sl 6 n (fun i=>eV (f i))),(3,.ref 1),(4,nV i)]),[.row 3 1 0 (fun _=>.und),.row 4 1 i (fun k=>bV (h k))]⟩
def S9 (n:Nat) (f:Nat->E6) (i:Nat) (h:Nat->Bool):Ex × St:=(.ex 0,⟨(jsV 21 0 (fun _=>.und) [(3,.ref 1)]),[.row 3 1 0 (fun _=>.und),.row 4 1 i (fun k=>bV (h k))]⟩)
noncomputable def JJ (L:LT):St->T (Ex × St):=fun st=>A9 tab ⟨Ao Tl,L,Gl⟩ (Av Try.f66 0) 0 st
section
variable (L:LT) (n:Nat) (f:Nat->E6) (i:Nat) (h:Nat->Bool)  (j:Nat->V)
include L n f i h j
theorem AhX (h0:ilt (ofNat i) (ofNat n) = false):Ai (JJ L) (RJ n f) (Aa6 n f i h j) = some ((.ex 0),⟨(jsV 21 0 (fun _=>.und) [(3,(.ref 1))]),[r3Z,.row 4 1 i (fun k=>bV (h k))]⟩):=Aa [false] [ilt (ofNat i) (ofNat n)] (by kernel_rfl) (by simp only [h0] <;> rfl)
theorem AhW (h0:ilt (ofNat i) (ofNat n) = true) (h1:Af (ile 0 (ofNat i)) (ilt (ofNat i) (ofNat n)) = true) (h2:Bj i 1 1 = true):Ai (JJ L) (RJ n f) (Aa6 n f i h j) = some (.nm,⟨(jsV 21 0 (fun _=>.und) [(0,(.sl 6 n (fun i=>eV (f i)))),(3,(.ref 1)),(4,(iV (wr .i64 (Ae (ofNat i) 1))))]),[r3Z,.row 4 1 (B4 i 1) (AK i (fun k=>bV (h k)) (bV (Az (f i))))]⟩):=Aa [true,true,true] [ilt (ofNat i) (ofNat n),Af (ile 0 (ofNat i)) (ilt (ofNat i) (ofNat n)),Bj i 1 1] (by kernel_rfl) (by simp only [h1] <;> simp only [h0,h2] <;> rfl)
end
def Px (n:Nat) (f:Nat->E6) :St:=⟨(jsV 21 0 (fun _=>A7) [(0,(.sl 6 n (fun i=>eV (f i)))),(2,(.ref 0)),(3,(.ref 1)),(4,(iV 0))]),[r3Z,.row 4 1 0 (fun _=>.und)]⟩
theorem Ajh (L:LT) (p0:PT) (n:Nat) (f:Nat->E6) (q:Nat->Bool) (h0:Ca n = true) (h10:Bg [.row 3 1 n (fun _=>iV 0)] = true) (hp0:p0 (JJ (onP 0 p0 (S9 n f n q) L)) (Px n f) = true):(A1 (Al tab ⟨Ao Tl,onP 0 p0 (S9 n f n q) L,Gl⟩ Try.f66 [A2 n f] [])).sem = some ((.ref 0),[.row 3 1 n (fun k=>iV (A0 q n k))]):=Aa [true,true,true,true] [p0 (JJ (onP 0 p0 (S9 n f n q) L)) (Px n f),An n (fun _=>true),Ca n,Bg [.row 3 1 n (fun _=>iV 0)]] (by kernel_rfl) (by simp only [hp0] <;> simp only [h0,h10,Ar,BY] <;> rfl)
theorem Aca (L:LT) (n:Nat) (f:Nat->E6) (h8:n * 8 <= 140737488355328):∀ (e i:Nat) (j:Nat->V) (q:Nat),n = i+e->e < q ->
    (A3 (JJ L) (RJ n f) q (Aa6 n f i (Jo (fun k=>Az (f k)) i) j)).sem = some (S9 n f n (Jo (fun k=>Az (f k)) n))
  | 0,i,j,q+1,h,_=>by
    have:n = i:=by omega
    subst this
    exact Ab (AhX L n f _ _ j (A8 (Nat.le_refl _)))
  | e+1,i,j,q+1,h,h2=>by
    have hl:i < n:=by omega
    have ha:Bj i 1 1 = true:=CS (by omega)
    rw [Ab (AhW L n f i (Jo (fun k=>Az (f k)) i) j (ofNat_lt hl) (Ay hl) ha),Aw,Aq hl (by omega)]
    have:=OY (fun k=>Az (f k)) i
    rw [this]
    exact Aca L n f h8 e (i+1) (fun _=>.und) q (by omega) (by omega)
def ZZ:List (Nat × List (Nat × V)):=[(0,[(1,bV false)])]
theorem AfQ (n:Nat) (f:Nat->E6):CI (Px n f) [(1,bV false)] = Aa6 n f 0 (fun _=>false) (fun i=>nth (Px n f).t i):=by kernel_rfl
def Qe:List V->T (V × List Blk):=GS fun n f=>.br (AL n) (.leaf (.ref 0,[.row 3 1 n fun k=>iV (A0 (fun k=>Az (f k)) n k)])) .fail
theorem p94:AD Try.prog Gl 66 Qe:=by
  refine A5 AO AP Try.func66 (by kernel_rfl) (by kernel_rfl) fun vs v h' h=>?_
  obtain ⟨n,f,ha,h1⟩:=CK h
  obtain ⟨hn,hq⟩:=Ag h1
  have:=Ac hq
  simp only [Prod.mk.injEq] at this
  obtain ⟨rfl,rfl⟩:=this
  have hx:=JH U3 ZZ [(0,RJ n f)]
  have hL:=DI ZZ [(0,RJ n f)]
  have h0:∀ L,(C2 ZZ [(0,RJ n f)] 0 (JJ L) (Px n f)).sem = some (S9 n f n (Jo (fun k=>Az (f k)) n)):=fun L=>by
    show (A3 (JJ L) (RJ n f) (n+1) (CI (Px n f) [(1,bV false)])).sem = _
    rw [AfQ,<- Yi (fun k=>Az (f k))]
    exact Aca L n f (Ht hn) n 0 _ (n+1) (by omega) (by omega)
  have hw:=A6 (Ax hL hL) _ (Ajh _ _ n f _ (ET hn) BY (Ak (h0 _)))
  rw [Nf (fun k=>Az (f k)) n] at hw
  exact ⟨_,cxZ Gl Tl ZZ [(0,RJ n f)],_,ha,rfl,hx.1,hx.2,hw,AB.refl _⟩
def lp95 (n:Nat) (f:Nat->E6):Lp:=⟨(bmK 21 0 [0,3,4]),2,bmK 21 0 [3],2,n+1⟩
def st95 (n:Nat) (f:Nat->E6) (i:Nat) (h:Nat->Bool) (j:Nat->V):St:=⟨(jsV 21 0 j [(0,.sl 6 n (fun i=>eV (f i))),(3,.ref 1),(4,nV i)]),[.row 3 1 0 (fun _=>.und),.row 4 1 i (fun k=>bV (h k))]⟩
def S8 (n:Nat) (f:Nat->E6) (i:Nat) (h:Nat->Bool):Ex × St:=(.ex 0,⟨(jsV 21 0 (fun _=>.und) [(3,.ref 1)]),[.row 3 1 0 (fun _=>.und),.row 4 1 i (fun k=>bV (h k))]⟩)
noncomputable def body95 (L:LT):St->T (Ex × St):=fun st=>A9 tab ⟨Ao Tl,L,Gl⟩ (Av Try.f67 0) 0 st
section
variable (L:LT) (n:Nat) (f:Nat->E6) (i:Nat) (h:Nat->Bool)  (j:Nat->V)
include L n f i h j
theorem AhV (h0:ilt (ofNat i) (ofNat n) = false):Ai (body95 L) (lp95 n f) (st95 n f i h j) = some ((.ex 0),⟨(jsV 21 0 (fun _=>.und) [(3,(.ref 1))]),[r3Z,.row 4 1 i (fun k=>bV (h k))]⟩):=Aa [false] [ilt (ofNat i) (ofNat n)] (by kernel_rfl) (by simp only [h0] <;> rfl)
theorem AhU (h0:ilt (ofNat i) (ofNat n) = true) (h1:Af (ile 0 (ofNat i)) (ilt (ofNat i) (ofNat n)) = true) (h2:Bj i 1 1 = true):Ai (body95 L) (lp95 n f) (st95 n f i h j) = some (.nm,⟨(jsV 21 0 (fun _=>.und) [(0,(.sl 6 n (fun i=>eV (f i)))),(3,(.ref 1)),(4,(iV (wr .i64 (Ae (ofNat i) 1))))]),[r3Z,.row 4 1 (B4 i 1) (AK i (fun k=>bV (h k)) (bV (Au (f i))))]⟩):=Aa [true,true,true] [ilt (ofNat i) (ofNat n),Af (ile 0 (ofNat i)) (ilt (ofNat i) (ofNat n)),Bj i 1 1] (by kernel_rfl) (by simp only [h1] <;> simp only [h0,h2] <;> rfl)
end
def Pw (n:Nat) (f:Nat->E6) :St:=⟨(jsV 21 0 (fun _=>A7) [(0,(.sl 6 n (fun i=>eV (f i)))),(2,(.ref 0)),(3,(.ref 1)),(4,(iV 0))]),[r3Z,.row 4 1 0 (fun _=>.und)]⟩
theorem Ajg (L:LT) (p0:PT) (n:Nat) (f:Nat->E6) (q:Nat->Bool) (h0:Ca n = true) (h10:Bg [.row 3 1 n (fun _=>iV 0)] = true) (hp0:p0 (body95 (onP 0 p0 (S8 n f n q) L)) (Pw n f) = true):(A1 (Al tab ⟨Ao Tl,onP 0 p0 (S8 n f n q) L,Gl⟩ Try.f67 [A2 n f] [])).sem = some ((.ref 0),[.row 3 1 n (fun k=>iV (A0 q n k))]):=Aa [true,true,true,true] [p0 (body95 (onP 0 p0 (S8 n f n q) L)) (Pw n f),An n (fun _=>true),Ca n,Bg [.row 3 1 n (fun _=>iV 0)]] (by kernel_rfl) (by simp only [hp0] <;> simp only [h0,h10,Ar,BY] <;> rfl)
theorem run95 (L:LT) (n:Nat) (f:Nat->E6) (h8:n * 8 <= 140737488355328):∀ (e i:Nat) (j:Nat->V) (q:Nat),n = i+e->e < q ->
    (A3 (body95 L) (lp95 n f) q (st95 n f i (Jo (fun k=>Au (f k)) i) j)).sem = some (S8 n f n (Jo (fun k=>Au (f k)) n))
  | 0,i,j,q+1,h,_=>by
    have:n = i:=by omega
    subst this
    exact Ab (AhV L n f _ _ j (A8 (Nat.le_refl _)))
  | e+1,i,j,q+1,h,h2=>by
    have hl:i < n:=by omega
    have ha:Bj i 1 1 = true:=CS (by omega)
    rw [Ab (AhU L n f i (Jo (fun k=>Au (f k)) i) j (ofNat_lt hl) (Ay hl) ha),Aw,Aq hl (by omega)]
    have:=OY (fun k=>Au (f k)) i
    rw [this]
    exact run95 L n f h8 e (i+1) (fun _=>.und) q (by omega) (by omega)
def ZY:List (Nat × List (Nat × V)):=[(0,[(1,bV false)])]
theorem AfP (n:Nat) (f:Nat->E6):CI (Pw n f) [(1,bV false)] = st95 n f 0 (fun _=>false) (fun i=>nth (Pw n f).t i):=by kernel_rfl
def Qd:List V->T (V × List Blk):=GS fun n f=>.br (AL n) (.leaf (.ref 0,[.row 3 1 n fun k=>iV (A0 (fun k=>Au (f k)) n k)])) .fail
theorem p95:AD Try.prog Gl 67 Qd:=by
  refine A5 AO AP Try.func67 (by kernel_rfl) (by kernel_rfl) fun vs v h' h=>?_
  obtain ⟨n,f,ha,h1⟩:=CK h
  obtain ⟨hn,hq⟩:=Ag h1
  have:=Ac hq
  simp only [Prod.mk.injEq] at this
  obtain ⟨rfl,rfl⟩:=this
  have hx:=JH U3 ZY [(0,lp95 n f)]
  have hL:=DI ZY [(0,lp95 n f)]
  have h0:∀ L,(C2 ZY [(0,lp95 n f)] 0 (body95 L) (Pw n f)).sem = some (S8 n f n (Jo (fun k=>Au (f k)) n)):=fun L=>by
    show (A3 (body95 L) (lp95 n f) (n+1) (CI (Pw n f) [(1,bV false)])).sem = _
    rw [AfP,<- Yi (fun k=>Au (f k))]
    exact run95 L n f (Ht hn) n 0 _ (n+1) (by omega) (by omega)
  have hw:=A6 (Ax hL hL) _ (Ajg _ _ n f _ (ET hn) BY (Ak (h0 _)))
  rw [Nf (fun k=>Au (f k)) n] at hw
  exact ⟨_,cxZ Gl Tl ZY [(0,lp95 n f)],_,ha,rfl,hx.1,hx.2,hw,AB.refl _⟩
noncomputable def tb53:List (Nat × (List V->T (V × List Blk))):=(94,Ai6) :: (66,Qe) :: (67,Qd) :: []
theorem tb53_ok:AF Try.prog Gl tb53:=.cons p98 <| .cons p94 <| .cons p95 .nil
def JZ (g:Nat->(Nat->E6)->Nat->Int):List V->T (V × List Blk):=GS fun n f=>.br (AL n) (match BI n f with
  | true=>.leaf (.tup [.ref 0,iV 0],[.row 3 1 n fun k=>iV (g n f k)])
  | false=>.leaf (.tup [.ref 0,iV 30],[.row 3 1 0 fun _=>.und])) .fail
section
variable (L:LT) (n:Nat) (f:Nat->E6)
include L n f
theorem Aj0 (h0:Ah n = true) (h1:BI n f = true) (h2:AL n = true):(A1 (Al tab ⟨Ao tb53,L,Gl⟩ Try.f57 [A2 n f] [])).sem = some ((.tup [.ref 0,iV 0]),[.row 3 1 n (fun k=>iV (A0 (fun k=>Az (f k)) n k))]):=Aa [true,true,false,true,true] [An n (fun _=>true),Ah n,Am (BI n f),An n (fun _=>true),AL n] (by kernel_rfl) (by simp only [*,Ar] <;> rfl)
theorem Aj1 (h0:Ah n = true) (h1:BI n f = false):(A1 (Al tab ⟨Ao tb53,L,Gl⟩ Try.f57 [A2 n f] [])).sem = some ((.tup [.ref 0,iV 30]),[r3Z]):=Aa [true,true,true] [An n (fun _=>true),Ah n,Am (BI n f)] (by kernel_rfl) (by simp only [h0,h1,Ar] <;> rfl)
theorem Ajy (h0:Ah n = true) (h1:BI n f = true) (h2:AL n = true):(A1 (Al tab ⟨Ao tb53,L,Gl⟩ Try.f58 [A2 n f] [])).sem = some ((.tup [.ref 0,iV 0]),[.row 3 1 n (fun k=>iV (A0 (fun k=>Au (f k)) n k))]):=Aa [true,true,false,true,true] [An n (fun _=>true),Ah n,Am (BI n f),An n (fun _=>true),AL n] (by kernel_rfl) (by simp only [*,Ar] <;> rfl)
theorem Ajz (h0:Ah n = true) (h1:BI n f = false):(A1 (Al tab ⟨Ao tb53,L,Gl⟩ Try.f58 [A2 n f] [])).sem = some ((.tup [.ref 0,iV 30]),[r3Z]):=Aa [true,true,true] [An n (fun _=>true),Ah n,Am (BI n f)] (by kernel_rfl) (by simp only [h0,h1,Ar] <;> rfl)
end
theorem p53:AD Try.prog Gl 57 (JZ fun n f=>A0 (fun k=>Az (f k)) n):=by
  refine A5 AO AP Try.func57 (by kernel_rfl) (by kernel_rfl) fun vs v h' h=>?_
  obtain ⟨n,f,ha,h1⟩:=CK h
  obtain ⟨hn,hq⟩:=Ag h1
  have hx:=AQ tb53_ok []
  have hs:Ah n = true:=Zh (ET hn)
  cases hm:BI n f with
  | true =>
    rw [hm] at hq
    have:=Ac hq
    simp only [Prod.mk.injEq] at this
    obtain ⟨rfl,rfl⟩:=this
    exact ⟨_,AR Gl tb53 [],_,ha,rfl,hx.1,hx.2,Aj0 _ n f hs hm hn,AB.refl _⟩
  | false =>
    rw [hm] at hq
    have:=Ac hq
    simp only [Prod.mk.injEq] at this
    obtain ⟨rfl,rfl⟩:=this
    exact ⟨_,AR Gl tb53 [],_,ha,rfl,hx.1,hx.2,Aj1 _ n f hs hm,AB.refl _⟩
theorem p54:AD Try.prog Gl 58 (JZ fun n f=>A0 (fun k=>Au (f k)) n):=by
  refine A5 AO AP Try.func58 (by kernel_rfl) (by kernel_rfl) fun vs v h' h=>?_
  obtain ⟨n,f,ha,h1⟩:=CK h
  obtain ⟨hn,hq⟩:=Ag h1
  have hx:=AQ tb53_ok []
  have hs:Ah n = true:=Zh (ET hn)
  cases hm:BI n f with
  | true =>
    rw [hm] at hq
    have:=Ac hq
    simp only [Prod.mk.injEq] at this
    obtain ⟨rfl,rfl⟩:=this
    exact ⟨_,AR Gl tb53 [],_,ha,rfl,hx.1,hx.2,Ajy _ n f hs hm hn,AB.refl _⟩
  | false =>
    rw [hm] at hq
    have:=Ac hq
    simp only [Prod.mk.injEq] at this
    obtain ⟨rfl,rfl⟩:=this
    exact ⟨_,AR Gl tb53 [],_,ha,rfl,hx.1,hx.2,Ajz _ n f hs hm,AB.refl _⟩
end Go.Proofs.Ytjhnfomefcngfaa.Ed
