/-
  Layer 7, plain: the program's numbering of parts by first occurrence is the document's. No program here, no conditions.
-/
import Derived.Test.YtjhnfomefcngfaaShA
namespace Go.Proofs.Ytjhnfomefcngfaa.Sh
open Go.Sy Ed
inductive Begin (p:Nat->Bool) (n:Nat):Nat->Prop
 | none:(∀ k,k < n->p k = false)->Begin p n 0
 | last:0 < n->p (n - 1) = true->Begin p n 0
 | first {z:Nat}:0 < z->z < n->p (z - 1) = true->(∀ k,k < z - 1->p k = false)->p (n - 1) = false->Begin p n z
theorem GJ {p:Nat->Bool}:∀ {k:Nat},(∀ i,i < k->p i = false)->Al p k = 0
 | 0,_=>rfl
 | k+1,h=>by rw [By (h k (Nat.lt_succ_self k)),GJ λi hi=>h i (by omega)]
theorem LP (p:Nat->Bool) (k:Nat):Al p (k+1) = Al p k ∨ Al p (k+1) = Al p k+1:=by
 cases h:p k with
 | true=>exact .inr (Bl h)
 | false=>exact .inl (By h)
def DP (p:Nat->Bool) (n z t:Nat):Bool:=p ((z+t) % n)
theorem GH {p:Nat->Bool} {n z:Nat}:∀ {t:Nat},z+t <= n->Al (DP p n z) t+Al p z = Al p (z+t)
 | 0,_=>by simp [Al]
 | t+1,h=>by
  have ih:=GH (p:=p) (n:=n) (z:=z) (t:=t) (by omega)
  have he:DP p n z t = p (z+t):=by unfold DP; rw [Nat.mod_eq_of_lt (by omega)]
  rw [show z+(t+1) = z+t+1 by omega]
  cases hp:p (z+t) with
  | true=>rw [Bl (he.trans hp),Bl hp]; omega
  | false=>rw [By (he.trans hp),By hp]; exact ih
theorem Qc {p:Nat->Bool} {n z:Nat} (hz:z <= n):∀ {i:Nat},i <= z->Al (DP p n z) (n - z+i)+Al p z = Al p n+Al p i
 | 0,_=>by
  have:=GH (p:=p) (n:=n) (z:=z) (t:=n - z) (by omega)
  rw [show z+(n - z) = n by omega] at this
  simpa [Al] using this
 | i+1,h=>by
  have ih:=Qc (p:=p) (n:=n) (z:=z) hz (i:=i) (by omega)
  have he:DP p n z (n - z+i) = p i:=by
   unfold DP
   rw [show z+(n - z+i) = i+n by omega,Nat.add_mod_right,Nat.mod_eq_of_lt (by omega)]
  rw [show n - z+(i+1) = n - z+i+1 by omega]
  cases hp:p i with
  | true=>rw [Bl (he.trans hp),Bl hp]; omega
  | false=>rw [By (he.trans hp),By hp]; exact ih
def posN (n z i:Nat):Nat:=(i+(n - z)) % n
def AZ (p:Nat->Bool) (n k:Nat):Nat:=if Al p k = Al p n then 0 else Al p k
theorem FS {p:Nat->Bool} {n k:Nat} (h:k < n):A0 p n k = Int.ofNat (AZ p n k):=by
 unfold A0 AZ
 rw [show decide (k < n) = true by simpa using h]
 simp only [cond_true]
 by_cases he:Al p k = Al p n
 ·simp [he]
 ·simp [he]
def snN (p:Nat->Bool) (n z v:Nat):Nat:=if z = 0 then v else if v = 0 then Al p n - 1 else v - 1
theorem Ac8 {p:Nat->Bool} {n z:Nat} (hb:Begin p n z) {i:Nat} (hi:i < n):Al (DP p n z) (posN n z i) = snN p n z (AZ p n i):=by
 have hmi:=Bc p (show i <= n by omega)
 cases hb with
 | none h0 =>
  have h1:Al p n = 0:=GJ h0
  have h2:posN n 0 i = i:=by unfold posN; rw [Nat.sub_zero,Nat.add_mod_right,Nat.mod_eq_of_lt hi]
  have h3:=GH (p:=p) (n:=n) (z:=0) (t:=i) (by omega)
  rw [Nat.zero_add] at h3
  rw [h2]
  unfold snN AZ
  rw [if_pos rfl,h1]
  simp [Al] at h3
  rw [h3]
  split <;> omega
 | last hn h0 =>
  have h2:posN n 0 i = i:=by unfold posN; rw [Nat.sub_zero,Nat.add_mod_right,Nat.mod_eq_of_lt hi]
  have h3:=GH (p:=p) (n:=n) (z:=0) (t:=i) (by omega)
  rw [Nat.zero_add] at h3
  have h4:Al p n = Al p (n - 1)+1:=by
   have:=Bl h0
   rwa [show n - 1+1 = n by omega] at this
  have h5:=Bc p (show i <= n - 1 by omega)
  rw [h2]
  unfold snN AZ
  rw [if_pos rfl]
  simp [Al] at h3
  rw [h3,if_neg (by omega)]
 | first hz hzn h0 h1 h2 =>
  have c0:Al p (z - 1) = 0:=GJ h1
  have c1:Al p z = 1:=by
   have:=Bl h0
   rwa [show z - 1+1 = z by omega,c0] at this
  have hK:=Bc p (show z <= n by omega)
  unfold snN AZ
  rw [if_neg (by omega)]
  rcases Nat.lt_or_ge i z with hc | hc
  ·have e1:posN n z i = n - z+i:=by unfold posN; rw [Nat.mod_eq_of_lt (by omega)]; omega
   have e2:=Qc (p:=p) (n:=n) (z:=z) (by omega) (i:=i) (by omega)
   have e3:Al p i = 0:=GJ λk hk=>h1 k (by omega)
   have e4:(if Al p i = Al p n then 0 else Al p i) = 0:=by split <;> omega
   rw [e1,if_pos e4]
   omega
  ·have e1:posN n z i = i - z:=by unfold posN; rw [show i+(n - z) = i - z+n by omega,Nat.add_mod_right,Nat.mod_eq_of_lt (by omega)]
   have e2:=GH (p:=p) (n:=n) (z:=z) (t:=i - z) (by omega)
   rw [show z+(i - z) = i by omega] at e2
   have e3:=Bc p hc
   rw [e1]
   by_cases he:Al p i = Al p n
   ·rw [if_pos he,if_pos rfl]; omega
   ·rw [if_neg he,if_neg (by omega:¬ Al p i = 0)]; omega
theorem YR {p:Nat->Bool} {n z u v:Nat} (hu:u <= v) (hv:v = 0 ∨ v < Al p n) (h:snN p n z u = snN p n z v):u = v:=by
 unfold snN at h
 split at h
 ·exact h
 ·split at h <;> split at h <;> omega
def rN (p:Nat->Bool) (n:Nat):Nat->Nat
 | 0=>0
 | b+1=>if AZ p n b < rN p n b then rN p n b else rN p n b+1
theorem NH {p:Nat->Bool} {n k:Nat} (h:k <= n):AZ p n k = 0 ∨ AZ p n k < Al p n:=by
 have:=Bc p h
 unfold AZ
 split
 ·exact .inl rfl
 ·exact .inr (by omega)
theorem Z8 (p:Nat->Bool) (n:Nat):AZ p n 0 = 0:=by
 have h:Al p 0 = 0:=rfl
 unfold AZ
 split
 ·rfl
 ·exact h
theorem Z5 (p:Nat->Bool) (n:Nat):∀ b,b < n->rN p n (b+1) = if Al p b = Al p n then max (Al p n) 1 else Al p b+1
 | 0,h=>by
  have h1:rN p n (0+1) = 1:=by
   rw [rN,Z8]
   simp [rN]
  have h2:Al p 0 = 0:=rfl
  rw [h1,h2]
  split <;> omega
 | b+1,h=>by
  have ih:=Z5 p n b (by omega)
  have h1:=Bc p (show b+1 <= n by omega)
  have h2:=Bc p (show b <= n by omega)
  have h3:=Bc p (show b <= b+1 by omega)
  have h4:=LP p b
  rw [rN,ih]
  unfold AZ
  by_cases e1:Al p (b+1) = Al p n
  ·rw [if_pos e1,if_pos e1]
   by_cases e2:Al p b = Al p n
   ·rw [if_pos e2,if_pos (by omega)]
   ·rw [if_neg e2,if_pos (by omega)]; omega
  ·rw [if_neg e1,if_neg e1]
   have e2:¬ Al p b = Al p n:=by omega
   rw [if_neg e2]
   split <;> omega
theorem Kh (p:Nat->Bool) (n:Nat):∀ b,b < n->AZ p n b <= rN p n b
 | 0,h=>by
  rw [Z8]
  exact Nat.zero_le _
 | b+1,h=>by
  rw [Z5 p n b (by omega)]
  have h1:=Bc p (show b+1 <= n by omega)
  have h4:=LP p b
  have h3:=Bc p (show b <= b+1 by omega)
  unfold AZ
  split
  ·omega
  ·split <;> omega
theorem S3 (p:Nat->Bool) (n:Nat):∀ b,rN p n b <= b
 | 0=>Nat.le_refl _
 | b+1=>by
  have:=S3 p n b
  simp only [rN]
  split <;> omega
theorem Aen (p:Nat->Bool) (n:Nat):∀ b,b <= n->∀ v,v < rN p n b->v = 0 ∨ v < Al p n
 | 0,_,v,h=>by simp [rN] at h
 | b+1,hb,v,h=>by
  have ih:=Aen p n b (by omega) v
  simp only [rN] at h
  split at h
  ·exact ih h
  ·rename_i h2
   have h3:=Kh p n b (by omega)
   by_cases hv:v < rN p n b
   ·exact ih hv
   ·have:v = AZ p n b:=by omega
    rw [this]
    exact NH (by omega)
end Go.Proofs.Ytjhnfomefcngfaa.Sh
namespace Go.Proofs.Ytjhnfomefcngfaa.Ed
open Go.Sy
open Int (ofNat)
def C3 (a:Int) (f:Nat->E6) (i:Nat):Bool:=AG (Ak (ieq (DT a (f i)) 0) (Hm a (f i)))
def Fl (n:Nat) (f:Nat->E6) (i:Nat):Bool:=AG (ieq (f i).dst (f ((i+1) % n)).src)
noncomputable def RU:List (Nat × (List V->T (V × List Blk))):=(110,ap2 gI toE λa e=>out (SU a e)) :: []
theorem AbM:AA Try.prog Gl RU:=.cons p32 .nil
theorem NP {i n:Nat} (h:i < n) (hn:n <= 4611686018427387904):Ae (wr .i64 (Af (ofNat i) 1)) (ofNat n) = ofNat ((i+1) % n):=by rw [Ao h hn,C5]
theorem X8 {i n:Nat} (h:i < n):ieq (ofNat n) 0 = false:=by rw [show (0:Int) = ofNat 0 from rfl,Dv,decide_eq_false (by omega)]
def SM (_:Int) (n:Nat) (_:Nat->E6):Lp:=⟨(bmK 53 0 [0,1,4,5,12,13,14]),0,bmK 53 0 [1,4,5],0,n+1⟩
def Qz (a:Int) (n:Nat) (f:Nat->E6) (i:Nat) (j:Nat->V):St:=⟨(jsV 53 0 j [(0,iV a),(1,.sl 6 n (λi=>eV (f i))),(4,iV 0),(5,iV 0),(12,.sl 6 n (λi=>eV (f i))),(13,nV n),(14,nV i)]),[]⟩
def O6 (_:Int) (n:Nat) (f:Nat->E6) (_:Nat):Ex × St:=(.ex 0,⟨(jsV 53 0 (λ_=>.und) [(1,.sl 6 n (λi=>eV (f i))),(4,iV 0),(5,iV 0)]),[]⟩)
def AaG (_:Int) (n:Nat) (f:Nat->E6) (i:Nat):Ex × St:=(.rt,⟨(jsV 53 0 (λ_=>.und) [(1,.sl 6 n (λi=>eV (f i))),(4,iV 30),(5,nV i)]),[]⟩)
def AaF (_:Int) (n:Nat) (f:Nat->E6) (i:Nat):Ex × St:=(.rt,⟨(jsV 53 0 (λ_=>.und) [(1,.sl 6 n (λi=>eV (f i))),(4,iV 5),(5,nV i)]),[]⟩)
noncomputable def Hz (L:LT):St->T (Ex × St):=λst=>AC tab ⟨Am RU,L,Gl⟩ (Au Try.f81 0) 0 st
section
variable (L:LT) (a:Int) (n:Nat) (f:Nat->E6) (i:Nat)  (j:Nat->V)
include L a n f i j
theorem AkR (h0:ilt (ofNat i) (ofNat n) = false):Ah (Hz L) (SM a n f) (Qz a n f i j) = some ((.ex 0),⟨(jsV 53 0 (λ_=>.und) [(1,(.sl 6 n (λi=>(eV (f i))))),(4,(iV 0)),(5,(iV 0))]),[]⟩):=by
 exact Aa (ks:=[kn h0]) (by kernel_rfl)
theorem AkQ (h0:ilt (ofNat i) (ofNat n) = true) (h1:Ak (ile 0 (ofNat i)) (ilt (ofNat i) (ofNat n)) = true) (h2:ieq (DT a (f i)) 0 = false):Ah (Hz L) (SM a n f) (Qz a n f i j) = some (.rt,⟨(jsV 53 0 (λ_=>.und) [(1,(.sl 6 n (λi=>(eV (f i))))),(4,(iV 30)),(5,(nV i))]),[]⟩):=by
 exact Aa (ks:=[kn h0,kn h1,kN (kn h2)]) (by kernel_rfl)
theorem AkP (h0:ilt (ofNat i) (ofNat n) = true) (h1:Ak (ile 0 (ofNat i)) (ilt (ofNat i) (ofNat n)) = true) (h2:ieq (DT a (f i)) 0 = true) (h3:Hm a (f i) = false):Ah (Hz L) (SM a n f) (Qz a n f i j) = some (.rt,⟨(jsV 53 0 (λ_=>.und) [(1,(.sl 6 n (λi=>(eV (f i))))),(4,(iV 5)),(5,(nV i))]),[]⟩):=by
 exact Aa (ks:=[kn h0,kn h1,kN (kn h2),kN (kn h3)]) (by kernel_rfl)
theorem AkO (h0:ilt (ofNat i) (ofNat n) = true) (h1:Ak (ile 0 (ofNat i)) (ilt (ofNat i) (ofNat n)) = true) (h2:ieq (DT a (f i)) 0 = true) (h3:Hm a (f i) = true):Ah (Hz L) (SM a n f) (Qz a n f i j) = some (.nm,⟨(jsV 53 0 (λ_=>.und) [(0,(iV a)),(1,(.sl 6 n (λi=>(eV (f i))))),(4,(iV 0)),(5,(iV 0)),(12,(.sl 6 n (λi=>(eV (f i))))),(13,(nV n)),(14,(iV (wr .i64 (Af (ofNat i) 1))))]),[]⟩):=by
 exact Aa (ks:=[kn h0,kn h1,kN (kn h2),kN (kn h3)]) (by kernel_rfl)
end
def Adt (_:Int) (_:Nat) (_:Nat->E6) :Nat->V:=lkV A9 []
def J1 (_:Int) (n:Nat) (_:Nat->E6):Lp:=⟨(bmK 53 0 [1,4,5,32,33,34]),0,bmK 53 0 [4,5],0,n+1⟩
def Lq (_:Int) (n:Nat) (f:Nat->E6) (i:Nat) (j:Nat->V):St:=⟨(jsV 53 0 j [(1,.sl 6 n (λi=>eV (f i))),(4,iV 0),(5,iV 0),(32,.sl 6 n (λi=>eV (f i))),(33,nV n),(34,nV i)]),[]⟩
def MU (_:Int) (_:Nat) (_:Nat->E6) (_:Nat):Ex × St:=(.ex 2,⟨(jsV 53 0 (λ_=>.und) [(4,iV 0),(5,iV 0)]),[]⟩)
def MT (_:Int) (_:Nat) (_:Nat->E6) (i:Nat):Ex × St:=(.rt,⟨(jsV 53 0 (λ_=>.und) [(4,iV 41),(5,nV i)]),[]⟩)
noncomputable def GO (L:LT):St->T (Ex × St):=λst=>AC tab ⟨Am RU,L,Gl⟩ (Au Try.f81 2) 2 st
section
variable (L:LT) (a:Int) (n:Nat) (f:Nat->E6) (i:Nat)  (j:Nat->V)
include L a n f i j
theorem Ak6 (h0:ilt (ofNat i) (ofNat n) = false):Ah (GO L) (J1 a n f) (Lq a n f i j) = some ((.ex 2),⟨(jsV 53 0 (λ_=>.und) [(4,(iV 0)),(5,(iV 0))]),[]⟩):=by
 exact Aa (ks:=[kn h0]) (by kernel_rfl)
theorem Ak5 (h0:ilt (ofNat i) (ofNat n) = true) (h1:Ak (ile 0 (ofNat i)) (ilt (ofNat i) (ofNat n)) = true) (h2:ieq (ofNat n) 0 = false) (h3:Ak (ile 0 (Ae (wr .i64 (Af (ofNat i) 1)) (ofNat n))) (ilt (Ae (wr .i64 (Af (ofNat i) 1)) (ofNat n)) (ofNat n)) = true) (h4:ieq ((f i)).dst ((f (toN (Ae (wr .i64 (Af (ofNat i) 1)) (ofNat n))))).src = false):Ah (GO L) (J1 a n f) (Lq a n f i j) = some (.rt,⟨(jsV 53 0 (λ_=>.und) [(4,(iV 41)),(5,(nV i))]),[]⟩):=by
 exact Aa (ks:=[kn h0,kn h1,kn h2,kn h3,kN (kn h4)]) (by kernel_rfl)
theorem Ak4 (h0:ilt (ofNat i) (ofNat n) = true) (h1:Ak (ile 0 (ofNat i)) (ilt (ofNat i) (ofNat n)) = true) (h2:ieq (ofNat n) 0 = false) (h3:Ak (ile 0 (Ae (wr .i64 (Af (ofNat i) 1)) (ofNat n))) (ilt (Ae (wr .i64 (Af (ofNat i) 1)) (ofNat n)) (ofNat n)) = true) (h4:ieq ((f i)).dst ((f (toN (Ae (wr .i64 (Af (ofNat i) 1)) (ofNat n))))).src = true):Ah (GO L) (J1 a n f) (Lq a n f i j) = some (.nm,⟨(jsV 53 0 (λ_=>.und) [(1,(.sl 6 n (λi=>(eV (f i))))),(4,(iV 0)),(5,(iV 0)),(32,(.sl 6 n (λi=>(eV (f i))))),(33,(nV n)),(34,(iV (wr .i64 (Af (ofNat i) 1))))]),[]⟩):=by
 exact Aa (ks:=[kn h0,kn h1,kn h2,kn h3,kN (kn h4)]) (by kernel_rfl)
end
def Aah (_:Int) (_:Nat) (_:Nat->E6) (_:Nat):Nat->V:=lkV A9 [(0,.und),(2,.und),(3,.und),(6,.und),(7,.und),(8,.und),(9,.und),(10,.und),(11,.und),(12,.und),(13,.und),(14,.und),(15,.und),(16,.und),(17,.und),(18,.und),(19,.und),(20,.und),(21,.und),(22,.und),(23,.und),(24,.und),(25,.und),(26,.und),(27,.und),(28,.und),(29,.und),(30,.und),(31,.und),(35,.und),(36,.und),(37,.und),(38,.und),(39,.und),(40,.und),(41,.und),(42,.und),(43,.und),(44,.und),(45,.und),(46,.und),(47,.und),(48,.und),(49,.und),(50,.und),(51,.und),(52,.und)]
section
variable (L:LT) (p0:PT) (a:Int) (n:Nat) (f:Nat->E6) (i:Nat)
include L p0 a n f i
theorem AiM  (hp0:p0 (Hz (onP 0 p0 (AaG a n f i) L)) (Qz a n f 0 (Adt a n f )) = true):(Ar (Ai tab ⟨Am RU,(onP 0 p0 (AaG a n f i) L),Gl⟩ Try.f81 [iV a,Az n f] [])).sem = some ((.tup [(iV 30),(nV i)]),[]):=by
 exact Aa (ks:=[kn hp0]) (by kernel_rfl)
theorem AiL  (hp0:p0 (Hz (onP 0 p0 (AaF a n f i) L)) (Qz a n f 0 (Adt a n f )) = true):(Ar (Ai tab ⟨Am RU,(onP 0 p0 (AaF a n f i) L),Gl⟩ Try.f81 [iV a,Az n f] [])).sem = some ((.tup [(iV 5),(nV i)]),[]):=by
 exact Aa (ks:=[kn hp0]) (by kernel_rfl)
end
section
variable (L:LT) (p0:PT) (p2:PT) (a:Int) (n:Nat) (f:Nat->E6) (i j:Nat)
include L p0 p2 a n f i j
theorem AiK  (hp0:p0 (Hz (onP 0 p0 (O6 a n f i) (onP 2 p2 (MT a n f j) L))) (Qz a n f 0 (Adt a n f )) = true) (hp2:p2 (GO (onP 0 p0 (O6 a n f i) (onP 2 p2 (MT a n f j) L))) (Lq a n f 0 (Aah a n f i)) = true):(Ar (Ai tab ⟨Am RU,(onP 0 p0 (O6 a n f i) (onP 2 p2 (MT a n f j) L)),Gl⟩ Try.f81 [iV a,Az n f] [])).sem = some ((.tup [(iV 41),(nV j)]),[]):=by
 exact Aa (ks:=[kn hp0,kn hp2]) (by kernel_rfl)
theorem AiJ  (hp0:p0 (Hz (onP 0 p0 (O6 a n f i) (onP 2 p2 (MU a n f j) L))) (Qz a n f 0 (Adt a n f )) = true) (hp2:p2 (GO (onP 0 p0 (O6 a n f i) (onP 2 p2 (MU a n f j) L))) (Lq a n f 0 (Aah a n f i)) = true):(Ar (Ai tab ⟨Am RU,(onP 0 p0 (O6 a n f i) (onP 2 p2 (MU a n f j) L)),Gl⟩ Try.f81 [iV a,Az n f] [])).sem = some ((.tup [(iV 0),(iV 0)]),[]):=by
 exact Aa (ks:=[kn hp0,kn hp2]) (by kernel_rfl)
end
theorem AdZ (L:LT) (a:Int) (n:Nat) (f:Nat->E6) (hn:n <= 4611686018427387904):∀ (d i:Nat) (j:Nat->V) (q:Nat),n = i+d->d < q ->
  (A4 (Hz L) (SM a n f) q (Qz a n f i j)).sem = some (match Bd (C3 a f) d i with
   | none=>O6 a n f 0
   | some t=>match ieq (DT a (f t)) 0 with
    | false=>AaG a n f t
    | true=>AaF a n f t)
 | 0,i,j,q+1,h,_=>by
  have:n = i:=by omega
  subst this
  exact Ab (AkR L a n f n j (A6 (Nat.le_refl _)))
 | d+1,i,j,q+1,h,h2=>by
  have hl:i < n:=by omega
  cases c1:ieq (DT a (f i)) 0 with
  | false =>
   rw [BV (show C3 a f i = true by rw [C3,c1]; rfl)]
   simp only [c1]
   exact Ab (AkQ L a n f i j (ofNat_lt hl) (Ap hl) c1)
  | true =>
   cases c2:Hm a (f i) with
   | false =>
    rw [BV (show C3 a f i = true by rw [C3,c1,c2]; rfl)]
    simp only [c1]
    exact Ab (AkP L a n f i j (ofNat_lt hl) (Ap hl) c1 c2)
   | true =>
    rw [B1 (show C3 a f i = false by rw [C3,c1,c2]; rfl),Ab (AkO L a n f i j (ofNat_lt hl) (Ap hl) c1 c2),Aq,Ao hl hn]
    exact AdZ L a n f hn d (i+1) (λ_=>.und) q (by omega) (by omega)
theorem Ze (L:LT) (a:Int) (n:Nat) (f:Nat->E6) (hn:n <= 4611686018427387904):∀ (d i:Nat) (j:Nat->V) (q:Nat),n = i+d->d < q ->
  (A4 (GO L) (J1 a n f) q (Lq a n f i j)).sem = some (match Bd (Fl n f) d i with
   | none=>MU a n f 0
   | some t=>MT a n f t)
 | 0,i,j,q+1,h,_=>by
  have:n = i:=by omega
  subst this
  exact Ab (Ak6 L a n f n j (A6 (Nat.le_refl _)))
 | d+1,i,j,q+1,h,h2=>by
  have hl:i < n:=by omega
  have e1:=NP hl hn
  have hb:Ak (ile 0 (Ae (wr .i64 (Af (ofNat i) 1)) (ofNat n))) (ilt (Ae (wr .i64 (Af (ofNat i) 1)) (ofNat n)) (ofNat n)) = true:=by
   rw [e1]; exact Ap (Nat.mod_lt _ (by omega))
  have e2:toN (ofNat ((i+1) % n)) = (i+1) % n:=rfl
  cases c1:ieq (f i).dst (f ((i+1) % n)).src with
  | false =>
   rw [BV (show Fl n f i = true by rw [Fl,c1]; rfl)]
   exact Ab (Ak5 L a n f i j (ofNat_lt hl) (Ap hl) (X8 hl) hb (by rw [e1,e2]; exact c1))
  | true =>
   rw [B1 (show Fl n f i = false by rw [Fl,c1]; rfl),Ab (Ak4 L a n f i j (ofNat_lt hl) (Ap hl) (X8 hl) hb (by rw [e1,e2]; exact c1)),Aq,Ao hl hn]
   exact Ze L a n f hn d (i+1) (λ_=>.und) q (by omega) (by omega)
def D6 (a:Int) (n:Nat) (f:Nat->E6):Int × Int :=
 match Bd (C3 a f) n 0 with
 | some t=>match ieq (DT a (f t)) 0 with
  | false=>(30,ofNat t)
  | true=>(5,ofNat t)
 | none=>match Bd (Fl n f) n 0 with
  | some t=>(41,ofNat t)
  | none=>(0,0)
def Aik:List V->T (V × List Blk)
 | [.val (.int .i64 a),v]=>apL v λn f=>.br (Bj n) (out (.tup [iV (D6 a n f).1,iV (D6 a n f).2])) .fail
 | _=>.fail
theorem V8 {a:Int} {v u:V} (h:∀ (S:Nat->Prop) (w:World) (c:Value),VR S w v noK c->VR S w u noK c):Bp [.val (.int .i64 a),v] [iV a,u]:=λS w cs hv=>by
 obtain ⟨c,l,rfl,q1,q2⟩:=hv
 obtain ⟨c2,l2,rfl,q3,q4⟩:=q2
 exact ⟨c,_,rfl,q1,c2,l2,rfl,h S w c2 q3,q4⟩
theorem p86:A7 Try.prog Gl 81 Aik:=by
 refine Av AL AN Try.func81 (by kernel_rfl) (by kernel_rfl) λvs v h' h=>?_
 unfold Aik at h
 split at h
 ·rename_i a u
  obtain ⟨n,f,ha,h1⟩:=Ci h
  obtain ⟨hn,hq⟩:=Ad h1
  have:=Ac hq
  simp only [Prod.mk.injEq] at this
  obtain ⟨rfl,rfl⟩:=this
  have hn:=CO (ET hn)
  have hx:=AO AbM [(0,SM a n f),(2,J1 a n f)]
  have hL:=AE [(0,SM a n f),(2,J1 a n f)]
  have h0:=λL j=>AdZ L a n f hn n 0 j (n+1) (by omega) (by omega)
  have h2:=λL j=>Ze L a n f hn n 0 j (n+1) (by omega) (by omega)
  refine ⟨_,AI Gl RU [(0,SM a n f),(2,J1 a n f)],_,V8 ha,rfl,hx.1,hx.2,?_,A8.refl _⟩
  unfold D6
  cases c1:Bd (C3 a f) n 0 with
  | some t =>
   rw [c1] at h0
   cases c2:ieq (DT a (f t)) 0 with
   | false =>
    simp only [c2] at h0 ⊢
    exact A2 (As hL hL) _ (AiM _ _ a n f t (Aj (h0 _ _)))
   | true =>
    simp only [c2] at h0 ⊢
    exact A2 (As hL hL) _ (AiL _ _ a n f t (Aj (h0 _ _)))
  | none =>
   rw [c1] at h0
   cases c2:Bd (Fl n f) n 0 with
   | some t =>
    rw [c2] at h2
    exact A2 (As (As hL hL) hL) _ (AiK _ _ _ a n f 0 t (Aj (h0 _ _)) (Aj (h2 _ _)))
   | none =>
    rw [c2] at h2
    exact A2 (As (As hL hL) hL) _ (AiJ _ _ _ a n f 0 0 (Aj (h0 _ _)) (Aj (h2 _ _)))
 ·cases h
def QX (n:Nat) (_:Nat->E6) (_:Nat) (_:Nat->Int) (_:Int) (_:Bool):Lp:=⟨(bmK 38 0 [0,1,2,3,9,10]),0,bmK 38 0 [9],0,n+1⟩
def Uf (n:Nat) (f:Nat->E6) (m:Nat) (l:Nat->Int) (k:Int) (w:Bool) (c:Int) (i:Nat) (j:Nat->V):St:=⟨(jsV 38 0 j [(0,.sl 6 n (λi=>eV (f i))),(1,.sl 1 m (λk=>iV (l k))),(2,iV k),(3,bV w),(9,iV c),(10,nV i)]),[]⟩
def AaE (_:Nat) (_:Nat->E6) (_:Nat) (_:Nat->Int) (_:Int) (_:Bool) (c:Int) (_:Nat):Ex × St:=(.ex 0,⟨(jsV 38 0 (λ_=>.und) [(9,iV c)]),[]⟩)
noncomputable def JG (L:LT):St->T (Ex × St):=λst=>AC tab ⟨Am tb0,L,Gl⟩ (Au Try.f68 0) 0 st
section
variable (L:LT) (n:Nat) (f:Nat->E6) (m:Nat) (l:Nat->Int) (k:Int) (w:Bool) (c:Int) (i:Nat)  (j:Nat->V)
include L n f m l k w c i j
theorem AkF (h0:ilt (ofNat i) (ofNat n) = false):Ah (JG L) (QX n f m l k w) (Uf n f m l k w c i j) = some ((.ex 0),⟨(jsV 38 0 (λ_=>.und) [(9,(iV c))]),[]⟩):=by
 exact Aa (ks:=[kn h0]) (by kernel_rfl)
theorem AkJ (h0:ilt (ofNat i) (ofNat n) = true) (h1:Ak (ile 0 (ofNat i)) (ilt (ofNat i) (ofNat m)) = true) (h2:ieq (l i) k = false):Ah (JG L) (QX n f m l k w) (Uf n f m l k w c i j) = some (.nm,⟨(jsV 38 0 (λ_=>.und) [(0,(.sl 6 n (λi=>(eV (f i))))),(1,(.sl 1 m (λk=>(iV (l k))))),(2,(iV k)),(3,(bV w)),(9,(iV c)),(10,(iV (wr .i64 (Af (ofNat i) 1))))]),[]⟩):=by
 exact Aa (ks:=[kn h0,kn h1,kn h2,kn h2,kn h2,kn h2,kn h2,kF]) (by kernel_rfl)
theorem AkI (h0:ilt (ofNat i) (ofNat n) = true) (h1:Ak (ile 0 (ofNat i)) (ilt (ofNat i) (ofNat m)) = true) (h2:ieq (l i) k = true) (h3:w = false):Ah (JG L) (QX n f m l k w) (Uf n f m l k w c i j) = some (.nm,⟨(jsV 38 0 (λ_=>.und) [(0,(.sl 6 n (λi=>(eV (f i))))),(1,(.sl 1 m (λk=>(iV (l k))))),(2,(iV k)),(3,(bV w)),(9,(iV (wr .i64 (Af c 1)))),(10,(iV (wr .i64 (Af (ofNat i) 1))))]),[]⟩):=by
 exact Aa (ks:=[kn h0,kn h1,kn h2,kn h2,kn h2,kN (kn h3),kN (kn h3),kN (kn h3),kN (kn h3),kN (kn h3),kN (kn h3),kn h2,kN (kn h3),kn h2,kT]) (by kernel_rfl)
theorem AkH (h0:ilt (ofNat i) (ofNat n) = true) (h1:Ak (ile 0 (ofNat i)) (ilt (ofNat i) (ofNat m)) = true) (h2:ieq (l i) k = true) (h3:w = true) (h4:Ak (ile 0 (ofNat i)) (ilt (ofNat i) (ofNat n)) = true) (h5:ieq ((f i)).src 2 = true):Ah (JG L) (QX n f m l k w) (Uf n f m l k w c i j) = some (.nm,⟨(jsV 38 0 (λ_=>.und) [(0,(.sl 6 n (λi=>(eV (f i))))),(1,(.sl 1 m (λk=>(iV (l k))))),(2,(iV k)),(3,(bV w)),(9,(iV (wr .i64 (Af c 1)))),(10,(iV (wr .i64 (Af (ofNat i) 1))))]),[]⟩):=by
 exact Aa (ks:=[kn h0,kn h1,kn h2,kn h2,kn h2,kN (kn h3),kN (kn h3),kN (kn h3),kn h4,kN (kn h3),kN (kn h3),kN (kn h3),kn h2,kN (kn h3),kn h2,kn h5]) (by kernel_rfl)
theorem AkG (h0:ilt (ofNat i) (ofNat n) = true) (h1:Ak (ile 0 (ofNat i)) (ilt (ofNat i) (ofNat m)) = true) (h2:ieq (l i) k = true) (h3:w = true) (h4:Ak (ile 0 (ofNat i)) (ilt (ofNat i) (ofNat n)) = true) (h5:ieq ((f i)).src 2 = false):Ah (JG L) (QX n f m l k w) (Uf n f m l k w c i j) = some (.nm,⟨(jsV 38 0 (λ_=>.und) [(0,(.sl 6 n (λi=>(eV (f i))))),(1,(.sl 1 m (λk=>(iV (l k))))),(2,(iV k)),(3,(bV w)),(9,(iV c)),(10,(iV (wr .i64 (Af (ofNat i) 1))))]),[]⟩):=by
 exact Aa (ks:=[kn h0,kn h1,kn h2,kn h2,kn h2,kN (kn h3),kN (kn h3),kN (kn h3),kn h4,kN (kn h3),kN (kn h3),kN (kn h3),kn h2,kN (kn h3),kn h2,kn h5]) (by kernel_rfl)
end
def Anx (_:Nat) (_:Nat->E6) (_:Nat) (_:Nat->Int) (_:Int) (_:Bool) :Nat->V:=lkV A9 [(8,(iV 0))]
theorem AlZ (L:LT) (p0:PT) (n:Nat) (f:Nat->E6) (m:Nat) (l:Nat->Int) (k:Int) (w:Bool) (c:Int) (i:Nat)  (hp0:p0 (JG (onP 0 p0 (AaE n f m l k w c i) L)) (Uf n f m l k w 0 0 (Anx n f m l k w )) = true):(Ar (Ai tab ⟨Am tb0,(onP 0 p0 (AaE n f m l k w c i) L),Gl⟩ Try.f68 [Az n f,Cf m l,iV k,bV w] [])).sem = some ((iV c),[]):=by
 exact Aa (ks:=[kn hp0]) (by kernel_rfl)
def isW (e:E6):Bool:=ieq e.src 2
def Cz (l:Nat->Int) (c:Nat->Bool) (k:Int) (i:Nat):Bool:=Ak (ieq (l i) k) (c i)
def Gr (n:Nat) (l:Nat->Int) (c:Nat->Bool) (k:Int):Int:=ofNat (Al (Cz l c k) n)
def ofW (w:Bool) (f:Nat->E6) (i:Nat):Bool:=bor (AG w) (isW (f i))
theorem Su (L:LT) (n:Nat) (f:Nat->E6) (l:Nat->Int) (k:Int) (w:Bool) (hn:n <= 4611686018427387904):∀ (d i:Nat) (j:Nat->V) (q:Nat),n = i+d->d < q ->
  (A4 (JG L) (QX n f n l k w) q (Uf n f n l k w (ofNat (Al (Cz l (ofW w f) k) i)) i j)).sem = some (AaE n f n l k w (ofNat (Al (Cz l (ofW w f) k) n)) n)
 | 0,i,j,q+1,h,_=>by
  have:n = i:=by omega
  subst this
  exact Ab (AkF L n f n l k w (ofNat (Al (Cz l (ofW w f) k) n)) n j (A6 (Nat.le_refl _)))
 | d+1,i,j,q+1,h,h2=>by
  have hl:i < n:=by omega
  have hc:=Be (Cz l (ofW w f) k) i
  have yes:Cz l (ofW w f) k i = true->wr .i64 (Af (ofNat (Al (Cz l (ofW w f) k) i)) 1) = ofNat (Al (Cz l (ofW w f) k) (i+1)):=λh3=>by
   rw [Ao (show Al (Cz l (ofW w f) k) i < n by omega) hn,Bl h3]
  have no:Cz l (ofW w f) k i = false->ofNat (Al (Cz l (ofW w f) k) i) = ofNat (Al (Cz l (ofW w f) k) (i+1)):=λh3=>by rw [By h3]
  cases c1:ieq (l i) k with
  | false =>
   rw [Ab (AkJ L n f n l k w (ofNat (Al (Cz l (ofW w f) k) i)) i j (ofNat_lt hl) (Ap hl) c1),Aq,Ao hl hn,no (by rw [Cz,c1]; rfl)]
   exact Su L n f l k w hn d (i+1) (λ_=>.und) q (by omega) (by omega)
  | true =>
   cases c2:w with
   | false =>
    subst c2
    rw [Ab (AkI L n f n l k false (ofNat (Al (Cz l (ofW false f) k) i)) i j (ofNat_lt hl) (Ap hl) c1 rfl),Aq,Ao hl hn,yes (by rw [Cz,c1]; rfl)]
    exact Su L n f l k false hn d (i+1) (λ_=>.und) q (by omega) (by omega)
   | true =>
    subst c2
    cases c3:ieq (f i).src 2 with
    | true =>
     rw [Ab (AkH L n f n l k true (ofNat (Al (Cz l (ofW true f) k) i)) i j (ofNat_lt hl) (Ap hl) c1 rfl (Ap hl) c3),Aq,Ao hl hn,yes (by rw [Cz,c1,ofW,isW,c3]; rfl)]
     exact Su L n f l k true hn d (i+1) (λ_=>.und) q (by omega) (by omega)
    | false =>
     rw [Ab (AkG L n f n l k true (ofNat (Al (Cz l (ofW true f) k) i)) i j (ofNat_lt hl) (Ap hl) c1 rfl (Ap hl) c3),Aq,Ao hl hn,no (by rw [Cz,c1,ofW,isW,c3]; rfl)]
     exact Su L n f l k true hn d (i+1) (λ_=>.und) q (by omega) (by omega)
def Abh:List V->T (V × List Blk)
 | [v,u,.val (.int .i64 k),.val (.bool w)]=>apL v λn f=>apI u λm l=>.br (AD n m) (.br (Ag n) (out (iV (Gr n l (λi=>bor (AG w) (isW (f i))) k))) .fail) .fail
 | _=>.fail
theorem p96:A7 Try.prog Gl 68 Abh:=by
 refine Av AL AN Try.func68 (by kernel_rfl) (by kernel_rfl) λvs v h' h=>?_
 unfold Abh at h
 split at h
 ·rename_i v1 u1 k w
  obtain ⟨n,f,ha,h1⟩:=Ci h
  obtain ⟨m,l,hb,h2⟩:=ED h1
  obtain ⟨hm,h3⟩:=Ad h2
  obtain ⟨hn,hq⟩:=Ad h3
  have hm:n = m:=Nat.eq_of_beq_eq_true hm
  subst hm
  have:=Ac hq
  simp only [Prod.mk.injEq] at this
  obtain ⟨rfl,rfl⟩:=this
  have hn:n <= 4611686018427387904:=of_decide_eq_true hn
  have hA:Bp [v1,u1,.val (.int .i64 k),.val (.bool w)] [Az n f,Cf n l,iV k,bV w]:=λS w' cs hv=>by
   obtain ⟨c,l1,rfl,q1,c2,l2,rfl,q2,q3⟩:=hv
   exact ⟨c,_,rfl,ha S w' c q1,c2,l2,rfl,hb S w' c2 q2,q3⟩
  have hx:=AO C9 [(0,QX n f n l k w)]
  have hL:=AE [(0,QX n f n l k w)]
  exact ⟨_,AI Gl tb0 [(0,QX n f n l k w)],_,hA,rfl,hx.1,hx.2,A2 (As hL hL) _ (AlZ _ _ n f n l k w _ n (Aj (Su _ n f l k w hn n 0 _ (n+1) (by omega) (by omega)))),A8.refl _⟩
 ·cases h
end Go.Proofs.Ytjhnfomefcngfaa.Ed
