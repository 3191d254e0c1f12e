/-
  Layer 7, plain: the program's numbering of parts by first occurrence is the document's. No program here, no conditions.
-/
import Derived.Test.YthlojajaenfidaaGreatDoorShA
namespace Go.Proofs.YthlojajaenfidaaGreatDoor.Sh
open Go.Sy Ed
inductive Begin (p:Nat->Bool) (n:Nat):Nat->Prop
 | none:(∀ k,k < n->p k = false)->Begin p n 0
 | last:0 < n->p (n - 1) = true->Begin p n 0
 | first {z:Nat}:0 < z->z < n->p (z - 1) = true->(∀ k,k < z - 1->p k = false)->p (n - 1) = false->Begin p n z
theorem GJ {p:Nat->Bool}:∀ {k:Nat},(∀ i,i < k->p i = false)->Aj p k = 0
 | 0,_=>rfl
 | k+1,h=>by rw [B5 (h k (Nat.lt_succ_self k)),GJ λi hi=>h i (by omega)]
theorem LW (p:Nat->Bool) (k:Nat):Aj p (k+1) = Aj p k ∨ Aj p (k+1) = Aj p k+1:=by
 cases h:p k with
 | true=>exact .inr (Bi h)
 | false=>exact .inl (B5 h)
def DH (p:Nat->Bool) (n z t:Nat):Bool:=p ((z+t) % n)
theorem GH {p:Nat->Bool} {n z:Nat}:∀ {t:Nat},z+t <= n->Aj (DH p n z) t+Aj p z = Aj p (z+t)
 | 0,_=>by simp [Aj]
 | t+1,h=>by
  have ih:=GH (p:=p) (n:=n) (z:=z) (t:=t) (by omega)
  have he:DH p n z t = p (z+t):=by unfold DH; rw [Nat.mod_eq_of_lt (by omega)]
  rw [show z+(t+1) = z+t+1 by omega]
  cases hp:p (z+t) with
  | true=>rw [Bi (he.trans hp),Bi hp]; omega
  | false=>rw [B5 (he.trans hp),B5 hp]; exact ih
theorem Qf {p:Nat->Bool} {n z:Nat} (hz:z <= n):∀ {i:Nat},i <= z->Aj (DH p n z) (n - z+i)+Aj p z = Aj p n+Aj p i
 | 0,_=>by
  have:=GH (p:=p) (n:=n) (z:=z) (t:=n - z) (by omega)
  rw [show z+(n - z) = n by omega] at this
  simpa [Aj] using this
 | i+1,h=>by
  have ih:=Qf (p:=p) (n:=n) (z:=z) hz (i:=i) (by omega)
  have he:DH p n z (n - z+i) = p i:=by
   unfold DH
   rw [show z+(n - z+i) = i+n by omega,Nat.add_mod_right,Nat.mod_eq_of_lt (by omega)]
  rw [show n - z+(i+1) = n - z+i+1 by omega]
  cases hp:p i with
  | true=>rw [Bi (he.trans hp),Bi hp]; omega
  | false=>rw [B5 (he.trans hp),B5 hp]; exact ih
def posN (n z i:Nat):Nat:=(i+(n - z)) % n
def AU (p:Nat->Bool) (n k:Nat):Nat:=if Aj p k = Aj p n then 0 else Aj p k
theorem FL {p:Nat->Bool} {n k:Nat} (h:k < n):Ay p n k = Int.ofNat (AU p n k):=by
 unfold Ay AU
 rw [show decide (k < n) = true by simpa using h]
 simp only [cond_true]
 by_cases he:Aj p k = Aj p n
 ·simp [he]
 ·simp [he]
def snN (p:Nat->Bool) (n z v:Nat):Nat:=if z = 0 then v else if v = 0 then Aj p n - 1 else v - 1
theorem AcY {p:Nat->Bool} {n z:Nat} (hb:Begin p n z) {i:Nat} (hi:i < n):Aj (DH p n z) (posN n z i) = snN p n z (AU p n i):=by
 have hmi:=AW p (show i <= n by omega)
 cases hb with
 | none h0 =>
  have h1:Aj p n = 0:=GJ h0
  have h2:posN n 0 i = i:=by unfold posN; rw [Nat.sub_zero,Nat.add_mod_right,Nat.mod_eq_of_lt hi]
  have h3:=GH (p:=p) (n:=n) (z:=0) (t:=i) (by omega)
  rw [Nat.zero_add] at h3
  rw [h2]
  unfold snN AU
  rw [if_pos rfl,h1]
  simp [Aj] at h3
  rw [h3]
  split <;> omega
 | last hn h0 =>
  have h2:posN n 0 i = i:=by unfold posN; rw [Nat.sub_zero,Nat.add_mod_right,Nat.mod_eq_of_lt hi]
  have h3:=GH (p:=p) (n:=n) (z:=0) (t:=i) (by omega)
  rw [Nat.zero_add] at h3
  have h4:Aj p n = Aj p (n - 1)+1:=by
   have:=Bi h0
   rwa [show n - 1+1 = n by omega] at this
  have h5:=AW p (show i <= n - 1 by omega)
  rw [h2]
  unfold snN AU
  rw [if_pos rfl]
  simp [Aj] at h3
  rw [h3,if_neg (by omega)]
 | first hz hzn h0 h1 h2 =>
  have c0:Aj p (z - 1) = 0:=GJ h1
  have c1:Aj p z = 1:=by
   have:=Bi h0
   rwa [show z - 1+1 = z by omega,c0] at this
  have hK:=AW p (show z <= n by omega)
  unfold snN AU
  rw [if_neg (by omega)]
  rcases Nat.lt_or_ge i z with hc | hc
  ·have e1:posN n z i = n - z+i:=by unfold posN; rw [Nat.mod_eq_of_lt (by omega)]; omega
   have e2:=Qf (p:=p) (n:=n) (z:=z) (by omega) (i:=i) (by omega)
   have e3:Aj p i = 0:=GJ λk hk=>h1 k (by omega)
   have e4:(if Aj p i = Aj p n then 0 else Aj p i) = 0:=by split <;> omega
   rw [e1,if_pos e4]
   omega
  ·have e1:posN n z i = i - z:=by unfold posN; rw [show i+(n - z) = i - z+n by omega,Nat.add_mod_right,Nat.mod_eq_of_lt (by omega)]
   have e2:=GH (p:=p) (n:=n) (z:=z) (t:=i - z) (by omega)
   rw [show z+(i - z) = i by omega] at e2
   have e3:=AW p hc
   rw [e1]
   by_cases he:Aj p i = Aj p n
   ·rw [if_pos he,if_pos rfl]; omega
   ·rw [if_neg he,if_neg (by omega:¬ Aj p i = 0)]; omega
theorem Zv {p:Nat->Bool} {n z u v:Nat} (hu:u <= v) (hv:v = 0 ∨ v < Aj p n) (h:snN p n z u = snN p n z v):u = v:=by
 unfold snN at h
 split at h
 ·exact h
 ·split at h <;> split at h <;> omega
def rN (p:Nat->Bool) (n:Nat):Nat->Nat
 | 0=>0
 | b+1=>if AU p n b < rN p n b then rN p n b else rN p n b+1
theorem NF {p:Nat->Bool} {n k:Nat} (h:k <= n):AU p n k = 0 ∨ AU p n k < Aj p n:=by
 have:=AW p h
 unfold AU
 split
 ·exact .inl rfl
 ·exact .inr (by omega)
theorem Aad (p:Nat->Bool) (n:Nat):AU p n 0 = 0:=by
 have h:Aj p 0 = 0:=rfl
 unfold AU
 split
 ·rfl
 ·exact h
theorem ZV (p:Nat->Bool) (n:Nat):∀ b,b < n->rN p n (b+1) = if Aj p b = Aj p n then max (Aj p n) 1 else Aj p b+1
 | 0,h=>by
  have h1:rN p n (0+1) = 1:=by
   rw [rN,Aad]
   simp [rN]
  have h2:Aj p 0 = 0:=rfl
  rw [h1,h2]
  split <;> omega
 | b+1,h=>by
  have ih:=ZV p n b (by omega)
  have h1:=AW p (show b+1 <= n by omega)
  have h2:=AW p (show b <= n by omega)
  have h3:=AW p (show b <= b+1 by omega)
  have h4:=LW p b
  rw [rN,ih]
  unfold AU
  by_cases e1:Aj p (b+1) = Aj p n
  ·rw [if_pos e1,if_pos e1]
   by_cases e2:Aj p b = Aj p n
   ·rw [if_pos e2,if_pos (by omega)]
   ·rw [if_neg e2,if_pos (by omega)]; omega
  ·rw [if_neg e1,if_neg e1]
   have e2:¬ Aj p b = Aj p n:=by omega
   rw [if_neg e2]
   split <;> omega
theorem Kj (p:Nat->Bool) (n:Nat):∀ b,b < n->AU p n b <= rN p n b
 | 0,h=>by
  rw [Aad]
  exact Nat.zero_le _
 | b+1,h=>by
  rw [ZV p n b (by omega)]
  have h1:=AW p (show b+1 <= n by omega)
  have h4:=LW p b
  have h3:=AW p (show b <= b+1 by omega)
  unfold AU
  split
  ·omega
  ·split <;> omega
theorem S6 (p:Nat->Bool) (n:Nat):∀ b,rN p n b <= b
 | 0=>Nat.le_refl _
 | b+1=>by
  have:=S6 p n b
  simp only [rN]
  split <;> omega
theorem Ae5 (p:Nat->Bool) (n:Nat):∀ b,b <= n->∀ v,v < rN p n b->v = 0 ∨ v < Aj p n
 | 0,_,v,h=>by simp [rN] at h
 | b+1,hb,v,h=>by
  have ih:=Ae5 p n b (by omega) v
  simp only [rN] at h
  split at h
  ·exact ih h
  ·rename_i h2
   have h3:=Kj p n b (by omega)
   by_cases hv:v < rN p n b
   ·exact ih hv
   ·have:v = AU p n b:=by omega
    rw [this]
    exact NF (by omega)
end Go.Proofs.YthlojajaenfidaaGreatDoor.Sh
namespace Go.Proofs.YthlojajaenfidaaGreatDoor.Ed
open Go.Sy
open Int (ofNat)
def Ct (a:Int) (f:Nat->E6) (i:Nat):Bool:=AG (Al (ieq (DL a (f i)) 0) (Hj a (f i)))
def ES (n:Nat) (f:Nat->E6) (i:Nat):Bool:=AG (ieq (f i).dst (f ((i+1) % n)).src)
noncomputable def tb86:List (Nat × (List V->T (V × List Blk))):=(54,ap2 gI toE λa e=>out (SR a e)) :: []
theorem tb86_ok:A8 Tryz.prog Gl tb86:=.cons p32 .nil
theorem NN {i n:Nat} (h:i < n) (hn:n <= 4611686018427387904):Ae (wr .i64 (Af (ofNat i) 1)) (ofNat n) = ofNat ((i+1) % n):=by rw [An h hn,Cu]
theorem XY {i n:Nat} (h:i < n):ieq (ofNat n) 0 = false:=by rw [show (0:Int) = ofNat 0 from rfl,Df,decide_eq_false (by omega)]
def lp86 (_:Int) (n:Nat) (_:Nat->E6):Lp:=⟨(bmK 53 0 [0,1,4,5,12,13,14]),0,bmK 53 0 [1,4,5],0,n+1⟩
def Q4 (a:Int) (n:Nat) (f:Nat->E6) (i:Nat) (j:Nat->V):St:=⟨(jsV 53 0 j [(0,iV a),(1,.sl 6 n (λi=>eV (f i))),(4,iV 0),(5,iV 0),(12,.sl 6 n (λi=>eV (f i))),(13,nV n),(14,nV i)]),[]⟩
def O2 (_:Int) (n:Nat) (f:Nat->E6) (_:Nat):Ex × St:=(.ex 0,⟨(jsV 53 0 (λ_=>.und) [(1,.sl 6 n (λi=>eV (f i))),(4,iV 0),(5,iV 0)]),[]⟩)
def Abr (_:Int) (n:Nat) (f:Nat->E6) (i:Nat):Ex × St:=(.rt,⟨(jsV 53 0 (λ_=>.und) [(1,.sl 6 n (λi=>eV (f i))),(4,iV 30),(5,nV i)]),[]⟩)
def Abq (_:Int) (n:Nat) (f:Nat->E6) (i:Nat):Ex × St:=(.rt,⟨(jsV 53 0 (λ_=>.und) [(1,.sl 6 n (λi=>eV (f i))),(4,iV 5),(5,nV i)]),[]⟩)
noncomputable def H0 (L:LT):St->T (Ex × St):=λst=>AD tab ⟨Ak tb86,L,Gl⟩ (As Tryz.f28 0) 0 st
section
variable (L:LT) (a:Int) (n:Nat) (f:Nat->E6) (i:Nat)  (j:Nat->V)
include L a n f i j
theorem AkF (h0:ilt (ofNat i) (ofNat n) = false):Ag (H0 L) (lp86 a n f) (Q4 a n f i j) = some ((.ex 0),⟨(jsV 53 0 (λ_=>.und) [(1,(.sl 6 n (λi=>(eV (f i))))),(4,(iV 0)),(5,(iV 0))]),[]⟩):=by
 exact Aa (ks:=[kn h0]) (by kernel_rfl)
theorem AkE (h0:ilt (ofNat i) (ofNat n) = true) (h1:Al (ile 0 (ofNat i)) (ilt (ofNat i) (ofNat n)) = true) (h2:ieq (DL a (f i)) 0 = false):Ag (H0 L) (lp86 a n f) (Q4 a n f i j) = some (.rt,⟨(jsV 53 0 (λ_=>.und) [(1,(.sl 6 n (λi=>(eV (f i))))),(4,(iV 30)),(5,(nV i))]),[]⟩):=by
 exact Aa (ks:=[kn h0,kn h1,kN (kn h2)]) (by kernel_rfl)
theorem AkD (h0:ilt (ofNat i) (ofNat n) = true) (h1:Al (ile 0 (ofNat i)) (ilt (ofNat i) (ofNat n)) = true) (h2:ieq (DL a (f i)) 0 = true) (h3:Hj a (f i) = false):Ag (H0 L) (lp86 a n f) (Q4 a n f i j) = some (.rt,⟨(jsV 53 0 (λ_=>.und) [(1,(.sl 6 n (λi=>(eV (f i))))),(4,(iV 5)),(5,(nV i))]),[]⟩):=by
 exact Aa (ks:=[kn h0,kn h1,kN (kn h2),kN (kn h3)]) (by kernel_rfl)
theorem AkC (h0:ilt (ofNat i) (ofNat n) = true) (h1:Al (ile 0 (ofNat i)) (ilt (ofNat i) (ofNat n)) = true) (h2:ieq (DL a (f i)) 0 = true) (h3:Hj a (f i) = true):Ag (H0 L) (lp86 a n f) (Q4 a n f i j) = some (.nm,⟨(jsV 53 0 (λ_=>.und) [(0,(iV a)),(1,(.sl 6 n (λi=>(eV (f i))))),(4,(iV 0)),(5,(iV 0)),(12,(.sl 6 n (λi=>(eV (f i))))),(13,(nV n)),(14,(iV (wr .i64 (Af (ofNat i) 1))))]),[]⟩):=by
 exact Aa (ks:=[kn h0,kn h1,kN (kn h2),kN (kn h3)]) (by kernel_rfl)
end
def AdC (_:Int) (_:Nat) (_:Nat->E6) :Nat->V:=lkV A7 []
def J4 (_:Int) (n:Nat) (_:Nat->E6):Lp:=⟨(bmK 53 0 [1,4,5,32,33,34]),0,bmK 53 0 [4,5],0,n+1⟩
def Lz (_:Int) (n:Nat) (f:Nat->E6) (i:Nat) (j:Nat->V):St:=⟨(jsV 53 0 j [(1,.sl 6 n (λi=>eV (f i))),(4,iV 0),(5,iV 0),(32,.sl 6 n (λi=>eV (f i))),(33,nV n),(34,nV i)]),[]⟩
def MT (_:Int) (_:Nat) (_:Nat->E6) (_:Nat):Ex × St:=(.ex 2,⟨(jsV 53 0 (λ_=>.und) [(4,iV 0),(5,iV 0)]),[]⟩)
def MS (_:Int) (_:Nat) (_:Nat->E6) (i:Nat):Ex × St:=(.rt,⟨(jsV 53 0 (λ_=>.und) [(4,iV 41),(5,nV i)]),[]⟩)
noncomputable def GN (L:LT):St->T (Ex × St):=λst=>AD tab ⟨Ak tb86,L,Gl⟩ (As Tryz.f28 2) 2 st
section
variable (L:LT) (a:Int) (n:Nat) (f:Nat->E6) (i:Nat)  (j:Nat->V)
include L a n f i j
theorem Akz (h0:ilt (ofNat i) (ofNat n) = false):Ag (GN L) (J4 a n f) (Lz a n f i j) = some ((.ex 2),⟨(jsV 53 0 (λ_=>.und) [(4,(iV 0)),(5,(iV 0))]),[]⟩):=by
 exact Aa (ks:=[kn h0]) (by kernel_rfl)
theorem Aky (h0:ilt (ofNat i) (ofNat n) = true) (h1:Al (ile 0 (ofNat i)) (ilt (ofNat i) (ofNat n)) = true) (h2:ieq (ofNat n) 0 = false) (h3:Al (ile 0 (Ae (wr .i64 (Af (ofNat i) 1)) (ofNat n))) (ilt (Ae (wr .i64 (Af (ofNat i) 1)) (ofNat n)) (ofNat n)) = true) (h4:ieq ((f i)).dst ((f (toN (Ae (wr .i64 (Af (ofNat i) 1)) (ofNat n))))).src = false):Ag (GN L) (J4 a n f) (Lz a n f i j) = some (.rt,⟨(jsV 53 0 (λ_=>.und) [(4,(iV 41)),(5,(nV i))]),[]⟩):=by
 exact Aa (ks:=[kn h0,kn h1,kn h2,kn h3,kN (kn h4)]) (by kernel_rfl)
theorem Akx (h0:ilt (ofNat i) (ofNat n) = true) (h1:Al (ile 0 (ofNat i)) (ilt (ofNat i) (ofNat n)) = true) (h2:ieq (ofNat n) 0 = false) (h3:Al (ile 0 (Ae (wr .i64 (Af (ofNat i) 1)) (ofNat n))) (ilt (Ae (wr .i64 (Af (ofNat i) 1)) (ofNat n)) (ofNat n)) = true) (h4:ieq ((f i)).dst ((f (toN (Ae (wr .i64 (Af (ofNat i) 1)) (ofNat n))))).src = true):Ag (GN L) (J4 a n f) (Lz a n f i j) = some (.nm,⟨(jsV 53 0 (λ_=>.und) [(1,(.sl 6 n (λi=>(eV (f i))))),(4,(iV 0)),(5,(iV 0)),(32,(.sl 6 n (λi=>(eV (f i))))),(33,(nV n)),(34,(iV (wr .i64 (Af (ofNat i) 1))))]),[]⟩):=by
 exact Aa (ks:=[kn h0,kn h1,kn h2,kn h3,kN (kn h4)]) (by kernel_rfl)
end
def AaH (_:Int) (_:Nat) (_:Nat->E6) (_:Nat):Nat->V:=lkV A7 [(0,.und),(2,.und),(3,.und),(6,.und),(7,.und),(8,.und),(9,.und),(10,.und),(11,.und),(12,.und),(13,.und),(14,.und),(15,.und),(16,.und),(17,.und),(18,.und),(19,.und),(20,.und),(21,.und),(22,.und),(23,.und),(24,.und),(25,.und),(26,.und),(27,.und),(28,.und),(29,.und),(30,.und),(31,.und),(35,.und),(36,.und),(37,.und),(38,.und),(39,.und),(40,.und),(41,.und),(42,.und),(43,.und),(44,.und),(45,.und),(46,.und),(47,.und),(48,.und),(49,.und),(50,.und),(51,.und),(52,.und)]
section
variable (L:LT) (p0:PT) (a:Int) (n:Nat) (f:Nat->E6) (i:Nat)
include L p0 a n f i
theorem AiY  (hp0:p0 (H0 (onP 0 p0 (Abr a n f i) L)) (Q4 a n f 0 (AdC a n f )) = true):(Au (Ah tab ⟨Ak tb86,(onP 0 p0 (Abr a n f i) L),Gl⟩ Tryz.f28 [iV a,A5 n f] [])).sem = some ((.tup [(iV 30),(nV i)]),[]):=by
 exact Aa (ks:=[kn hp0]) (by kernel_rfl)
theorem AiX  (hp0:p0 (H0 (onP 0 p0 (Abq a n f i) L)) (Q4 a n f 0 (AdC a n f )) = true):(Au (Ah tab ⟨Ak tb86,(onP 0 p0 (Abq a n f i) L),Gl⟩ Tryz.f28 [iV a,A5 n f] [])).sem = some ((.tup [(iV 5),(nV i)]),[]):=by
 exact Aa (ks:=[kn hp0]) (by kernel_rfl)
end
section
variable (L:LT) (p0:PT) (p2:PT) (a:Int) (n:Nat) (f:Nat->E6) (i j:Nat)
include L p0 p2 a n f i j
theorem AiW  (hp0:p0 (H0 (onP 0 p0 (O2 a n f i) (onP 2 p2 (MS a n f j) L))) (Q4 a n f 0 (AdC a n f )) = true) (hp2:p2 (GN (onP 0 p0 (O2 a n f i) (onP 2 p2 (MS a n f j) L))) (Lz a n f 0 (AaH a n f i)) = true):(Au (Ah tab ⟨Ak tb86,(onP 0 p0 (O2 a n f i) (onP 2 p2 (MS a n f j) L)),Gl⟩ Tryz.f28 [iV a,A5 n f] [])).sem = some ((.tup [(iV 41),(nV j)]),[]):=by
 exact Aa (ks:=[kn hp0,kn hp2]) (by kernel_rfl)
theorem AiV  (hp0:p0 (H0 (onP 0 p0 (O2 a n f i) (onP 2 p2 (MT a n f j) L))) (Q4 a n f 0 (AdC a n f )) = true) (hp2:p2 (GN (onP 0 p0 (O2 a n f i) (onP 2 p2 (MT a n f j) L))) (Lz a n f 0 (AaH a n f i)) = true):(Au (Ah tab ⟨Ak tb86,(onP 0 p0 (O2 a n f i) (onP 2 p2 (MT a n f j) L)),Gl⟩ Tryz.f28 [iV a,A5 n f] [])).sem = some ((.tup [(iV 0),(iV 0)]),[]):=by
 exact Aa (ks:=[kn hp0,kn hp2]) (by kernel_rfl)
end
theorem Aer (L:LT) (a:Int) (n:Nat) (f:Nat->E6) (hn:n <= 4611686018427387904):∀ (d i:Nat) (j:Nat->V) (q:Nat),n = i+d->d < q ->
  (AA (H0 L) (lp86 a n f) q (Q4 a n f i j)).sem = some (match Ba (Ct a f) d i with
   | none=>O2 a n f 0
   | some t=>match ieq (DL a (f t)) 0 with
    | false=>Abr a n f t
    | true=>Abq a n f t)
 | 0,i,j,q+1,h,_=>by
  have:n = i:=by omega
  subst this
  exact Ab (AkF L a n f n j (A9 (Nat.le_refl _)))
 | d+1,i,j,q+1,h,h2=>by
  have hl:i < n:=by omega
  cases c1:ieq (DL a (f i)) 0 with
  | false =>
   rw [BQ (show Ct a f i = true by rw [Ct,c1]; rfl)]
   simp only [c1]
   exact Ab (AkE L a n f i j (ofNat_lt hl) (Ap hl) c1)
  | true =>
   cases c2:Hj a (f i) with
   | false =>
    rw [BQ (show Ct a f i = true by rw [Ct,c1,c2]; rfl)]
    simp only [c1]
    exact Ab (AkD L a n f i j (ofNat_lt hl) (Ap hl) c1 c2)
   | true =>
    rw [By (show Ct a f i = false by rw [Ct,c1,c2]; rfl),Ab (AkC L a n f i j (ofNat_lt hl) (Ap hl) c1 c2),Aq,An hl hn]
    exact Aer L a n f hn d (i+1) (λ_=>.und) q (by omega) (by omega)
theorem Z4 (L:LT) (a:Int) (n:Nat) (f:Nat->E6) (hn:n <= 4611686018427387904):∀ (d i:Nat) (j:Nat->V) (q:Nat),n = i+d->d < q ->
  (AA (GN L) (J4 a n f) q (Lz a n f i j)).sem = some (match Ba (ES n f) d i with
   | none=>MT a n f 0
   | some t=>MS a n f t)
 | 0,i,j,q+1,h,_=>by
  have:n = i:=by omega
  subst this
  exact Ab (Akz L a n f n j (A9 (Nat.le_refl _)))
 | d+1,i,j,q+1,h,h2=>by
  have hl:i < n:=by omega
  have e1:=NN hl hn
  have hb:Al (ile 0 (Ae (wr .i64 (Af (ofNat i) 1)) (ofNat n))) (ilt (Ae (wr .i64 (Af (ofNat i) 1)) (ofNat n)) (ofNat n)) = true:=by
   rw [e1]; exact Ap (Nat.mod_lt _ (by omega))
  have e2:toN (ofNat ((i+1) % n)) = (i+1) % n:=rfl
  cases c1:ieq (f i).dst (f ((i+1) % n)).src with
  | false =>
   rw [BQ (show ES n f i = true by rw [ES,c1]; rfl)]
   exact Ab (Aky L a n f i j (ofNat_lt hl) (Ap hl) (XY hl) hb (by rw [e1,e2]; exact c1))
  | true =>
   rw [By (show ES n f i = false by rw [ES,c1]; rfl),Ab (Akx L a n f i j (ofNat_lt hl) (Ap hl) (XY hl) hb (by rw [e1,e2]; exact c1)),Aq,An hl hn]
   exact Z4 L a n f hn d (i+1) (λ_=>.und) q (by omega) (by omega)
def Dg (a:Int) (n:Nat) (f:Nat->E6):Int × Int :=
 match Ba (Ct a f) n 0 with
 | some t=>match ieq (DL a (f t)) 0 with
  | false=>(30,ofNat t)
  | true=>(5,ofNat t)
 | none=>match Ba (ES n f) n 0 with
  | some t=>(41,ofNat t)
  | none=>(0,0)
def Ai1:List V->T (V × List Blk)
 | [.val (.int .i64 a),v]=>apL v λn f=>.br (Be n) (out (.tup [iV (Dg a n f).1,iV (Dg a n f).2])) .fail
 | _=>.fail
theorem VQ {a:Int} {v u:V} (h:∀ (S:Nat->Prop) (w:World) (c:Value),VR S w v noK c->VR S w u noK c):Bm [.val (.int .i64 a),v] [iV a,u]:=λS w cs hv=>by
 obtain ⟨c,l,rfl,q1,q2⟩:=hv
 obtain ⟨c2,l2,rfl,q3,q4⟩:=q2
 exact ⟨c,_,rfl,q1,c2,l2,rfl,h S w c2 q3,q4⟩
theorem p86:A6 Tryz.prog Gl 28 Ai1:=by
 refine Av AI mixed Tryz.func28 (by kernel_rfl) (by kernel_rfl) λvs v h' h=>?_
 unfold Ai1 at h
 split at h
 ·rename_i a u
  obtain ⟨n,f,ha,h1⟩:=Cc h
  obtain ⟨hn,hq⟩:=Ad h1
  have:=Ac hq
  simp only [Prod.mk.injEq] at this
  obtain ⟨rfl,rfl⟩:=this
  have hn:=CE (EP hn)
  have hx:=AK tb86_ok [(0,lp86 a n f),(2,J4 a n f)]
  have hL:=AF [(0,lp86 a n f),(2,J4 a n f)]
  have h0:=λL j=>Aer L a n f hn n 0 j (n+1) (by omega) (by omega)
  have h2:=λL j=>Z4 L a n f hn n 0 j (n+1) (by omega) (by omega)
  refine ⟨_,AN Gl tb86 [(0,lp86 a n f),(2,J4 a n f)],_,VQ ha,rfl,hx.1,hx.2,?_,A0.refl _⟩
  unfold Dg
  cases c1:Ba (Ct a f) n 0 with
  | some t =>
   rw [c1] at h0
   cases c2:ieq (DL a (f t)) 0 with
   | false =>
    simp only [c2] at h0 ⊢
    exact A1 (Ar hL hL) _ (AiY _ _ a n f t (Ai (h0 _ _)))
   | true =>
    simp only [c2] at h0 ⊢
    exact A1 (Ar hL hL) _ (AiX _ _ a n f t (Ai (h0 _ _)))
  | none =>
   rw [c1] at h0
   cases c2:Ba (ES n f) n 0 with
   | some t =>
    rw [c2] at h2
    exact A1 (Ar (Ar hL hL) hL) _ (AiW _ _ _ a n f 0 t (Ai (h0 _ _)) (Ai (h2 _ _)))
   | none =>
    rw [c2] at h2
    exact A1 (Ar (Ar hL hL) hL) _ (AiV _ _ _ a n f 0 0 (Ai (h0 _ _)) (Ai (h2 _ _)))
 ·cases h
def Ri (n:Nat) (_:Nat->E6) (_:Nat) (_:Nat->Int) (_:Int) (_:Bool):Lp:=⟨(bmK 38 0 [0,1,2,3,9,10]),0,bmK 38 0 [9],0,n+1⟩
def Uo (n:Nat) (f:Nat->E6) (m:Nat) (l:Nat->Int) (k:Int) (w:Bool) (c:Int) (i:Nat) (j:Nat->V):St:=⟨(jsV 38 0 j [(0,.sl 6 n (λi=>eV (f i))),(1,.sl 1 m (λk=>iV (l k))),(2,iV k),(3,bV w),(9,iV c),(10,nV i)]),[]⟩
def Abp (_:Nat) (_:Nat->E6) (_:Nat) (_:Nat->Int) (_:Int) (_:Bool) (c:Int) (_:Nat):Ex × St:=(.ex 0,⟨(jsV 38 0 (λ_=>.und) [(9,iV c)]),[]⟩)
noncomputable def JJ (L:LT):St->T (Ex × St):=λst=>AD tab ⟨Ak tb0,L,Gl⟩ (As Tryz.f71 0) 0 st
section
variable (L:LT) (n:Nat) (f:Nat->E6) (m:Nat) (l:Nat->Int) (k:Int) (w:Bool) (c:Int) (i:Nat)  (j:Nat->V)
include L n f m l k w c i j
theorem Ak3 (h0:ilt (ofNat i) (ofNat n) = false):Ag (JJ L) (Ri n f m l k w) (Uo n f m l k w c i j) = some ((.ex 0),⟨(jsV 38 0 (λ_=>.und) [(9,(iV c))]),[]⟩):=by
 exact Aa (ks:=[kn h0]) (by kernel_rfl)
theorem Ak7 (h0:ilt (ofNat i) (ofNat n) = true) (h1:Al (ile 0 (ofNat i)) (ilt (ofNat i) (ofNat m)) = true) (h2:ieq (l i) k = false):Ag (JJ L) (Ri n f m l k w) (Uo n f m l k w c i j) = some (.nm,⟨(jsV 38 0 (λ_=>.und) [(0,(.sl 6 n (λi=>(eV (f i))))),(1,(.sl 1 m (λk=>(iV (l k))))),(2,(iV k)),(3,(bV w)),(9,(iV c)),(10,(iV (wr .i64 (Af (ofNat i) 1))))]),[]⟩):=by
 exact Aa (ks:=[kn h0,kn h1,kn h2,kn h2,kn h2,kn h2,kn h2,kF]) (by kernel_rfl)
theorem Ak6 (h0:ilt (ofNat i) (ofNat n) = true) (h1:Al (ile 0 (ofNat i)) (ilt (ofNat i) (ofNat m)) = true) (h2:ieq (l i) k = true) (h3:w = false):Ag (JJ L) (Ri n f m l k w) (Uo n f m l k w c i j) = some (.nm,⟨(jsV 38 0 (λ_=>.und) [(0,(.sl 6 n (λi=>(eV (f i))))),(1,(.sl 1 m (λk=>(iV (l k))))),(2,(iV k)),(3,(bV w)),(9,(iV (wr .i64 (Af c 1)))),(10,(iV (wr .i64 (Af (ofNat i) 1))))]),[]⟩):=by
 exact Aa (ks:=[kn h0,kn h1,kn h2,kn h2,kn h2,kN (kn h3),kN (kn h3),kN (kn h3),kN (kn h3),kN (kn h3),kN (kn h3),kn h2,kN (kn h3),kn h2,kT]) (by kernel_rfl)
theorem Ak5 (h0:ilt (ofNat i) (ofNat n) = true) (h1:Al (ile 0 (ofNat i)) (ilt (ofNat i) (ofNat m)) = true) (h2:ieq (l i) k = true) (h3:w = true) (h4:Al (ile 0 (ofNat i)) (ilt (ofNat i) (ofNat n)) = true) (h5:ieq ((f i)).src 2 = true):Ag (JJ L) (Ri n f m l k w) (Uo n f m l k w c i j) = some (.nm,⟨(jsV 38 0 (λ_=>.und) [(0,(.sl 6 n (λi=>(eV (f i))))),(1,(.sl 1 m (λk=>(iV (l k))))),(2,(iV k)),(3,(bV w)),(9,(iV (wr .i64 (Af c 1)))),(10,(iV (wr .i64 (Af (ofNat i) 1))))]),[]⟩):=by
 exact Aa (ks:=[kn h0,kn h1,kn h2,kn h2,kn h2,kN (kn h3),kN (kn h3),kN (kn h3),kn h4,kN (kn h3),kN (kn h3),kN (kn h3),kn h2,kN (kn h3),kn h2,kn h5]) (by kernel_rfl)
theorem Ak4 (h0:ilt (ofNat i) (ofNat n) = true) (h1:Al (ile 0 (ofNat i)) (ilt (ofNat i) (ofNat m)) = true) (h2:ieq (l i) k = true) (h3:w = true) (h4:Al (ile 0 (ofNat i)) (ilt (ofNat i) (ofNat n)) = true) (h5:ieq ((f i)).src 2 = false):Ag (JJ L) (Ri n f m l k w) (Uo n f m l k w c i j) = some (.nm,⟨(jsV 38 0 (λ_=>.und) [(0,(.sl 6 n (λi=>(eV (f i))))),(1,(.sl 1 m (λk=>(iV (l k))))),(2,(iV k)),(3,(bV w)),(9,(iV c)),(10,(iV (wr .i64 (Af (ofNat i) 1))))]),[]⟩):=by
 exact Aa (ks:=[kn h0,kn h1,kn h2,kn h2,kn h2,kN (kn h3),kN (kn h3),kN (kn h3),kn h4,kN (kn h3),kN (kn h3),kN (kn h3),kn h2,kN (kn h3),kn h2,kn h5]) (by kernel_rfl)
end
def Ane (_:Nat) (_:Nat->E6) (_:Nat) (_:Nat->Int) (_:Int) (_:Bool) :Nat->V:=lkV A7 [(8,(iV 0))]
theorem AlI (L:LT) (p0:PT) (n:Nat) (f:Nat->E6) (m:Nat) (l:Nat->Int) (k:Int) (w:Bool) (c:Int) (i:Nat)  (hp0:p0 (JJ (onP 0 p0 (Abp n f m l k w c i) L)) (Uo n f m l k w 0 0 (Ane n f m l k w )) = true):(Au (Ah tab ⟨Ak tb0,(onP 0 p0 (Abp n f m l k w c i) L),Gl⟩ Tryz.f71 [A5 n f,E4 m l,iV k,bV w] [])).sem = some ((iV c),[]):=by
 exact Aa (ks:=[kn hp0]) (by kernel_rfl)
def isW (e:E6):Bool:=ieq e.src 2
def Cq (l:Nat->Int) (c:Nat->Bool) (k:Int) (i:Nat):Bool:=Al (ieq (l i) k) (c i)
def Gp (n:Nat) (l:Nat->Int) (c:Nat->Bool) (k:Int):Int:=ofNat (Aj (Cq l c k) n)
def ofW (w:Bool) (f:Nat->E6) (i:Nat):Bool:=bor (AG w) (isW (f i))
theorem Sx (L:LT) (n:Nat) (f:Nat->E6) (l:Nat->Int) (k:Int) (w:Bool) (hn:n <= 4611686018427387904):∀ (d i:Nat) (j:Nat->V) (q:Nat),n = i+d->d < q ->
  (AA (JJ L) (Ri n f n l k w) q (Uo n f n l k w (ofNat (Aj (Cq l (ofW w f) k) i)) i j)).sem = some (Abp n f n l k w (ofNat (Aj (Cq l (ofW w f) k) n)) n)
 | 0,i,j,q+1,h,_=>by
  have:n = i:=by omega
  subst this
  exact Ab (Ak3 L n f n l k w (ofNat (Aj (Cq l (ofW w f) k) n)) n j (A9 (Nat.le_refl _)))
 | d+1,i,j,q+1,h,h2=>by
  have hl:i < n:=by omega
  have hc:=AV (Cq l (ofW w f) k) i
  have yes:Cq l (ofW w f) k i = true->wr .i64 (Af (ofNat (Aj (Cq l (ofW w f) k) i)) 1) = ofNat (Aj (Cq l (ofW w f) k) (i+1)):=λh3=>by
   rw [An (show Aj (Cq l (ofW w f) k) i < n by omega) hn,Bi h3]
  have no:Cq l (ofW w f) k i = false->ofNat (Aj (Cq l (ofW w f) k) i) = ofNat (Aj (Cq l (ofW w f) k) (i+1)):=λh3=>by rw [B5 h3]
  cases c1:ieq (l i) k with
  | false =>
   rw [Ab (Ak7 L n f n l k w (ofNat (Aj (Cq l (ofW w f) k) i)) i j (ofNat_lt hl) (Ap hl) c1),Aq,An hl hn,no (by rw [Cq,c1]; rfl)]
   exact Sx L n f l k w hn d (i+1) (λ_=>.und) q (by omega) (by omega)
  | true =>
   cases c2:w with
   | false =>
    subst c2
    rw [Ab (Ak6 L n f n l k false (ofNat (Aj (Cq l (ofW false f) k) i)) i j (ofNat_lt hl) (Ap hl) c1 rfl),Aq,An hl hn,yes (by rw [Cq,c1]; rfl)]
    exact Sx L n f l k false hn d (i+1) (λ_=>.und) q (by omega) (by omega)
   | true =>
    subst c2
    cases c3:ieq (f i).src 2 with
    | true =>
     rw [Ab (Ak5 L n f n l k true (ofNat (Aj (Cq l (ofW true f) k) i)) i j (ofNat_lt hl) (Ap hl) c1 rfl (Ap hl) c3),Aq,An hl hn,yes (by rw [Cq,c1,ofW,isW,c3]; rfl)]
     exact Sx L n f l k true hn d (i+1) (λ_=>.und) q (by omega) (by omega)
    | false =>
     rw [Ab (Ak4 L n f n l k true (ofNat (Aj (Cq l (ofW true f) k) i)) i j (ofNat_lt hl) (Ap hl) c1 rfl (Ap hl) c3),Aq,An hl hn,no (by rw [Cq,c1,ofW,isW,c3]; rfl)]
     exact Sx L n f l k true hn d (i+1) (λ_=>.und) q (by omega) (by omega)
def AbG:List V->T (V × List Blk)
 | [v,u,.val (.int .i64 k),.val (.bool w)]=>apL v λn f=>apI u λm l=>.br (AB n m) (.br (Ao n) (out (iV (Gp n l (λi=>bor (AG w) (isW (f i))) k))) .fail) .fail
 | _=>.fail
theorem p96:A6 Tryz.prog Gl 71 AbG:=by
 refine Av AI mixed Tryz.func71 (by kernel_rfl) (by kernel_rfl) λvs v h' h=>?_
 unfold AbG at h
 split at h
 ·rename_i v1 u1 k w
  obtain ⟨n,f,ha,h1⟩:=Cc h
  obtain ⟨m,l,hb,h2⟩:=GS h1
  obtain ⟨hm,h3⟩:=Ad h2
  obtain ⟨hn,hq⟩:=Ad h3
  have hm:n = m:=Nat.eq_of_beq_eq_true hm
  subst hm
  have:=Ac hq
  simp only [Prod.mk.injEq] at this
  obtain ⟨rfl,rfl⟩:=this
  have hn:n <= 4611686018427387904:=of_decide_eq_true hn
  have hA:Bm [v1,u1,.val (.int .i64 k),.val (.bool w)] [A5 n f,E4 n l,iV k,bV w]:=λS w' cs hv=>by
   obtain ⟨c,l1,rfl,q1,c2,l2,rfl,q2,q3⟩:=hv
   exact ⟨c,_,rfl,ha S w' c q1,c2,l2,rfl,hb S w' c2 q2,q3⟩
  have hx:=AK Dn [(0,Ri n f n l k w)]
  have hL:=AF [(0,Ri n f n l k w)]
  exact ⟨_,AN Gl tb0 [(0,Ri n f n l k w)],_,hA,rfl,hx.1,hx.2,A1 (Ar hL hL) _ (AlI _ _ n f n l k w _ n (Ai (Sx _ n f l k w hn n 0 _ (n+1) (by omega) (by omega)))),A0.refl _⟩
 ·cases h
end Go.Proofs.YthlojajaenfidaaGreatDoor.Ed
