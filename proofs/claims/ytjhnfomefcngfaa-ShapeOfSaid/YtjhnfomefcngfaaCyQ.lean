/-
  Layer 7, plain: the program's numbering of parts by first occurrence is the document's. No program here, no conditions.
-/
import Derived.Test.YtjhnfomefcngfaaShA
namespace Go.Proofs.Ytjhnfomefcngfaa.Sh
open Go.Sy Ed
inductive Begin (p:Nat->Bool) (n:Nat):Nat->Prop
  | none:(∀ k,k < n->p k = false)->Begin p n 0
  | last:0 < n->p (n - 1) = true->Begin p n 0
  | first {z:Nat}:0 < z->z < n->p (z - 1) = true->(∀ k,k < z - 1->p k = false)->p (n - 1) = false->Begin p n z
theorem cntB_zero {p:Nat->Bool}:∀ {k:Nat},(∀ i,i < k->p i = false)->cntB p k = 0
  | 0,_=>rfl
  | k+1,h=>by rw [cntB_f (h k (Nat.lt_succ_self k)),cntB_zero fun i hi=>h i (by omega)]
theorem cntB_step (p:Nat->Bool) (k:Nat):cntB p (k+1) = cntB p k ∨ cntB p (k+1) = cntB p k+1:=by
  cases h:p k with
  | true=>exact .inr (cntB_t h)
  | false=>exact .inl (cntB_f h)
def turnP (p:Nat->Bool) (n z t:Nat):Bool:=p ((z+t) % n)
theorem cnt_turn1 {p:Nat->Bool} {n z:Nat}:∀ {t:Nat},z+t <= n->cntB (turnP p n z) t+cntB p z = cntB p (z+t)
  | 0,_=>by simp [cntB]
  | t+1,h=>by
    have ih:=cnt_turn1 (p:=p) (n:=n) (z:=z) (t:=t) (by omega)
    have he:turnP p n z t = p (z+t):=by unfold turnP; rw [Nat.mod_eq_of_lt (by omega)]
    rw [show z+(t+1) = z+t+1 by omega]
    cases hp:p (z+t) with
    | true=>rw [cntB_t (he.trans hp),cntB_t hp]; omega
    | false=>rw [cntB_f (he.trans hp),cntB_f hp]; exact ih
theorem cnt_turn2 {p:Nat->Bool} {n z:Nat} (hz:z <= n):∀ {i:Nat},i <= z->cntB (turnP p n z) (n - z+i)+cntB p z = cntB p n+cntB p i
  | 0,_=>by
    have:=cnt_turn1 (p:=p) (n:=n) (z:=z) (t:=n - z) (by omega)
    rw [show z+(n - z) = n by omega] at this
    simpa [cntB] using this
  | i+1,h=>by
    have ih:=cnt_turn2 (p:=p) (n:=n) (z:=z) hz (i:=i) (by omega)
    have he:turnP p n z (n - z+i) = p i:=by
      unfold turnP
      rw [show z+(n - z+i) = i+n by omega,Nat.add_mod_right,Nat.mod_eq_of_lt (by omega)]
    rw [show n - z+(i+1) = n - z+i+1 by omega]
    cases hp:p i with
    | true=>rw [cntB_t (he.trans hp),cntB_t hp]; omega
    | false=>rw [cntB_f (he.trans hp),cntB_f hp]; exact ih
def posN (n z i:Nat):Nat:=(i+(n - z)) % n
def partN (p:Nat->Bool) (n k:Nat):Nat:=if cntB p k = cntB p n then 0 else cntB p k
theorem partF_N {p:Nat->Bool} {n k:Nat} (h:k < n):partF p n k = Int.ofNat (partN p n k):=by
  unfold partF partN
  rw [show decide (k < n) = true by simpa using h]
  simp only [cond_true]
  by_cases he:cntB p k = cntB p n
  · simp [he]
  · simp [he]
def snN (p:Nat->Bool) (n z v:Nat):Nat:=if z = 0 then v else if v = 0 then cntB p n - 1 else v - 1
theorem part_sn {p:Nat->Bool} {n z:Nat} (hb:Begin p n z) {i:Nat} (hi:i < n):cntB (turnP p n z) (posN n z i) = snN p n z (partN p n i):=by
  have hmi:=cntB_mono p (show i <= n by omega)
  cases hb with
  | none h0 =>
    have h1:cntB p n = 0:=cntB_zero h0
    have h2:posN n 0 i = i:=by unfold posN; rw [Nat.sub_zero,Nat.add_mod_right,Nat.mod_eq_of_lt hi]
    have h3:=cnt_turn1 (p:=p) (n:=n) (z:=0) (t:=i) (by omega)
    rw [Nat.zero_add] at h3
    rw [h2]
    unfold snN partN
    rw [if_pos rfl,h1]
    simp [cntB] at h3
    rw [h3]
    split <;> omega
  | last hn h0 =>
    have h2:posN n 0 i = i:=by unfold posN; rw [Nat.sub_zero,Nat.add_mod_right,Nat.mod_eq_of_lt hi]
    have h3:=cnt_turn1 (p:=p) (n:=n) (z:=0) (t:=i) (by omega)
    rw [Nat.zero_add] at h3
    have h4:cntB p n = cntB p (n - 1)+1:=by
      have:=cntB_t h0
      rwa [show n - 1+1 = n by omega] at this
    have h5:=cntB_mono p (show i <= n - 1 by omega)
    rw [h2]
    unfold snN partN
    rw [if_pos rfl]
    simp [cntB] at h3
    rw [h3,if_neg (by omega)]
  | first hz hzn h0 h1 h2 =>
    have c0:cntB p (z - 1) = 0:=cntB_zero h1
    have c1:cntB p z = 1:=by
      have:=cntB_t h0
      rwa [show z - 1+1 = z by omega,c0] at this
    have hK:=cntB_mono p (show z <= n by omega)
    unfold snN partN
    rw [if_neg (by omega)]
    rcases Nat.lt_or_ge i z with hc | hc
    · have e1:posN n z i = n - z+i:=by unfold posN; rw [Nat.mod_eq_of_lt (by omega)]; omega
      have e2:=cnt_turn2 (p:=p) (n:=n) (z:=z) (by omega) (i:=i) (by omega)
      have e3:cntB p i = 0:=cntB_zero fun k hk=>h1 k (by omega)
      have e4:(if cntB p i = cntB p n then 0 else cntB p i) = 0:=by split <;> omega
      rw [e1,if_pos e4]
      omega
    · have e1:posN n z i = i - z:=by unfold posN; rw [show i+(n - z) = i - z+n by omega,Nat.add_mod_right,Nat.mod_eq_of_lt (by omega)]
      have e2:=cnt_turn1 (p:=p) (n:=n) (z:=z) (t:=i - z) (by omega)
      rw [show z+(i - z) = i by omega] at e2
      have e3:=cntB_mono p hc
      rw [e1]
      by_cases he:cntB p i = cntB p n
      · rw [if_pos he,if_pos rfl]; omega
      · rw [if_neg he,if_neg (by omega:¬ cntB p i = 0)]; omega
theorem sn_inj {p:Nat->Bool} {n z u v:Nat} (hu:u <= v) (hv:v = 0 ∨ v < cntB p n) (h:snN p n z u = snN p n z v):u = v:=by
  unfold snN at h
  split at h
  · exact h
  · split at h <;> split at h <;> omega
def rN (p:Nat->Bool) (n:Nat):Nat->Nat
  | 0=>0
  | b+1=>if partN p n b < rN p n b then rN p n b else rN p n b+1
theorem partN_lt {p:Nat->Bool} {n k:Nat} (h:k <= n):partN p n k = 0 ∨ partN p n k < cntB p n:=by
  have:=cntB_mono p h
  unfold partN
  split
  · exact .inl rfl
  · exact .inr (by omega)
theorem part_0 (p:Nat->Bool) (n:Nat):partN p n 0 = 0:=by
  have h:cntB p 0 = 0:=rfl
  unfold partN
  split
  · rfl
  · exact h
theorem rN_eq (p:Nat->Bool) (n:Nat):∀ b,b < n->rN p n (b+1) = if cntB p b = cntB p n then max (cntB p n) 1 else cntB p b+1
  | 0,h=>by
    have h1:rN p n (0+1) = 1:=by
      rw [rN,part_0]
      simp [rN]
    have h2:cntB p 0 = 0:=rfl
    rw [h1,h2]
    split <;> omega
  | b+1,h=>by
    have ih:=rN_eq p n b (by omega)
    have h1:=cntB_mono p (show b+1 <= n by omega)
    have h2:=cntB_mono p (show b <= n by omega)
    have h3:=cntB_mono p (show b <= b+1 by omega)
    have h4:=cntB_step p b
    rw [rN,ih]
    unfold partN
    by_cases e1:cntB p (b+1) = cntB p n
    · rw [if_pos e1,if_pos e1]
      by_cases e2:cntB p b = cntB p n
      · rw [if_pos e2,if_pos (by omega)]
      · rw [if_neg e2,if_pos (by omega)]; omega
    · rw [if_neg e1,if_neg e1]
      have e2:¬ cntB p b = cntB p n:=by omega
      rw [if_neg e2]
      split <;> omega
theorem part_le (p:Nat->Bool) (n:Nat):∀ b,b < n->partN p n b <= rN p n b
  | 0,h=>by
    rw [part_0]
    exact Nat.zero_le _
  | b+1,h=>by
    rw [rN_eq p n b (by omega)]
    have h1:=cntB_mono p (show b+1 <= n by omega)
    have h4:=cntB_step p b
    have h3:=cntB_mono p (show b <= b+1 by omega)
    unfold partN
    split
    · omega
    · split <;> omega
theorem rN_le (p:Nat->Bool) (n:Nat):∀ b,rN p n b <= b
  | 0=>Nat.le_refl _
  | b+1=>by
    have:=rN_le p n b
    simp only [rN]
    split <;> omega
theorem rN_lt (p:Nat->Bool) (n:Nat):∀ b,b <= n->∀ v,v < rN p n b->v = 0 ∨ v < cntB p n
  | 0,_,v,h=>by simp [rN] at h
  | b+1,hb,v,h=>by
    have ih:=rN_lt p n b (by omega) v
    simp only [rN] at h
    split at h
    · exact ih h
    · rename_i h2
      have h3:=part_le p n b (by omega)
      by_cases hv:v < rN p n b
      · exact ih hv
      · have:v = partN p n b:=by omega
        rw [this]
        exact partN_lt (by omega)
end Go.Proofs.Ytjhnfomefcngfaa.Sh
namespace Go.Proofs.Ytjhnfomefcngfaa.Ed
open Go.Sy
open Int (ofNat)
def badL (a:Int) (f:Nat->E6) (i:Nat):Bool:=bnot (band (ieq (legF a (f i)) 0) (legR a (f i)))
def badM (n:Nat) (f:Nat->E6) (i:Nat):Bool:=bnot (ieq (f i).dst (f ((i+1) % n)).src)
noncomputable def tb86:List (Nat × (List V->T (V × List Blk))):=(110,ap2 gI toE fun a e=>out (legP a e)) :: []
theorem tb86_ok:AllPure Try.prog Gl tb86:=.cons p32 .nil
theorem next_mod {i n:Nat} (h:i < n) (hn:n <= 4611686018427387904):itmod (wr .i64 (iadd (ofNat i) 1)) (ofNat n) = ofNat ((i+1) % n):=by rw [succ_wr h hn,mod_nat]
theorem ne_0 {i n:Nat} (h:i < n):ieq (ofNat n) 0 = false:=by rw [show (0:Int) = ofNat 0 from rfl,ieq_nat,decide_eq_false (by omega)]
def lp86 (a:Int) (n:Nat) (f:Nat->E6):Lp:=⟨(bmK 53 0 [0,1,4,5,12,13,14]),0,(bmK 53 0 [1,4,5]),0,n+1⟩
def st86 (a:Int) (n:Nat) (f:Nat->E6) (i:Nat) (j:Nat->V):St:=⟨(jsV 53 0 j [(0,iV a),(1,.sl 6 n (fun i=>(eV (f i)))),(4,iV 0),(5,iV 0),(12,.sl 6 n (fun i=>(eV (f i)))),(13,nV n),(14,nV i)]),[]⟩
def en86e (a:Int) (n:Nat) (f:Nat->E6) (i:Nat):Ex × St:=(.ex 0,⟨(jsV 53 0 (fun _=>.und) [(1,.sl 6 n (fun i=>(eV (f i)))),(4,iV 0),(5,iV 0)]),[]⟩)
def en86f (a:Int) (n:Nat) (f:Nat->E6) (i:Nat):Ex × St:=(.rt,⟨(jsV 53 0 (fun _=>.und) [(1,.sl 6 n (fun i=>(eV (f i)))),(4,iV 30),(5,nV i)]),[]⟩)
def en86l (a:Int) (n:Nat) (f:Nat->E6) (i:Nat):Ex × St:=(.rt,⟨(jsV 53 0 (fun _=>.und) [(1,.sl 6 n (fun i=>(eV (f i)))),(4,iV 5),(5,nV i)]),[]⟩)
noncomputable def body86 (L:LT):St->T (Ex × St):=fun st=>evalC tab ⟨callT tb86,L,Gl⟩ (loopBody Try.f81 0) 0 st
section
variable (L:LT) (a:Int) (n:Nat) (f:Nat->E6) (i:Nat)  (j:Nat->V)
include L a n f i j
theorem rc86e (h0:ilt (ofNat i) (ofNat n) = false):roundT (body86 L) (lp86 a n f) (st86 a n f i j) = some ((.ex 0),⟨(jsV 53 0 (fun _=>.und) [(1,(.sl 6 n (fun i=>(eV (f i))))),(4,(iV 0)),(5,(iV 0))]),[]⟩):=by
  exact sem_of_path (ds:=[false]) (cs:=[(ilt (ofNat i) (ofNat n))]) (by kernel_rfl) (by simp only [h0] <;> rfl)
theorem rc86f (h0:ilt (ofNat i) (ofNat n) = true) (h1:band (ile 0 (ofNat i)) (ilt (ofNat i) (ofNat n)) = true) (h2:ieq (legF a (f i)) 0 = false):roundT (body86 L) (lp86 a n f) (st86 a n f i j) = some (.rt,⟨(jsV 53 0 (fun _=>.und) [(1,(.sl 6 n (fun i=>(eV (f i))))),(4,(iV 30)),(5,(nV i))]),[]⟩):=by
  exact sem_of_path (ds:=[true,true,true]) (cs:=[(ilt (ofNat i) (ofNat n)),(band (ile 0 (ofNat i)) (ilt (ofNat i) (ofNat n))),(bnot (ieq (legF a (f i)) 0))]) (by kernel_rfl) (by simp only [h1] <;> simp only [h0,h2] <;> rfl)
theorem rc86l (h0:ilt (ofNat i) (ofNat n) = true) (h1:band (ile 0 (ofNat i)) (ilt (ofNat i) (ofNat n)) = true) (h2:ieq (legF a (f i)) 0 = true) (h3:legR a (f i) = false):roundT (body86 L) (lp86 a n f) (st86 a n f i j) = some (.rt,⟨(jsV 53 0 (fun _=>.und) [(1,(.sl 6 n (fun i=>(eV (f i))))),(4,(iV 5)),(5,(nV i))]),[]⟩):=by
  exact sem_of_path (ds:=[true,true,false,true]) (cs:=[(ilt (ofNat i) (ofNat n)),(band (ile 0 (ofNat i)) (ilt (ofNat i) (ofNat n))),(bnot (ieq (legF a (f i)) 0)),(bnot (legR a (f i)))]) (by kernel_rfl) (by simp only [h1] <;> simp only [h0,h2,h3] <;> rfl)
theorem rc86n (h0:ilt (ofNat i) (ofNat n) = true) (h1:band (ile 0 (ofNat i)) (ilt (ofNat i) (ofNat n)) = true) (h2:ieq (legF a (f i)) 0 = true) (h3:legR a (f i) = true):roundT (body86 L) (lp86 a n f) (st86 a n f i j) = some (.nm,⟨(jsV 53 0 (fun _=>.und) [(0,(iV a)),(1,(.sl 6 n (fun i=>(eV (f i))))),(4,(iV 0)),(5,(iV 0)),(12,(.sl 6 n (fun i=>(eV (f i))))),(13,(nV n)),(14,(iV (wr .i64 (iadd (ofNat i) 1))))]),[]⟩):=by
  exact sem_of_path (ds:=[true,true,false,false]) (cs:=[(ilt (ofNat i) (ofNat n)),(band (ile 0 (ofNat i)) (ilt (ofNat i) (ofNat n))),(bnot (ieq (legF a (f i)) 0)),(bnot (legR a (f i)))]) (by kernel_rfl) (by simp only [h1] <;> simp only [h0,h2,h3] <;> rfl)
end
def jk86 (a:Int) (n:Nat) (f:Nat->E6) :Nat->V:=lkV undefV []
def lp86_2 (a:Int) (n:Nat) (f:Nat->E6):Lp:=⟨(bmK 53 0 [1,4,5,32,33,34]),0,(bmK 53 0 [4,5]),0,n+1⟩
def st86_2 (a:Int) (n:Nat) (f:Nat->E6) (i:Nat) (j:Nat->V):St:=⟨(jsV 53 0 j [(1,.sl 6 n (fun i=>(eV (f i)))),(4,iV 0),(5,iV 0),(32,.sl 6 n (fun i=>(eV (f i)))),(33,nV n),(34,nV i)]),[]⟩
def en86_2e (a:Int) (n:Nat) (f:Nat->E6) (i:Nat):Ex × St:=(.ex 2,⟨(jsV 53 0 (fun _=>.und) [(4,iV 0),(5,iV 0)]),[]⟩)
def en86_2m (a:Int) (n:Nat) (f:Nat->E6) (i:Nat):Ex × St:=(.rt,⟨(jsV 53 0 (fun _=>.und) [(4,iV 41),(5,nV i)]),[]⟩)
noncomputable def body86_2 (L:LT):St->T (Ex × St):=fun st=>evalC tab ⟨callT tb86,L,Gl⟩ (loopBody Try.f81 2) 2 st
section
variable (L:LT) (a:Int) (n:Nat) (f:Nat->E6) (i:Nat)  (j:Nat->V)
include L a n f i j
theorem rd86e (h0:ilt (ofNat i) (ofNat n) = false):roundT (body86_2 L) (lp86_2 a n f) (st86_2 a n f i j) = some ((.ex 2),⟨(jsV 53 0 (fun _=>.und) [(4,(iV 0)),(5,(iV 0))]),[]⟩):=by
  exact sem_of_path (ds:=[false]) (cs:=[(ilt (ofNat i) (ofNat n))]) (by kernel_rfl) (by simp only [h0] <;> rfl)
theorem rd86m (h0:ilt (ofNat i) (ofNat n) = true) (h1:band (ile 0 (ofNat i)) (ilt (ofNat i) (ofNat n)) = true) (h2:ieq (ofNat n) 0 = false) (h3:band (ile 0 (itmod (wr .i64 (iadd (ofNat i) 1)) (ofNat n))) (ilt (itmod (wr .i64 (iadd (ofNat i) 1)) (ofNat n)) (ofNat n)) = true) (h4:ieq ((f i)).dst ((f (toN (itmod (wr .i64 (iadd (ofNat i) 1)) (ofNat n))))).src = false):roundT (body86_2 L) (lp86_2 a n f) (st86_2 a n f i j) = some (.rt,⟨(jsV 53 0 (fun _=>.und) [(4,(iV 41)),(5,(nV i))]),[]⟩):=by
  exact sem_of_path (ds:=[true,true,false,true,true]) (cs:=[(ilt (ofNat i) (ofNat n)),(band (ile 0 (ofNat i)) (ilt (ofNat i) (ofNat n))),(ieq (ofNat n) 0),(band (ile 0 (itmod (wr .i64 (iadd (ofNat i) 1)) (ofNat n))) (ilt (itmod (wr .i64 (iadd (ofNat i) 1)) (ofNat n)) (ofNat n))),(bnot (ieq ((f i)).dst ((f (toN (itmod (wr .i64 (iadd (ofNat i) 1)) (ofNat n))))).src))]) (by kernel_rfl) (by simp only [h1,h3] <;> simp only [h0,h2,h4] <;> rfl)
theorem rd86n (h0:ilt (ofNat i) (ofNat n) = true) (h1:band (ile 0 (ofNat i)) (ilt (ofNat i) (ofNat n)) = true) (h2:ieq (ofNat n) 0 = false) (h3:band (ile 0 (itmod (wr .i64 (iadd (ofNat i) 1)) (ofNat n))) (ilt (itmod (wr .i64 (iadd (ofNat i) 1)) (ofNat n)) (ofNat n)) = true) (h4:ieq ((f i)).dst ((f (toN (itmod (wr .i64 (iadd (ofNat i) 1)) (ofNat n))))).src = true):roundT (body86_2 L) (lp86_2 a n f) (st86_2 a n f i j) = some (.nm,⟨(jsV 53 0 (fun _=>.und) [(1,(.sl 6 n (fun i=>(eV (f i))))),(4,(iV 0)),(5,(iV 0)),(32,(.sl 6 n (fun i=>(eV (f i))))),(33,(nV n)),(34,(iV (wr .i64 (iadd (ofNat i) 1))))]),[]⟩):=by
  exact sem_of_path (ds:=[true,true,false,true,false]) (cs:=[(ilt (ofNat i) (ofNat n)),(band (ile 0 (ofNat i)) (ilt (ofNat i) (ofNat n))),(ieq (ofNat n) 0),(band (ile 0 (itmod (wr .i64 (iadd (ofNat i) 1)) (ofNat n))) (ilt (itmod (wr .i64 (iadd (ofNat i) 1)) (ofNat n)) (ofNat n))),(bnot (ieq ((f i)).dst ((f (toN (itmod (wr .i64 (iadd (ofNat i) 1)) (ofNat n))))).src))]) (by kernel_rfl) (by simp only [h1,h3] <;> simp only [h0,h2,h4] <;> rfl)
end
def jk86_2 (a:Int) (n:Nat) (f:Nat->E6) (i:Nat):Nat->V:=lkV undefV [(0,.und),(2,.und),(3,.und),(6,.und),(7,.und),(8,.und),(9,.und),(10,.und),(11,.und),(12,.und),(13,.und),(14,.und),(15,.und),(16,.und),(17,.und),(18,.und),(19,.und),(20,.und),(21,.und),(22,.und),(23,.und),(24,.und),(25,.und),(26,.und),(27,.und),(28,.und),(29,.und),(30,.und),(31,.und),(35,.und),(36,.und),(37,.und),(38,.und),(39,.und),(40,.und),(41,.und),(42,.und),(43,.und),(44,.und),(45,.und),(46,.und),(47,.und),(48,.und),(49,.und),(50,.und),(51,.und),(52,.und)]
section
variable (L:LT) (p0:PT) (a:Int) (n:Nat) (f:Nat->E6) (i:Nat)
include L p0 a n f i
theorem wc86f  (hp0:p0 (body86 (onP 0 p0 (en86f a n f i) L)) (st86 a n f 0 (jk86 a n f )) = true):(finF (evalF tab ⟨callT tb86,(onP 0 p0 (en86f a n f i) L),Gl⟩ Try.f81 [iV a,edgesV n f] [])).sem = some ((.tup [(iV 30),(nV i)]),[]):=by
  exact sem_of_path (ds:=[true]) (cs:=[(p0 (body86 (onP 0 p0 (en86f a n f i) L)) (st86 a n f 0 (jk86 a n f )))]) (by kernel_rfl) (by simp only [hp0] <;> rfl)
theorem wc86l  (hp0:p0 (body86 (onP 0 p0 (en86l a n f i) L)) (st86 a n f 0 (jk86 a n f )) = true):(finF (evalF tab ⟨callT tb86,(onP 0 p0 (en86l a n f i) L),Gl⟩ Try.f81 [iV a,edgesV n f] [])).sem = some ((.tup [(iV 5),(nV i)]),[]):=by
  exact sem_of_path (ds:=[true]) (cs:=[(p0 (body86 (onP 0 p0 (en86l a n f i) L)) (st86 a n f 0 (jk86 a n f )))]) (by kernel_rfl) (by simp only [hp0] <;> rfl)
end
section
variable (L:LT) (p0:PT) (p2:PT) (a:Int) (n:Nat) (f:Nat->E6) (i j:Nat)
include L p0 p2 a n f i j
theorem wc86m  (hp0:p0 (body86 (onP 0 p0 (en86e a n f i) (onP 2 p2 (en86_2m a n f j) L))) (st86 a n f 0 (jk86 a n f )) = true) (hp2:p2 (body86_2 (onP 0 p0 (en86e a n f i) (onP 2 p2 (en86_2m a n f j) L))) (st86_2 a n f 0 (jk86_2 a n f i)) = true):(finF (evalF tab ⟨callT tb86,(onP 0 p0 (en86e a n f i) (onP 2 p2 (en86_2m a n f j) L)),Gl⟩ Try.f81 [iV a,edgesV n f] [])).sem = some ((.tup [(iV 41),(nV j)]),[]):=by
  exact sem_of_path (ds:=[true,true]) (cs:=[(p0 (body86 (onP 0 p0 (en86e a n f i) (onP 2 p2 (en86_2m a n f j) L))) (st86 a n f 0 (jk86 a n f ))),(p2 (body86_2 (onP 0 p0 (en86e a n f i) (onP 2 p2 (en86_2m a n f j) L))) (st86_2 a n f 0 (jk86_2 a n f i)))]) (by kernel_rfl) (by simp only [hp0,hp2] <;> rfl)
theorem wc86z  (hp0:p0 (body86 (onP 0 p0 (en86e a n f i) (onP 2 p2 (en86_2e a n f j) L))) (st86 a n f 0 (jk86 a n f )) = true) (hp2:p2 (body86_2 (onP 0 p0 (en86e a n f i) (onP 2 p2 (en86_2e a n f j) L))) (st86_2 a n f 0 (jk86_2 a n f i)) = true):(finF (evalF tab ⟨callT tb86,(onP 0 p0 (en86e a n f i) (onP 2 p2 (en86_2e a n f j) L)),Gl⟩ Try.f81 [iV a,edgesV n f] [])).sem = some ((.tup [(iV 0),(iV 0)]),[]):=by
  exact sem_of_path (ds:=[true,true]) (cs:=[(p0 (body86 (onP 0 p0 (en86e a n f i) (onP 2 p2 (en86_2e a n f j) L))) (st86 a n f 0 (jk86 a n f ))),(p2 (body86_2 (onP 0 p0 (en86e a n f i) (onP 2 p2 (en86_2e a n f j) L))) (st86_2 a n f 0 (jk86_2 a n f i)))]) (by kernel_rfl) (by simp only [hp0,hp2] <;> rfl)
end
theorem run86 (L:LT) (a:Int) (n:Nat) (f:Nat->E6) (hn:n <= 4611686018427387904):∀ (d i:Nat) (j:Nat->V) (q:Nat),n = i+d->d < q ->
    (iterT (body86 L) (lp86 a n f) q (st86 a n f i j)).sem = some (match firstQ (badL a f) d i with
      | none=>en86e a n f 0
      | some t=>match ieq (legF a (f t)) 0 with
        | false=>en86f a n f t
        | true=>en86l a n f t)
  | 0,i,j,q+1,h,_=>by
    have:n = i:=by omega
    subst this
    exact iter_round (rc86e L a n f n j (ofNat_ge (Nat.le_refl _)))
  | d+1,i,j,q+1,h,h2=>by
    have hl:i < n:=by omega
    cases c1:ieq (legF a (f i)) 0 with
    | false =>
      rw [firstQ_t (show badL a f i = true by rw [badL,c1]; rfl)]
      simp only [c1]
      exact iter_round (rc86f L a n f i j (ofNat_lt hl) (ofNat_in hl) c1)
    | true =>
      cases c2:legR a (f i) with
      | false =>
        rw [firstQ_t (show badL a f i = true by rw [badL,c1,c2]; rfl)]
        simp only [c1]
        exact iter_round (rc86l L a n f i j (ofNat_lt hl) (ofNat_in hl) c1 c2)
      | true =>
        rw [firstQ_f (show badL a f i = false by rw [badL,c1,c2]; rfl),iter_round (rc86n L a n f i j (ofNat_lt hl) (ofNat_in hl) c1 c2),goOn_nm,succ_wr hl hn]
        exact run86 L a n f hn d (i+1) (fun _=>.und) q (by omega) (by omega)
theorem run86m (L:LT) (a:Int) (n:Nat) (f:Nat->E6) (hn:n <= 4611686018427387904):∀ (d i:Nat) (j:Nat->V) (q:Nat),n = i+d->d < q ->
    (iterT (body86_2 L) (lp86_2 a n f) q (st86_2 a n f i j)).sem = some (match firstQ (badM n f) d i with
      | none=>en86_2e a n f 0
      | some t=>en86_2m a n f t)
  | 0,i,j,q+1,h,_=>by
    have:n = i:=by omega
    subst this
    exact iter_round (rd86e L a n f n j (ofNat_ge (Nat.le_refl _)))
  | d+1,i,j,q+1,h,h2=>by
    have hl:i < n:=by omega
    have e1:=next_mod hl hn
    have hb:band (ile 0 (itmod (wr .i64 (iadd (ofNat i) 1)) (ofNat n))) (ilt (itmod (wr .i64 (iadd (ofNat i) 1)) (ofNat n)) (ofNat n)) = true:=by
      rw [e1]; exact ofNat_in (Nat.mod_lt _ (by omega))
    have e2:toN (ofNat ((i+1) % n)) = (i+1) % n:=rfl
    cases c1:ieq (f i).dst (f ((i+1) % n)).src with
    | false =>
      rw [firstQ_t (show badM n f i = true by rw [badM,c1]; rfl)]
      exact iter_round (rd86m L a n f i j (ofNat_lt hl) (ofNat_in hl) (ne_0 hl) hb (by rw [e1,e2]; exact c1))
    | true =>
      rw [firstQ_f (show badM n f i = false by rw [badM,c1]; rfl),iter_round (rd86n L a n f i j (ofNat_lt hl) (ofNat_in hl) (ne_0 hl) hb (by rw [e1,e2]; exact c1)),goOn_nm,succ_wr hl hn]
      exact run86m L a n f hn d (i+1) (fun _=>.und) q (by omega) (by omega)
def edgR (a:Int) (n:Nat) (f:Nat->E6):Int × Int :=
  match firstQ (badL a f) n 0 with
  | some t=>match ieq (legF a (f t)) 0 with
    | false=>(30,ofNat t)
    | true=>(5,ofNat t)
  | none=>match firstQ (badM n f) n 0 with
    | some t=>(41,ofNat t)
    | none=>(0,0)
def edgT:List V->T (V × List Blk)
  | [.val (.int .i64 a),v]=>apL v fun n f=>.br (fitN n) (out (.tup [iV (edgR a n f).1,iV (edgR a n f).2])) .fail
  | _=>.fail
theorem argI {a:Int} {v u:V} (h:∀ (S:Nat->Prop) (w:World) (c:Value),VR S w v noK c->VR S w u noK c):ArgLE [.val (.int .i64 a),v] [iV a,u]:=fun S w cs hv=>by
  obtain ⟨c,l,rfl,q1,q2⟩:=hv
  obtain ⟨c2,l2,rfl,q3,q4⟩:=q2
  exact ⟨c,_,rfl,q1,c2,l2,rfl,h S w c2 q3,q4⟩
theorem p86:PureC Try.prog Gl 81 edgT:=by
  refine pureC_intro tabOK mixed Try.func81 (by kernel_rfl) (by kernel_rfl) fun vs v h' h=>?_
  unfold edgT at h
  split at h
  · rename_i a u
    obtain ⟨n,f,ha,h1⟩:=apL_some h
    obtain ⟨hn,hq⟩:=sem_br_fail h1
    have:=sem_leaf hq
    simp only [Prod.mk.injEq] at this
    obtain ⟨rfl,rfl⟩:=this
    have hn:=fit8_small (fitN_8 hn)
    have hx:=cx_ok tb86_ok [(0,lp86 a n f),(2,lp86_2 a n f)]
    have hL:=loopsBy_le [(0,lp86 a n f),(2,lp86_2 a n f)]
    have h0:=fun L j=>run86 L a n f hn n 0 j (n+1) (by omega) (by omega)
    have h2:=fun L j=>run86m L a n f hn n 0 j (n+1) (by omega) (by omega)
    refine ⟨_,cxOf Gl tb86 [(0,lp86 a n f),(2,lp86_2 a n f)],_,argI ha,rfl,hx.1,hx.2,?_,RowsLE.refl _⟩
    unfold edgR
    cases c1:firstQ (badL a f) n 0 with
    | some t =>
      rw [c1] at h0
      cases c2:ieq (legF a (f t)) 0 with
      | false =>
        simp only [c2] at h0 ⊢
        exact told_le (onP_le hL hL) _ (wc86f _ _ a n f t (isP_true (h0 _ _)))
      | true =>
        simp only [c2] at h0 ⊢
        exact told_le (onP_le hL hL) _ (wc86l _ _ a n f t (isP_true (h0 _ _)))
    | none =>
      rw [c1] at h0
      cases c2:firstQ (badM n f) n 0 with
      | some t =>
        rw [c2] at h2
        exact told_le (onP_le (onP_le hL hL) hL) _ (wc86m _ _ _ a n f 0 t (isP_true (h0 _ _)) (isP_true (h2 _ _)))
      | none =>
        rw [c2] at h2
        exact told_le (onP_le (onP_le hL hL) hL) _ (wc86z _ _ _ a n f 0 0 (isP_true (h0 _ _)) (isP_true (h2 _ _)))
  · cases h
def lp96 (n:Nat) (f:Nat->E6) (m:Nat) (l:Nat->Int) (k:Int) (w:Bool):Lp:=⟨(bmK 38 0 [0,1,2,3,9,10]),0,(bmK 38 0 [9]),0,n+1⟩
def st96 (n:Nat) (f:Nat->E6) (m:Nat) (l:Nat->Int) (k:Int) (w:Bool) (c:Int) (i:Nat) (j:Nat->V):St:=⟨(jsV 38 0 j [(0,.sl 6 n (fun i=>(eV (f i)))),(1,.sl 1 m (fun k=>iV (l k))),(2,iV k),(3,bV w),(9,iV c),(10,nV i)]),[]⟩
def en96e (n:Nat) (f:Nat->E6) (m:Nat) (l:Nat->Int) (k:Int) (w:Bool) (c:Int) (i:Nat):Ex × St:=(.ex 0,⟨(jsV 38 0 (fun _=>.und) [(9,iV c)]),[]⟩)
noncomputable def body96 (L:LT):St->T (Ex × St):=fun st=>evalC tab ⟨callT tb0,L,Gl⟩ (loopBody Try.f68 0) 0 st
section
variable (L:LT) (n:Nat) (f:Nat->E6) (m:Nat) (l:Nat->Int) (k:Int) (w:Bool) (c:Int) (i:Nat)  (j:Nat->V)
include L n f m l k w c i j
theorem rc96e (h0:ilt (ofNat i) (ofNat n) = false):roundT (body96 L) (lp96 n f m l k w) (st96 n f m l k w c i j) = some ((.ex 0),⟨(jsV 38 0 (fun _=>.und) [(9,(iV c))]),[]⟩):=by
  exact sem_of_path (ds:=[false]) (cs:=[(ilt (ofNat i) (ofNat n))]) (by kernel_rfl) (by simp only [h0] <;> rfl)
theorem rc96a (h0:ilt (ofNat i) (ofNat n) = true) (h1:band (ile 0 (ofNat i)) (ilt (ofNat i) (ofNat m)) = true) (h2:ieq (l i) k = false):roundT (body96 L) (lp96 n f m l k w) (st96 n f m l k w c i j) = some (.nm,⟨(jsV 38 0 (fun _=>.und) [(0,(.sl 6 n (fun i=>(eV (f i))))),(1,(.sl 1 m (fun k=>(iV (l k))))),(2,(iV k)),(3,(bV w)),(9,(iV c)),(10,(iV (wr .i64 (iadd (ofNat i) 1))))]),[]⟩):=by
  exact sem_of_path (ds:=bbK 8 3) (cs:=[(ilt (ofNat i) (ofNat n)),(band (ile 0 (ofNat i)) (ilt (ofNat i) (ofNat m))),(ieq (l i) k),(ieq (l i) k),(ieq (l i) k),(ieq (l i) k),(ieq (l i) k),false]) (by kernel_rfl) (by simp only [h1] <;> simp only [h0,h2] <;> rfl)
theorem rc96b_p:((body96 L (st96 n f m l k w c i j)).bind fun r=>T.leaf (cutR (lp96 n f m l k w) r)).path [true,true,true,true,true,true,true,true,true,true,true,true,true,true,true] = some ([(ilt (ofNat i) (ofNat n)),(band (ile 0 (ofNat i)) (ilt (ofNat i) (ofNat m))),(ieq (l i) k),(ieq (l i) k),(ieq (l i) k),(bnot w),(bnot w),(bnot w),(bnot w),(bnot w),(bnot w),(ieq (l i) k),(bnot w),(ieq (l i) k),true],(.nm,⟨(jsV 38 0 (fun _=>.und) [(0,(.sl 6 n (fun i=>(eV (f i))))),(1,(.sl 1 m (fun k=>(iV (l k))))),(2,(iV k)),(3,(bV w)),(9,(iV (wr .i64 (iadd c 1)))),(10,(iV (wr .i64 (iadd (ofNat i) 1))))]),[]⟩)):=by kernel_rfl
theorem rc96b (h0:ilt (ofNat i) (ofNat n) = true) (h1:band (ile 0 (ofNat i)) (ilt (ofNat i) (ofNat m)) = true) (h2:ieq (l i) k = true) (h3:w = false):roundT (body96 L) (lp96 n f m l k w) (st96 n f m l k w c i j) = some (.nm,⟨(jsV 38 0 (fun _=>.und) [(0,(.sl 6 n (fun i=>(eV (f i))))),(1,(.sl 1 m (fun k=>(iV (l k))))),(2,(iV k)),(3,(bV w)),(9,(iV (wr .i64 (iadd c 1)))),(10,(iV (wr .i64 (iadd (ofNat i) 1))))]),[]⟩):=by
  subst h3; exact sem_of_path (rc96b_p L n f m l k false c i j) (by simp only [h1] <;> simp only [h0,h2] <;> rfl)
theorem rc96c_p:((body96 L (st96 n f m l k w c i j)).bind fun r=>T.leaf (cutR (lp96 n f m l k w) r)).path [true,true,true,true,true,false,false,false,true,false,false,false,true,false,true,true] = some ([(ilt (ofNat i) (ofNat n)),(band (ile 0 (ofNat i)) (ilt (ofNat i) (ofNat m))),(ieq (l i) k),(ieq (l i) k),(ieq (l i) k),(bnot w),(bnot w),(bnot w),(band (ile 0 (ofNat i)) (ilt (ofNat i) (ofNat n))),(bnot w),(bnot w),(bnot w),(ieq (l i) k),(bnot w),(ieq (l i) k),(ieq ((f i)).src 2)],(.nm,⟨(jsV 38 0 (fun _=>.und) [(0,(.sl 6 n (fun i=>(eV (f i))))),(1,(.sl 1 m (fun k=>(iV (l k))))),(2,(iV k)),(3,(bV w)),(9,(iV (wr .i64 (iadd c 1)))),(10,(iV (wr .i64 (iadd (ofNat i) 1))))]),[]⟩)):=by kernel_rfl
theorem rc96c (h0:ilt (ofNat i) (ofNat n) = true) (h1:band (ile 0 (ofNat i)) (ilt (ofNat i) (ofNat m)) = true) (h2:ieq (l i) k = true) (h3:w = true) (h4:band (ile 0 (ofNat i)) (ilt (ofNat i) (ofNat n)) = true) (h5:ieq ((f i)).src 2 = true):roundT (body96 L) (lp96 n f m l k w) (st96 n f m l k w c i j) = some (.nm,⟨(jsV 38 0 (fun _=>.und) [(0,(.sl 6 n (fun i=>(eV (f i))))),(1,(.sl 1 m (fun k=>(iV (l k))))),(2,(iV k)),(3,(bV w)),(9,(iV (wr .i64 (iadd c 1)))),(10,(iV (wr .i64 (iadd (ofNat i) 1))))]),[]⟩):=by
  subst h3; exact sem_of_path (rc96c_p L n f m l k true c i j) (by simp only [h1,h4] <;> simp only [h0,h2,h5] <;> rfl)
theorem rc96d_p:((body96 L (st96 n f m l k w c i j)).bind fun r=>T.leaf (cutR (lp96 n f m l k w) r)).path [true,true,true,true,true,false,false,false,true,false,false,false,true,false,true,false] = some ([(ilt (ofNat i) (ofNat n)),(band (ile 0 (ofNat i)) (ilt (ofNat i) (ofNat m))),(ieq (l i) k),(ieq (l i) k),(ieq (l i) k),(bnot w),(bnot w),(bnot w),(band (ile 0 (ofNat i)) (ilt (ofNat i) (ofNat n))),(bnot w),(bnot w),(bnot w),(ieq (l i) k),(bnot w),(ieq (l i) k),(ieq ((f i)).src 2)],(.nm,⟨(jsV 38 0 (fun _=>.und) [(0,(.sl 6 n (fun i=>(eV (f i))))),(1,(.sl 1 m (fun k=>(iV (l k))))),(2,(iV k)),(3,(bV w)),(9,(iV c)),(10,(iV (wr .i64 (iadd (ofNat i) 1))))]),[]⟩)):=by kernel_rfl
theorem rc96d (h0:ilt (ofNat i) (ofNat n) = true) (h1:band (ile 0 (ofNat i)) (ilt (ofNat i) (ofNat m)) = true) (h2:ieq (l i) k = true) (h3:w = true) (h4:band (ile 0 (ofNat i)) (ilt (ofNat i) (ofNat n)) = true) (h5:ieq ((f i)).src 2 = false):roundT (body96 L) (lp96 n f m l k w) (st96 n f m l k w c i j) = some (.nm,⟨(jsV 38 0 (fun _=>.und) [(0,(.sl 6 n (fun i=>(eV (f i))))),(1,(.sl 1 m (fun k=>(iV (l k))))),(2,(iV k)),(3,(bV w)),(9,(iV c)),(10,(iV (wr .i64 (iadd (ofNat i) 1))))]),[]⟩):=by
  subst h3; exact sem_of_path (rc96d_p L n f m l k true c i j) (by simp only [h1,h4] <;> simp only [h0,h2,h5] <;> rfl)
end
def jk96 (n:Nat) (f:Nat->E6) (m:Nat) (l:Nat->Int) (k:Int) (w:Bool) :Nat->V:=lkV undefV [(8,(iV 0))]
theorem wc96 (L:LT) (p0:PT) (n:Nat) (f:Nat->E6) (m:Nat) (l:Nat->Int) (k:Int) (w:Bool) (c:Int) (i:Nat)  (hp0:p0 (body96 (onP 0 p0 (en96e n f m l k w c i) L)) (st96 n f m l k w 0 0 (jk96 n f m l k w )) = true):(finF (evalF tab ⟨callT tb0,(onP 0 p0 (en96e n f m l k w c i) L),Gl⟩ Try.f68 [edgesV n f,intsV m l,iV k,bV w] [])).sem = some ((iV c),[]):=by
  exact sem_of_path (ds:=[true]) (cs:=[(p0 (body96 (onP 0 p0 (en96e n f m l k w c i) L)) (st96 n f m l k w 0 0 (jk96 n f m l k w )))]) (by kernel_rfl) (by simp only [hp0] <;> rfl)
def isW (e:E6):Bool:=ieq e.src 2
def cntP (l:Nat->Int) (c:Nat->Bool) (k:Int) (i:Nat):Bool:=band (ieq (l i) k) (c i)
def cntK (n:Nat) (l:Nat->Int) (c:Nat->Bool) (k:Int):Int:=ofNat (cntB (cntP l c k) n)
def ofW (w:Bool) (f:Nat->E6) (i:Nat):Bool:=bor (bnot w) (isW (f i))
theorem run96 (L:LT) (n:Nat) (f:Nat->E6) (l:Nat->Int) (k:Int) (w:Bool) (hn:n <= 4611686018427387904):∀ (d i:Nat) (j:Nat->V) (q:Nat),n = i+d->d < q ->
    (iterT (body96 L) (lp96 n f n l k w) q (st96 n f n l k w (ofNat (cntB (cntP l (ofW w f) k) i)) i j)).sem = some (en96e n f n l k w (ofNat (cntB (cntP l (ofW w f) k) n)) n)
  | 0,i,j,q+1,h,_=>by
    have:n = i:=by omega
    subst this
    exact iter_round (rc96e L n f n l k w (ofNat (cntB (cntP l (ofW w f) k) n)) n j (ofNat_ge (Nat.le_refl _)))
  | d+1,i,j,q+1,h,h2=>by
    have hl:i < n:=by omega
    have hc:=cntB_le (cntP l (ofW w f) k) i
    have yes:cntP l (ofW w f) k i = true->wr .i64 (iadd (ofNat (cntB (cntP l (ofW w f) k) i)) 1) = ofNat (cntB (cntP l (ofW w f) k) (i+1)):=fun h3=>by
      rw [succ_wr (show cntB (cntP l (ofW w f) k) i < n by omega) hn,cntB_t h3]
    have no:cntP l (ofW w f) k i = false->ofNat (cntB (cntP l (ofW w f) k) i) = ofNat (cntB (cntP l (ofW w f) k) (i+1)):=fun h3=>by rw [cntB_f h3]
    cases c1:ieq (l i) k with
    | false =>
      rw [iter_round (rc96a L n f n l k w (ofNat (cntB (cntP l (ofW w f) k) i)) i j (ofNat_lt hl) (ofNat_in hl) c1),goOn_nm,succ_wr hl hn,no (by rw [cntP,c1]; rfl)]
      exact run96 L n f l k w hn d (i+1) (fun _=>.und) q (by omega) (by omega)
    | true =>
      cases c2:w with
      | false =>
        subst c2
        rw [iter_round (rc96b L n f n l k false (ofNat (cntB (cntP l (ofW false f) k) i)) i j (ofNat_lt hl) (ofNat_in hl) c1 rfl),goOn_nm,succ_wr hl hn,yes (by rw [cntP,c1]; rfl)]
        exact run96 L n f l k false hn d (i+1) (fun _=>.und) q (by omega) (by omega)
      | true =>
        subst c2
        cases c3:ieq (f i).src 2 with
        | true =>
          rw [iter_round (rc96c L n f n l k true (ofNat (cntB (cntP l (ofW true f) k) i)) i j (ofNat_lt hl) (ofNat_in hl) c1 rfl (ofNat_in hl) c3),goOn_nm,succ_wr hl hn,yes (by rw [cntP,c1,ofW,isW,c3]; rfl)]
          exact run96 L n f l k true hn d (i+1) (fun _=>.und) q (by omega) (by omega)
        | false =>
          rw [iter_round (rc96d L n f n l k true (ofNat (cntB (cntP l (ofW true f) k) i)) i j (ofNat_lt hl) (ofNat_in hl) c1 rfl (ofNat_in hl) c3),goOn_nm,succ_wr hl hn,no (by rw [cntP,c1,ofW,isW,c3]; rfl)]
          exact run96 L n f l k true hn d (i+1) (fun _=>.und) q (by omega) (by omega)
def cntKT:List V->T (V × List Blk)
  | [v,u,.val (.int .i64 k),.val (.bool w)]=>apL v fun n f=>apI u fun m l=>.br (nbeq n m) (.br (smallN n) (out (iV (cntK n l (fun i=>bor (bnot w) (isW (f i))) k))) .fail) .fail
  | _=>.fail
theorem p96:PureC Try.prog Gl 68 cntKT:=by
  refine pureC_intro tabOK mixed Try.func68 (by kernel_rfl) (by kernel_rfl) fun vs v h' h=>?_
  unfold cntKT at h
  split at h
  · rename_i v1 u1 k w
    obtain ⟨n,f,ha,h1⟩:=apL_some h
    obtain ⟨m,l,hb,h2⟩:=apI_some h1
    obtain ⟨hm,h3⟩:=sem_br_fail h2
    obtain ⟨hn,hq⟩:=sem_br_fail h3
    have hm:n = m:=Nat.eq_of_beq_eq_true hm
    subst hm
    have:=sem_leaf hq
    simp only [Prod.mk.injEq] at this
    obtain ⟨rfl,rfl⟩:=this
    have hn:n <= 4611686018427387904:=of_decide_eq_true hn
    have hA:ArgLE [v1,u1,.val (.int .i64 k),.val (.bool w)] [edgesV n f,intsV n l,iV k,bV w]:=fun S w' cs hv=>by
      obtain ⟨c,l1,rfl,q1,c2,l2,rfl,q2,q3⟩:=hv
      exact ⟨c,_,rfl,ha S w' c q1,c2,l2,rfl,hb S w' c2 q2,q3⟩
    have hx:=cx_ok tb0_ok [(0,lp96 n f n l k w)]
    have hL:=loopsBy_le [(0,lp96 n f n l k w)]
    exact ⟨_,cxOf Gl tb0 [(0,lp96 n f n l k w)],_,hA,rfl,hx.1,hx.2,told_le (onP_le hL hL) _ (wc96 _ _ n f n l k w _ n (isP_true (run96 _ n f l k w hn n 0 _ (n+1) (by omega) (by omega)))),RowsLE.refl _⟩
  · cases h
end Go.Proofs.Ytjhnfomefcngfaa.Ed
