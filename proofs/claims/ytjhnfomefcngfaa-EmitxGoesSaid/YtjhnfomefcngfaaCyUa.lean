/-
  The least turned list of edges; a list turned. No conditions.
-/
import Derived.Test.YtjhnfomefcngfaaCyT
namespace Go.Proofs.Ytjhnfomefcngfaa.Ed
open Go.Sy
open Int (ofNat)
theorem AcF {i n:Nat} (h:i < n):ieq (ofNat n) 0 = false:=by rw [show (0:Int) = ofNat 0 from rfl,D1,decide_eq_false (by omega)]
def Eb (n:Nat) (h:Nat->Int) (p i:Nat):Int:=h ((p+i) % n)
def JE (n:Nat) (h:Nat->Int) (p q:Nat):Prop:=∃ s,s < n ∧ (∀ t,t < s->Eb n h p t = Eb n h q t) ∧ Eb n h p s < Eb n h q s
def Eu (n:Nat) (h:Nat->Int) (p:Nat):Prop:=p < n ∧ ∀ q,q < n->¬ JE n h q p
theorem F2 {n:Nat} {h:Nat->Int} {p:Nat}:¬ JE n h p p:=by
 rintro ⟨s,_,_,h3⟩
 omega
theorem Ms {n:Nat} {h:Nat->Int} {a b c:Nat} (h1:JE n h a b) (h2:JE n h b c):JE n h a c:=by
 obtain ⟨s,s1,s2,s3⟩:=h1
 obtain ⟨r,r1,r2,r3⟩:=h2
 rcases Nat.lt_trichotomy s r with e | e | e
 ·exact ⟨s,s1,λt ht=>(s2 t ht).trans (r2 t (by omega)),by rw [<- r2 s e]; exact s3⟩
 ·subst e
  exact ⟨s,s1,λt ht=>(s2 t ht).trans (r2 t ht),by omega⟩
 ·exact ⟨r,r1,λt ht=>(s2 t (by omega)).trans (r2 t ht),by rw [s2 r e]; exact r3⟩
theorem Mt (n:Nat) (h:Nat->Int) (p q:Nat):∀ m,m <= n->(∃ s,s < m ∧ (∀ t,t < s->Eb n h p t = Eb n h q t) ∧ Eb n h p s ≠ Eb n h q s) ∨ ∀ t,t < m->Eb n h p t = Eb n h q t
 | 0,_=>.inr λt ht=>absurd ht (Nat.not_lt_zero t)
 | m+1,hm=>by
  rcases Mt n h p q m (by omega) with ⟨s,h1,h2,h3⟩ | h1
  ·exact .inl ⟨s,by omega,h2,h3⟩
  ·by_cases e:Eb n h p m = Eb n h q m
   ·refine .inr λt ht=>?_
    by_cases et:t = m
    ·rw [et]; exact e
    ·exact h1 t (by omega)
   ·exact .inl ⟨m,by omega,h1,e⟩
theorem SF {n:Nat} {h:Nat->Int} {p q:Nat} (hp:Eu n h p) (hq:Eu n h q):∀ t,t < n->Eb n h p t = Eb n h q t:=by
 rcases Mt n h p q n (Nat.le_refl n) with ⟨s,h1,h2,h3⟩ | h1
 ·rcases Int.lt_or_gt_of_ne h3 with e | e
  ·exact absurd ⟨s,h1,h2,e⟩ (hq.2 p hp.1)
  ·exact absurd ⟨s,h1,λt ht=>(h2 t ht).symm,e⟩ (hp.2 q hq.1)
 ·exact h1
theorem Oh (n:Nat) (h:Nat->Int):∀ m,0 < m->∃ p,p < m ∧ ∀ q,q < m->¬ JE n h q p
 | 0,hm=>absurd hm (Nat.lt_irrefl 0)
 | 1,_=>⟨0,by omega,λq hq=>by
   have:q = 0:=by omega
   subst this
   exact F2⟩
 | m+2,_=>by
  obtain ⟨p,h1,h2⟩:=Oh n h (m+1) (by omega)
  by_cases e:JE n h (m+1) p
  ·refine ⟨m+1,by omega,λq hq hl=>?_⟩
   by_cases eq:q = m+1
   ·subst eq; exact F2 hl
   ·exact h2 q (by omega) (Ms hl e)
  ·refine ⟨p,by omega,λq hq hl=>?_⟩
   by_cases eq:q = m+1
   ·subst eq; exact e hl
   ·exact h2 q (by omega) hl
theorem Qx (n:Nat) (h:Nat->Int) (a u:Nat):Eb n h (a % n) u = h ((a+u) % n):=by
 unfold Eb
 rw [Nat.mod_add_mod]
theorem RQ {n:Nat} {h:Nat->Int} {i j s:Nat} (hs:s < n) (h1:∀ t,t < s->h ((i+t) % n) = h ((j+t) % n)) (h2:h ((j+s) % n) < h ((i+s) % n)):∀ p,i <= p->p <= i+s->¬ Eu n h p:=by
 intro p hp1 hp2 hm
 obtain ⟨hpn,hm⟩:=hm
 refine hm ((j+(p - i)) % n) (Nat.mod_lt _ (by omega)) ⟨s - (p - i),by omega,λt ht=>?_,?_⟩
 ·rw [Qx]
  unfold Eb
  have:=h1 (p - i+t) (by omega)
  rw [show i+(p - i+t) = p+t by omega,show j+(p - i+t) = j+(p - i)+t by omega] at this
  exact this.symm
 ·rw [Qx]
  unfold Eb
  rw [show j+(p - i)+(s - (p - i)) = j+s by omega,show p+(s - (p - i)) = i+s by omega]
  exact h2
theorem N2 {n:Nat} {h:Nat->Int} {lo hi:Nat} (hlt:lo < hi) (h1:∀ u,u < n->h ((hi+u) % n) = h ((lo+u) % n)) (hno:∀ p,p < n->p < hi->p ≠ lo->¬ Eu n h p):∀ m p,p <= m->Eu n h p->Eu n h lo:=by
 intro m
 induction m with
 | zero =>
  intro p hp hm
  by_cases e:p = lo
  ·rw [<- e]; exact hm
  ·exact absurd hm (hno p hm.1 (by omega) e)
 | succ m ih =>
  intro p hp hm
  by_cases e:p = lo
  ·rw [<- e]; exact hm
  ·by_cases hph:p < hi
   ·exact absurd hm (hno p hm.1 hph e)
   ·have hpn:=hm.1
    have hr:∀ u,u < n->Eb n h p u = Eb n h (p - (hi - lo)) u:=λu _=>by
     unfold Eb
     have:=h1 ((p - hi+u) % n) (Nat.mod_lt _ (by omega))
     rw [Nat.add_mod_mod,Nat.add_mod_mod,show hi+(p - hi+u) = p+u by omega,show lo+(p - hi+u) = p - (hi - lo)+u by omega] at this
     exact this
    refine ih (p - (hi - lo)) (by omega) ⟨by omega,λq hq hl=>?_⟩
    obtain ⟨s,s1,s2,s3⟩:=hl
    exact hm.2 q hq ⟨s,s1,λt ht=>(s2 t ht).trans (hr t (by omega)).symm,by rw [hr s s1]; exact s3⟩
theorem Uy (n:Nat) (h:Nat->Int) (hn:0 < n):∀ q i t s,i ≠ t->min i t < n->i <= 2 * n->t <= 2 * n+1->s <= n->(∀ u,u < s->h ((i+u) % n) = h ((t+u) % n)) ->
  (∀ p,p < n->p < max i t->p ≠ min i t->¬ Eu n h p)->3 * n+1 - (i+t+s) < q->Eu n h (E5 n h q i t s):=by
 intro q
 obtain ⟨p0,hp0⟩:∃ p,Eu n h p:=by
  obtain ⟨p,h1,h2⟩:=Oh n h n hn
  exact ⟨p,h1,h2⟩
 have hp0n:=hp0.1
 induction q with
 | zero=>intro i t s _ _ _ _ _ _ _ hq; exact absurd hq (Nat.not_lt_zero _)
 | succ q ih =>
  intro i t s hne hmin hi ht hs heq hno hq
  unfold E5
  split
  ·rename_i hx
   have hmin0:∀ lo,lo = min i t->Eu n h lo->Eu n h (min (min i t) (n - 1)):=λlo hlo hm=>by
    rw [show min (min i t) (n - 1) = lo by omega]; exact hm
   by_cases c:n <= i ∨ n <= t
   ·refine hmin0 (min i t) rfl ?_
    by_cases e:p0 = min i t
    ·rw [<- e]; exact hp0
    ·exact absurd hp0 (hno p0 hp0n (by omega) e)
   ·refine hmin0 (min i t) rfl ?_
    have hsn:s = n:=by omega
    subst hsn
    by_cases c2:i < t
    ·rw [show min i t = i by omega]
     exact N2 c2 (λu hu=>(heq u hu).symm) (λp hp h1 h2=>hno p hp (by omega) (by omega)) p0 p0 (Nat.le_refl _) hp0
    ·rw [show min i t = t by omega]
     exact N2 (show t < i by omega) (λu hu=>heq u hu) (λp hp h1 h2=>hno p hp (by omega) (by omega)) p0 p0 (Nat.le_refl _) hp0
  ·rename_i hx
   split
   ·rename_i he
    refine ih i t (s+1) hne hmin hi ht (by omega) (λu hu=>?_) hno (by omega)
    by_cases eu:u = s
    ·rw [eu]; exact he
    ·exact heq u (by omega)
   ·rename_i he
    split
    ·rename_i hg
     have hsk:=RQ (by omega) heq hg
     split
     ·rename_i e
      exact ih (i+s+1) (t+1) 0 (by omega) (by omega) (by omega) (by omega) (by omega) (λu hu=>absurd hu (Nat.not_lt_zero u)) (λp hp h1 h2=>by
       by_cases hr:i <= p ∧ p <= i+s
       ·exact hsk p hr.1 hr.2
       ·exact hno p hp (by omega) (by omega)) (by omega)
     ·rename_i e
      exact ih (i+s+1) t 0 (by omega) (by omega) (by omega) (by omega) (by omega) (λu hu=>absurd hu (Nat.not_lt_zero u)) (λp hp h1 h2=>by
       by_cases hr:i <= p ∧ p <= i+s
       ·exact hsk p hr.1 hr.2
       ·exact hno p hp (by omega) (by omega)) (by omega)
    ·rename_i hg
     have hg2:h ((i+s) % n) < h ((t+s) % n):=by omega
     have hsk:=RQ (by omega) (λu hu=>(heq u hu).symm) hg2
     split
     ·rename_i e
      exact ih i (t+s+2) 0 (by omega) (by omega) (by omega) (by omega) (by omega) (λu hu=>absurd hu (Nat.not_lt_zero u)) (λp hp h1 h2=>by
       by_cases hr:t <= p ∧ p <= t+s
       ·exact hsk p hr.1 hr.2
       ·exact hno p hp (by omega) (by omega)) (by omega)
     ·rename_i e
      exact ih i (t+s+1) 0 (by omega) (by omega) (by omega) (by omega) (by omega) (λu hu=>absurd hu (Nat.not_lt_zero u)) (λp hp h1 h2=>by
       by_cases hr:t <= p ∧ p <= t+s
       ·exact hsk p hr.1 hr.2
       ·exact hno p hp (by omega) (by omega)) (by omega)
theorem JR (n:Nat) (h:Nat->Int) (hn:0 < n):Eu n h (BZ n h) :=
 Uy n h hn _ 0 1 0 (by omega) (by omega) (by omega) (by omega) (by omega) (λu hu=>absurd hu (Nat.not_lt_zero u)) (λp _ h1 h2=>by omega) (by omega)
theorem QH {n:Nat} {h g:Nat->Int} {k:Nat} (hn:0 < n) (hg:∀ i,i < n->g i = h ((k+i) % n)):∀ i,i < n->Eb n g (BZ n g) i = Eb n h (BZ n h) i:=by
 have hr:∀ p u,Eb n g p u = Eb n h ((k+p) % n) u:=λp u=>by
  rw [Qx]
  unfold Eb
  rw [hg _ (Nat.mod_lt _ hn),Nat.add_mod_mod,Nat.add_assoc]
 have hm:=JR n g hn
 have hm2:Eu n h ((k+BZ n g) % n):=by
  refine ⟨Nat.mod_lt _ hn,λq hq hl=>?_⟩
  have e:(k+(q+(n - k % n)) % n) % n = q:=by
   rw [Nat.add_mod_mod,<- Nat.mod_add_mod,show k % n+(q+(n - k % n)) = q+n by have:=Nat.mod_lt k hn; omega,Nat.add_mod_right,Nat.mod_eq_of_lt hq]
  refine hm.2 ((q+(n - k % n)) % n) (Nat.mod_lt _ hn) ?_
  obtain ⟨s,s1,s2,s3⟩:=hl
  refine ⟨s,s1,λt ht=>?_,?_⟩
  ·rw [hr,hr,e]; exact s2 t ht
  ·rw [hr,hr,e]; exact s3
 intro i hi
 rw [hr]
 exact SF hm2 (JR n h hn) i hi
def DP (n:Nat) (b:Int):Nat:=toN (sel (ilt (Ab b (ofNat n)) 0) (Ab b (ofNat n)+ofNat n) (Ab b (ofNat n)))
def JA (n:Nat) (f:Nat->E6) (b:Int) (i:Nat):E6:=f ((DP n b+i) % n)
theorem LW (b:Int) {n:Nat} (h:0 < n):-(n:Int) < Ab b (ofNat n) ∧ Ab b (ofNat n) < (n:Int):=by
 unfold Ab
 have h1:(0:Int) < ofNat n:=by simp only [Int.ofNat_eq_natCast]; omega
 exact ⟨Int.lt_tmod_of_pos b h1,Int.tmod_lt_of_pos b h1⟩
theorem Wu {b:Int} {n:Nat} (h:0 < n) (hn:n <= 4611686018427387904) (hb:ilt (Ab b (ofNat n)) 0 = true):wr .i64 (Ae (Ab b (ofNat n)) (ofNat n)) = ofNat (DP n b) ∧ DP n b < n:=by
 obtain ⟨h1,h2⟩:=LW b h
 have h3:Ab b (ofNat n) < 0:=by simpa [ilt] using hb
 have h4:DP n b = (Ab b (ofNat n)+(n:Int)).toNat:=by unfold DP; rw [hb]; rfl
 rw [h4]
 generalize Ab b (ofNat n) = r at h1 h2 h3 ⊢
 refine ⟨?_,by omega⟩
 unfold wr Ae IntKind.wrap
 simp [IntKind.bits,IntKind.signed]
 omega
theorem Wt {b:Int} {n:Nat} (h:0 < n) (hb:ilt (Ab b (ofNat n)) 0 = false):Ab b (ofNat n) = ofNat (DP n b) ∧ DP n b < n:=by
 obtain ⟨h1,h2⟩:=LW b h
 have h3:¬ Ab b (ofNat n) < 0:=by simpa [ilt] using hb
 have h4:DP n b = (Ab b (ofNat n)).toNat:=by unfold DP; rw [hb]; rfl
 rw [h4]
 generalize Ab b (ofNat n) = r at h1 h2 h3 ⊢
 refine ⟨?_,by omega⟩
 simp only [Int.ofNat_eq_natCast]
 omega
theorem Wv {n k:Nat} (h:k < n):DP n (ofNat k) = k:=by
 unfold DP
 rw [C9,Nat.mod_eq_of_lt h]
 have:ilt (ofNat k) 0 = false:=by simp [ilt]
 rw [this]
 rfl
def M7 (n:Nat) (f:Nat->E6) (b:Int):Lp:=⟨(bmK 39 0 [0,5,6,7,8]),2,bmK 39 0 [5],2,n+1⟩
def XZ (n:Nat) (f:Nat->E6) (b:Int) (k:Int) (i:Nat) (x:Nat->V) (j:Nat->V):St:=⟨(jsV 39 0 j [(0,.sl 6 n (λi=>eV (f i))),(5,.ref 1),(6,nV n),(7,iV k),(8,nV i)]),[.row 44 6 0 (λ_=>.und),.row 44 6 i x]⟩
def KL (n:Nat) (f:Nat->E6) (b:Int) (k:Int) (i:Nat) (x:Nat->V):Ex × St:=(.ex 0,⟨(jsV 39 0 (λ_=>.und) [(5,.ref 1)]),[.row 44 6 0 (λ_=>.und),.row 44 6 i x]⟩)
noncomputable def FW (L:LT):St->T (Ex × St):=λst=>AG tab ⟨Aq tb0,L,Gl⟩ (A1 Try.f21 0) 0 st
section
variable (L:LT) (n:Nat) (f:Nat->E6) (b:Int) (k:Int) (i:Nat) (x:Nat->V)  (j:Nat->V)
include L n f b k i x j
theorem Ai7 (h0:ilt (ofNat i) (ofNat n) = false):Aj (FW L) (M7 n f b) (XZ n f b k i x j) = some ((.ex 0),⟨(jsV 39 0 (λ_=>.und) [(5,(.ref 1))]),[.row 44 6 0 (λ_=>.und),.row 44 6 i x]⟩):=Aa [false] [ilt (ofNat i) (ofNat n)] (by kernel_rfl) (by simp only [h0] <;> rfl)
theorem Ai6 (h0:ilt (ofNat i) (ofNat n) = true) (h1:ieq (ofNat n) 0 = false) (h2:Af (ile 0 (Ab (wr .i64 (Ae k (ofNat i))) (ofNat n))) (ilt (Ab (wr .i64 (Ae k (ofNat i))) (ofNat n)) (ofNat n)) = true) (h3:Bh i 1 40 = true):Aj (FW L) (M7 n f b) (XZ n f b k i x j) = some (.nm,⟨(jsV 39 0 (λ_=>.und) [(0,(.sl 6 n (λi=>eV (f i)))),(5,(.ref 1)),(6,(nV n)),(7,(iV k)),(8,(iV (wr .i64 (Ae (ofNat i) 1))))]),[.row 44 6 0 (λ_=>.und),.row 44 6 (Bp i 1) (AB i x (eV (f (toN (Ab (wr .i64 (Ae k (ofNat i))) (ofNat n))))))]⟩):=Aa [true,false,true,true] [ilt (ofNat i) (ofNat n),ieq (ofNat n) 0,Af (ile 0 (Ab (wr .i64 (Ae k (ofNat i))) (ofNat n))) (ilt (Ab (wr .i64 (Ae k (ofNat i))) (ofNat n)) (ofNat n)),Bh i 1 40] (by kernel_rfl) (by simp only [h2] <;> simp only [*] <;> rfl)
end
theorem AgY (L:LT) (n:Nat) (f:Nat->E6) (b:Int) (h0:ieq (ofNat n) 0 = true):(A2 (An tab ⟨Aq tb0,L,Gl⟩ Try.f21 [A3 n f,iV b] [])).sem = some ((.ref 0),[.row 44 6 0 (λ_=>.und)]):=Aa [true] [ieq (ofNat n) 0] (by kernel_rfl) (by simp only [h0] <;> rfl)
def LH (n:Nat) (f:Nat->E6) (b:Int) :St:=⟨(jsV 39 0 (λ_=>A9) [(0,(.sl 6 n (λi=>eV (f i)))),(1,(iV b)),(4,(.ref 0)),(5,(.ref 1)),(6,(nV n)),(7,(iV (wr .i64 (Ae (Ab b (ofNat n)) (ofNat n))))),(8,(iV 0)),(9,(.sl 6 n (λi=>eV (f i)))),(10,(nV n)),(11,(nV n)),(12,(bV (ieq (ofNat n) 0))),(14,(iV b)),(15,(nV n)),(16,(iV (Ab b (ofNat n)))),(17,(iV (Ab b (ofNat n)))),(18,(bV (ilt (Ab b (ofNat n)) 0))),(19,(iV (Ab b (ofNat n)))),(20,(nV n)),(21,(iV (wr .i64 (Ae (Ab b (ofNat n)) (ofNat n)))))]),[.row 44 6 0 (λ_=>.und),.row 44 6 0 (λ_=>.und)]⟩
def LG (n:Nat) (f:Nat->E6) (b:Int) :St:=⟨(jsV 39 0 (λ_=>A9) [(0,(.sl 6 n (λi=>eV (f i)))),(1,(iV b)),(4,(.ref 0)),(5,(.ref 1)),(6,(nV n)),(7,(iV (Ab b (ofNat n)))),(8,(iV 0)),(9,(.sl 6 n (λi=>eV (f i)))),(10,(nV n)),(11,(nV n)),(12,(bV (ieq (ofNat n) 0))),(14,(iV b)),(15,(nV n)),(16,(iV (Ab b (ofNat n)))),(17,(iV (Ab b (ofNat n)))),(18,(bV (ilt (Ab b (ofNat n)) 0)))]),[.row 44 6 0 (λ_=>.und),.row 44 6 0 (λ_=>.und)]⟩
section
variable (L:LT) (p0:PT) (n:Nat) (f:Nat->E6) (b:Int) (k:Int) (x:Nat->V)
include L p0 n f b k x
theorem Aha (h0:ieq (ofNat n) 0 = false) (h1:ilt (Ab b (ofNat n)) 0 = true) (hp0:p0 (FW (onP 0 p0 (KL n f b k n x) L)) (LH n f b) = true):(A2 (An tab ⟨Aq tb0,onP 0 p0 (KL n f b k n x) L,Gl⟩ Try.f21 [A3 n f,iV b] [])).sem = some ((.ref 0),[.row 44 6 n x]):=Aa [false,false,true,true] [ieq (ofNat n) 0,ieq (ofNat n) 0,ilt (Ab b (ofNat n)) 0,p0 (FW (onP 0 p0 (KL n f b k n x) L)) (LH n f b)] (by kernel_rfl) (by simp only [hp0] <;> simp only [h0,h1] <;> rfl)
theorem AgZ (h0:ieq (ofNat n) 0 = false) (h1:ilt (Ab b (ofNat n)) 0 = false) (hp0:p0 (FW (onP 0 p0 (KL n f b k n x) L)) (LG n f b) = true):(A2 (An tab ⟨Aq tb0,onP 0 p0 (KL n f b k n x) L,Gl⟩ Try.f21 [A3 n f,iV b] [])).sem = some ((.ref 0),[.row 44 6 n x]):=Aa [false,false,false,true] [ieq (ofNat n) 0,ieq (ofNat n) 0,ilt (Ab b (ofNat n)) 0,p0 (FW (onP 0 p0 (KL n f b k n x) L)) (LG n f b)] (by kernel_rfl) (by simp only [hp0] <;> simp only [h0,h1] <;> rfl)
end
theorem Yv (L:LT) (n:Nat) (f:Nat->E6) (b:Int) (K:Nat) (hK:K < n) (h8:n * 40 <= 140737488355328):∀ (d i:Nat) (j:Nat->V) (q:Nat),n = i+d->d < q ->
  (A8 (FW L) (M7 n f b) q (XZ n f b (ofNat K) i (BQ (λi=>eV (f ((K+i) % n))) i) j)).sem = some (KL n f b (ofNat K) n (BQ (λi=>eV (f ((K+i) % n))) n))
 | 0,i,j,q+1,h,_=>by
  have:n = i:=by omega
  subst this
  exact Ad (Ai7 L n f b (ofNat K) n (BQ (λi=>eV (f ((K+i) % n))) n) j (AF (Nat.le_refl _)))
 | d+1,i,j,q+1,h,h2=>by
  have hl:i < n:=by omega
  have h9:(i+1) * 40 <= 140737488355328:=Nat.le_trans (Nat.mul_le_mul_right 40 hl) h8
  have ha:Bh i 1 40 = true:=decide_eq_true h9
  have e1:Ab (wr .i64 (Ae (ofNat K) (ofNat i))) (ofNat n) = ofNat ((K+i) % n):=by rw [DI (by omega),C9]
  have hb:Af (ile 0 (Ab (wr .i64 (Ae (ofNat K) (ofNat i))) (ofNat n))) (ilt (Ab (wr .i64 (Ae (ofNat K) (ofNat i))) (ofNat n)) (ofNat n)) = true:=by
   rw [e1]; exact Ap (Nat.mod_lt _ (by omega))
  rw [Ad (Ai6 L n f b (ofNat K) i (BQ (λi=>eV (f ((K+i) % n))) i) j (ofNat_lt hl) (AcF hl) hb ha),Aw,Ao hl (by omega),e1,show toN (ofNat ((K+i) % n)) = (K+i) % n from rfl]
  exact Yv L n f b K hK h8 d (i+1) (λ_=>.und) q (by omega) (by omega)
def M9:List V->T (V × List Blk)
 | [v,.val (.int .i64 b)]=>apL v λn f=>.br (AN n) (.leaf (.ref 0,[.row 44 6 n λi=>eV (JA n f b i)])) .fail
 | _=>.fail
theorem Xf (n:Nat) (f:Nat->E6) (b:Int) (g:Nat->V):LH n f b = XZ n f b (wr .i64 (Ae (Ab b (ofNat n)) (ofNat n))) 0 (BQ g 0) (λi=>nth (LH n f b).t i):=by kernel_rfl
theorem Xe (n:Nat) (f:Nat->E6) (b:Int) (g:Nat->V):LG n f b = XZ n f b (Ab b (ofNat n)) 0 (BQ g 0) (λi=>nth (LG n f b).t i):=by kernel_rfl
theorem p69:AA Try.prog Gl 21 M9:=by
 refine A5 AQ AR Try.func21 (by kernel_rfl) (by kernel_rfl) λvs v h' h=>?_
 unfold M9 at h
 split at h
 ·rename_i u b
  obtain ⟨n,f,ha,h1⟩:=Cl h
  obtain ⟨hn,hq⟩:=Ag h1
  have:=Ac hq
  simp only [Prod.mk.injEq] at this
  obtain ⟨rfl,rfl⟩:=this
  have h8:n * 40 <= 140737488355328:=of_decide_eq_true hn
  have hA:BL [u,.val (.int .i64 b)] [A3 n f,iV b]:=λS w cs hv=>by
   obtain ⟨c,l,rfl,q1,q2⟩:=hv
   exact ⟨c,l,rfl,ha S w c q1,q2⟩
  have hx:=AS Ee [(0,M7 n f b)]
  have hL:=AL [(0,M7 n f b)]
  cases n with
  | zero=>exact ⟨_,AT Gl tb0 [(0,M7 0 f b)],_,hA,rfl,hx.1,hx.2,AgY _ 0 f b rfl,AE.one λj hj=>absurd hj (Nat.not_lt_zero _)⟩
  | succ m =>
   have hm:m+1 <= 4611686018427387904:=by omega
   have h0:0 < m+1:=Nat.succ_pos m
   have hz:ieq (ofNat (m+1)) 0 = false:=AcF h0
   have fin:∀ K,K = DP (m+1) b->AE [Blk.row 44 6 (m+1) (BQ (λi=>eV (f ((K+i) % (m+1)))) (m+1))] [Blk.row 44 6 (m+1) λi=>eV (JA (m+1) f b i)]:=λK hK=>AE.one λj hj=>by
    rw [I0 _ _ j hj,hK]
    rfl
   cases hb:ilt (Ab b (ofNat (m+1))) 0 with
   | true =>
    obtain ⟨e1,e2⟩:=Wu h0 hm hb
    have hr:∀ L,(AZ [(0,M7 (m+1) f b)] 0 (FW L) (LH (m+1) f b)).sem = some (KL (m+1) f b (ofNat (DP (m+1) b)) (m+1) (BQ (λi=>eV (f ((DP (m+1) b+i) % (m+1)))) (m+1))):=λL=>by
     show (A8 (FW L) (M7 (m+1) f b) (m+2) (LH (m+1) f b)).sem = _
     rw [Xf (m+1) f b (λi=>eV (f ((DP (m+1) b+i) % (m+1)))),e1]
     exact Yv L (m+1) f b _ e2 h8 (m+1) 0 _ (m+2) (by omega) (by omega)
    exact ⟨_,AT Gl tb0 [(0,M7 (m+1) f b)],_,hA,rfl,hx.1,hx.2,A6 (Az hL hL) _ (Aha _ _ (m+1) f b _ _ hz hb (Am (hr _))),fin _ rfl⟩
   | false =>
    obtain ⟨e1,e2⟩:=Wt h0 hb
    have hr:∀ L,(AZ [(0,M7 (m+1) f b)] 0 (FW L) (LG (m+1) f b)).sem = some (KL (m+1) f b (ofNat (DP (m+1) b)) (m+1) (BQ (λi=>eV (f ((DP (m+1) b+i) % (m+1)))) (m+1))):=λL=>by
     show (A8 (FW L) (M7 (m+1) f b) (m+2) (LG (m+1) f b)).sem = _
     rw [Xe (m+1) f b (λi=>eV (f ((DP (m+1) b+i) % (m+1)))),e1]
     exact Yv L (m+1) f b _ e2 h8 (m+1) 0 _ (m+2) (by omega) (by omega)
    exact ⟨_,AT Gl tb0 [(0,M7 (m+1) f b)],_,hA,rfl,hx.1,hx.2,A6 (Az hL hL) _ (AgZ _ _ (m+1) f b _ _ hz hb (Am (hr _))),fin _ rfl⟩
 ·cases h
end Go.Proofs.Ytjhnfomefcngfaa.Ed
