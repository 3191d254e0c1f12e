/-
  The least turned list of edges; a list turned. No conditions.
-/
import Derived.Test.YtjhnfomefcngfaaCyT
namespace Go.Proofs.Ytjhnfomefcngfaa.Ed
open Go.Sy
open Int (ofNat)
theorem AcJ {i n:Nat} (h:i < n):ieq (ofNat n) 0 = false:=by rw [show (0:Int) = ofNat 0 from rfl,Dx,decide_eq_false (by omega)]
def DZ (n:Nat) (h:Nat->Int) (p i:Nat):Int:=h ((p+i) % n)
def JD (n:Nat) (h:Nat->Int) (p q:Nat):Prop:=∃ s,s < n ∧ (∀ t,t < s->DZ n h p t = DZ n h q t) ∧ DZ n h p s < DZ n h q s
def Es (n:Nat) (h:Nat->Int) (p:Nat):Prop:=p < n ∧ ∀ q,q < n->¬ JD n h q p
theorem F3 {n:Nat} {h:Nat->Int} {p:Nat}:¬ JD n h p p:=by
 rintro ⟨s,_,_,h3⟩
 omega
theorem Mq {n:Nat} {h:Nat->Int} {a b c:Nat} (h1:JD n h a b) (h2:JD n h b c):JD n h a c:=by
 obtain ⟨s,s1,s2,s3⟩:=h1
 obtain ⟨r,r1,r2,r3⟩:=h2
 rcases Nat.lt_trichotomy s r with e | e | e
 ·exact ⟨s,s1,λt ht=>(s2 t ht).trans (r2 t (by omega)),by rw [<- r2 s e]; exact s3⟩
 ·subst e
  exact ⟨s,s1,λt ht=>(s2 t ht).trans (r2 t ht),by omega⟩
 ·exact ⟨r,r1,λt ht=>(s2 t (by omega)).trans (r2 t ht),by rw [s2 r e]; exact r3⟩
theorem Mr (n:Nat) (h:Nat->Int) (p q:Nat):∀ m,m <= n->(∃ s,s < m ∧ (∀ t,t < s->DZ n h p t = DZ n h q t) ∧ DZ n h p s ≠ DZ n h q s) ∨ ∀ t,t < m->DZ n h p t = DZ n h q t
 | 0,_=>.inr λt ht=>absurd ht (Nat.not_lt_zero t)
 | m+1,hm=>by
  rcases Mr n h p q m (by omega) with ⟨s,h1,h2,h3⟩ | h1
  ·exact .inl ⟨s,by omega,h2,h3⟩
  ·by_cases e:DZ n h p m = DZ n h q m
   ·refine .inr λt ht=>?_
    by_cases et:t = m
    ·rw [et]; exact e
    ·exact h1 t (by omega)
   ·exact .inl ⟨m,by omega,h1,e⟩
theorem SJ {n:Nat} {h:Nat->Int} {p q:Nat} (hp:Es n h p) (hq:Es n h q):∀ t,t < n->DZ n h p t = DZ n h q t:=by
 rcases Mr n h p q n (Nat.le_refl n) with ⟨s,h1,h2,h3⟩ | h1
 ·rcases Int.lt_or_gt_of_ne h3 with e | e
  ·exact absurd ⟨s,h1,h2,e⟩ (hq.2 p hp.1)
  ·exact absurd ⟨s,h1,λt ht=>(h2 t ht).symm,e⟩ (hp.2 q hq.1)
 ·exact h1
theorem Oi (n:Nat) (h:Nat->Int):∀ m,0 < m->∃ p,p < m ∧ ∀ q,q < m->¬ JD n h q p
 | 0,hm=>absurd hm (Nat.lt_irrefl 0)
 | 1,_=>⟨0,by omega,λq hq=>by
   have:q = 0:=by omega
   subst this
   exact F3⟩
 | m+2,_=>by
  obtain ⟨p,h1,h2⟩:=Oi n h (m+1) (by omega)
  by_cases e:JD n h (m+1) p
  ·refine ⟨m+1,by omega,λq hq hl=>?_⟩
   by_cases eq:q = m+1
   ·subst eq; exact F3 hl
   ·exact h2 q (by omega) (Mq hl e)
  ·refine ⟨p,by omega,λq hq hl=>?_⟩
   by_cases eq:q = m+1
   ·subst eq; exact e hl
   ·exact h2 q (by omega) hl
theorem Q2 (n:Nat) (h:Nat->Int) (a u:Nat):DZ n h (a % n) u = h ((a+u) % n):=by
 unfold DZ
 rw [Nat.mod_add_mod]
theorem RT {n:Nat} {h:Nat->Int} {i j s:Nat} (hs:s < n) (h1:∀ t,t < s->h ((i+t) % n) = h ((j+t) % n)) (h2:h ((j+s) % n) < h ((i+s) % n)):∀ p,i <= p->p <= i+s->¬ Es n h p:=by
 intro p hp1 hp2 hm
 obtain ⟨hpn,hm⟩:=hm
 refine hm ((j+(p - i)) % n) (Nat.mod_lt _ (by omega)) ⟨s - (p - i),by omega,λt ht=>?_,?_⟩
 ·rw [Q2]
  unfold DZ
  have:=h1 (p - i+t) (by omega)
  rw [show i+(p - i+t) = p+t by omega,show j+(p - i+t) = j+(p - i)+t by omega] at this
  exact this.symm
 ·rw [Q2]
  unfold DZ
  rw [show j+(p - i)+(s - (p - i)) = j+s by omega,show p+(s - (p - i)) = i+s by omega]
  exact h2
theorem N3 {n:Nat} {h:Nat->Int} {lo hi:Nat} (hlt:lo < hi) (h1:∀ u,u < n->h ((hi+u) % n) = h ((lo+u) % n)) (hno:∀ p,p < n->p < hi->p ≠ lo->¬ Es n h p):∀ m p,p <= m->Es n h p->Es n h lo:=by
 intro m
 induction m with
 | zero =>
  intro p hp hm
  by_cases e:p = lo
  ·rw [<- e]; exact hm
  ·exact absurd hm (hno p hm.1 (by omega) e)
 | succ m ih =>
  intro p hp hm
  by_cases e:p = lo
  ·rw [<- e]; exact hm
  ·by_cases hph:p < hi
   ·exact absurd hm (hno p hm.1 hph e)
   ·have hpn:=hm.1
    have hr:∀ u,u < n->DZ n h p u = DZ n h (p - (hi - lo)) u:=λu _=>by
     unfold DZ
     have:=h1 ((p - hi+u) % n) (Nat.mod_lt _ (by omega))
     rw [Nat.add_mod_mod,Nat.add_mod_mod,show hi+(p - hi+u) = p+u by omega,show lo+(p - hi+u) = p - (hi - lo)+u by omega] at this
     exact this
    refine ih (p - (hi - lo)) (by omega) ⟨by omega,λq hq hl=>?_⟩
    obtain ⟨s,s1,s2,s3⟩:=hl
    exact hm.2 q hq ⟨s,s1,λt ht=>(s2 t ht).trans (hr t (by omega)).symm,by rw [hr s s1]; exact s3⟩
theorem U5 (n:Nat) (h:Nat->Int) (hn:0 < n):∀ q i t s,i ≠ t->min i t < n->i <= 2 * n->t <= 2 * n+1->s <= n->(∀ u,u < s->h ((i+u) % n) = h ((t+u) % n)) ->
  (∀ p,p < n->p < max i t->p ≠ min i t->¬ Es n h p)->3 * n+1 - (i+t+s) < q->Es n h (E3 n h q i t s):=by
 intro q
 obtain ⟨p0,hp0⟩:∃ p,Es n h p:=by
  obtain ⟨p,h1,h2⟩:=Oi n h n hn
  exact ⟨p,h1,h2⟩
 have hp0n:=hp0.1
 induction q with
 | zero=>intro i t s _ _ _ _ _ _ _ hq; exact absurd hq (Nat.not_lt_zero _)
 | succ q ih =>
  intro i t s hne hmin hi ht hs heq hno hq
  unfold E3
  split
  ·rename_i hx
   have hmin0:∀ lo,lo = min i t->Es n h lo->Es n h (min (min i t) (n - 1)):=λlo hlo hm=>by
    rw [show min (min i t) (n - 1) = lo by omega]; exact hm
   by_cases c:n <= i ∨ n <= t
   ·refine hmin0 (min i t) rfl ?_
    by_cases e:p0 = min i t
    ·rw [<- e]; exact hp0
    ·exact absurd hp0 (hno p0 hp0n (by omega) e)
   ·refine hmin0 (min i t) rfl ?_
    have hsn:s = n:=by omega
    subst hsn
    by_cases c2:i < t
    ·rw [show min i t = i by omega]
     exact N3 c2 (λu hu=>(heq u hu).symm) (λp hp h1 h2=>hno p hp (by omega) (by omega)) p0 p0 (Nat.le_refl _) hp0
    ·rw [show min i t = t by omega]
     exact N3 (show t < i by omega) (λu hu=>heq u hu) (λp hp h1 h2=>hno p hp (by omega) (by omega)) p0 p0 (Nat.le_refl _) hp0
  ·rename_i hx
   split
   ·rename_i he
    refine ih i t (s+1) hne hmin hi ht (by omega) (λu hu=>?_) hno (by omega)
    by_cases eu:u = s
    ·rw [eu]; exact he
    ·exact heq u (by omega)
   ·rename_i he
    split
    ·rename_i hg
     have hsk:=RT (by omega) heq hg
     split
     ·rename_i e
      exact ih (i+s+1) (t+1) 0 (by omega) (by omega) (by omega) (by omega) (by omega) (λu hu=>absurd hu (Nat.not_lt_zero u)) (λp hp h1 h2=>by
       by_cases hr:i <= p ∧ p <= i+s
       ·exact hsk p hr.1 hr.2
       ·exact hno p hp (by omega) (by omega)) (by omega)
     ·rename_i e
      exact ih (i+s+1) t 0 (by omega) (by omega) (by omega) (by omega) (by omega) (λu hu=>absurd hu (Nat.not_lt_zero u)) (λp hp h1 h2=>by
       by_cases hr:i <= p ∧ p <= i+s
       ·exact hsk p hr.1 hr.2
       ·exact hno p hp (by omega) (by omega)) (by omega)
    ·rename_i hg
     have hg2:h ((i+s) % n) < h ((t+s) % n):=by omega
     have hsk:=RT (by omega) (λu hu=>(heq u hu).symm) hg2
     split
     ·rename_i e
      exact ih i (t+s+2) 0 (by omega) (by omega) (by omega) (by omega) (by omega) (λu hu=>absurd hu (Nat.not_lt_zero u)) (λp hp h1 h2=>by
       by_cases hr:t <= p ∧ p <= t+s
       ·exact hsk p hr.1 hr.2
       ·exact hno p hp (by omega) (by omega)) (by omega)
     ·rename_i e
      exact ih i (t+s+1) 0 (by omega) (by omega) (by omega) (by omega) (by omega) (λu hu=>absurd hu (Nat.not_lt_zero u)) (λp hp h1 h2=>by
       by_cases hr:t <= p ∧ p <= t+s
       ·exact hsk p hr.1 hr.2
       ·exact hno p hp (by omega) (by omega)) (by omega)
theorem JP (n:Nat) (h:Nat->Int) (hn:0 < n):Es n h (BX n h) :=
 U5 n h hn _ 0 1 0 (by omega) (by omega) (by omega) (by omega) (by omega) (λu hu=>absurd hu (Nat.not_lt_zero u)) (λp _ h1 h2=>by omega) (by omega)
theorem QM {n:Nat} {h g:Nat->Int} {k:Nat} (hn:0 < n) (hg:∀ i,i < n->g i = h ((k+i) % n)):∀ i,i < n->DZ n g (BX n g) i = DZ n h (BX n h) i:=by
 have hr:∀ p u,DZ n g p u = DZ n h ((k+p) % n) u:=λp u=>by
  rw [Q2]
  unfold DZ
  rw [hg _ (Nat.mod_lt _ hn),Nat.add_mod_mod,Nat.add_assoc]
 have hm:=JP n g hn
 have hm2:Es n h ((k+BX n g) % n):=by
  refine ⟨Nat.mod_lt _ hn,λq hq hl=>?_⟩
  have e:(k+(q+(n - k % n)) % n) % n = q:=by
   rw [Nat.add_mod_mod,<- Nat.mod_add_mod,show k % n+(q+(n - k % n)) = q+n by have:=Nat.mod_lt k hn; omega,Nat.add_mod_right,Nat.mod_eq_of_lt hq]
  refine hm.2 ((q+(n - k % n)) % n) (Nat.mod_lt _ hn) ?_
  obtain ⟨s,s1,s2,s3⟩:=hl
  refine ⟨s,s1,λt ht=>?_,?_⟩
  ·rw [hr,hr,e]; exact s2 t ht
  ·rw [hr,hr,e]; exact s3
 intro i hi
 rw [hr]
 exact SJ hm2 (JP n h hn) i hi
def DN (n:Nat) (b:Int):Nat:=toN (sel (ilt (Ab b (ofNat n)) 0) (Ab b (ofNat n)+ofNat n) (Ab b (ofNat n)))
def J9 (n:Nat) (f:Nat->E6) (b:Int) (i:Nat):E6:=f ((DN n b+i) % n)
theorem LR (b:Int) {n:Nat} (h:0 < n):-(n:Int) < Ab b (ofNat n) ∧ Ab b (ofNat n) < (n:Int):=by
 unfold Ab
 have h1:(0:Int) < ofNat n:=by simp only [Int.ofNat_eq_natCast]; omega
 exact ⟨Int.lt_tmod_of_pos b h1,Int.tmod_lt_of_pos b h1⟩
theorem W4 {b:Int} {n:Nat} (h:0 < n) (hn:n <= 4611686018427387904) (hb:ilt (Ab b (ofNat n)) 0 = true):wr .i64 (Ae (Ab b (ofNat n)) (ofNat n)) = ofNat (DN n b) ∧ DN n b < n:=by
 obtain ⟨h1,h2⟩:=LR b h
 have h3:Ab b (ofNat n) < 0:=by simpa [ilt] using hb
 have h4:DN n b = (Ab b (ofNat n)+(n:Int)).toNat:=by unfold DN; rw [hb]; rfl
 rw [h4]
 generalize Ab b (ofNat n) = r at h1 h2 h3 ⊢
 refine ⟨?_,by omega⟩
 unfold wr Ae IntKind.wrap
 simp [IntKind.bits,IntKind.signed]
 omega
theorem W3 {b:Int} {n:Nat} (h:0 < n) (hb:ilt (Ab b (ofNat n)) 0 = false):Ab b (ofNat n) = ofNat (DN n b) ∧ DN n b < n:=by
 obtain ⟨h1,h2⟩:=LR b h
 have h3:¬ Ab b (ofNat n) < 0:=by simpa [ilt] using hb
 have h4:DN n b = (Ab b (ofNat n)).toNat:=by unfold DN; rw [hb]; rfl
 rw [h4]
 generalize Ab b (ofNat n) = r at h1 h2 h3 ⊢
 refine ⟨?_,by omega⟩
 simp only [Int.ofNat_eq_natCast]
 omega
theorem W5 {n k:Nat} (h:k < n):DN n (ofNat k) = k:=by
 unfold DN
 rw [C5,Nat.mod_eq_of_lt h]
 have:ilt (ofNat k) 0 = false:=by simp [ilt]
 rw [this]
 rfl
def M5 (n:Nat) (f:Nat->E6) (b:Int):Lp:=⟨(bmK 39 0 [0,5,6,7,8]),2,bmK 39 0 [5],2,n+1⟩
def Yg (n:Nat) (f:Nat->E6) (b:Int) (k:Int) (i:Nat) (x:Nat->V) (j:Nat->V):St:=⟨(jsV 39 0 j [(0,.sl 6 n (λi=>eV (f i))),(5,.ref 1),(6,nV n),(7,iV k),(8,nV i)]),[.row 44 6 0 (λ_=>.und),.row 44 6 i x]⟩
def KK (n:Nat) (f:Nat->E6) (b:Int) (k:Int) (i:Nat) (x:Nat->V):Ex × St:=(.ex 0,⟨(jsV 39 0 (λ_=>.und) [(5,.ref 1)]),[.row 44 6 0 (λ_=>.und),.row 44 6 i x]⟩)
noncomputable def FZ (L:LT):St->T (Ex × St):=λst=>AF tab ⟨Ap tb0,L,Gl⟩ (A1 Try.f21 0) 0 st
section
variable (L:LT) (n:Nat) (f:Nat->E6) (b:Int) (k:Int) (i:Nat) (x:Nat->V)  (j:Nat->V)
include L n f b k i x j
theorem AiP (h0:ilt (ofNat i) (ofNat n) = false):Ai (FZ L) (M5 n f b) (Yg n f b k i x j) = some ((.ex 0),⟨(jsV 39 0 (λ_=>.und) [(5,(.ref 1))]),[.row 44 6 0 (λ_=>.und),.row 44 6 i x]⟩):=Aa [false] [ilt (ofNat i) (ofNat n)] (by kernel_rfl) (by simp only [h0] <;> rfl)
theorem AiO (h0:ilt (ofNat i) (ofNat n) = true) (h1:ieq (ofNat n) 0 = false) (h2:Af (ile 0 (Ab (wr .i64 (Ae k (ofNat i))) (ofNat n))) (ilt (Ab (wr .i64 (Ae k (ofNat i))) (ofNat n)) (ofNat n)) = true) (h3:Bg i 1 40 = true):Ai (FZ L) (M5 n f b) (Yg n f b k i x j) = some (.nm,⟨(jsV 39 0 (λ_=>.und) [(0,(.sl 6 n (λi=>eV (f i)))),(5,(.ref 1)),(6,(nV n)),(7,(iV k)),(8,(iV (wr .i64 (Ae (ofNat i) 1))))]),[.row 44 6 0 (λ_=>.und),.row 44 6 (Bn i 1) (AE i x (eV (f (toN (Ab (wr .i64 (Ae k (ofNat i))) (ofNat n))))))]⟩):=Aa [true,false,true,true] [ilt (ofNat i) (ofNat n),ieq (ofNat n) 0,Af (ile 0 (Ab (wr .i64 (Ae k (ofNat i))) (ofNat n))) (ilt (Ab (wr .i64 (Ae k (ofNat i))) (ofNat n)) (ofNat n)),Bg i 1 40] (by kernel_rfl) (by simp only [h2] <;> simp only [*] <;> rfl)
end
theorem Ahp (L:LT) (n:Nat) (f:Nat->E6) (b:Int) (h0:ieq (ofNat n) 0 = true):(Az (Ak tab ⟨Ap tb0,L,Gl⟩ Try.f21 [A4 n f,iV b] [])).sem = some ((.ref 0),[.row 44 6 0 (λ_=>.und)]):=Aa [true] [ieq (ofNat n) 0] (by kernel_rfl) (by simp only [h0] <;> rfl)
def LC (n:Nat) (f:Nat->E6) (b:Int) :St:=⟨(jsV 39 0 (λ_=>AA) [(0,(.sl 6 n (λi=>eV (f i)))),(1,(iV b)),(4,(.ref 0)),(5,(.ref 1)),(6,(nV n)),(7,(iV (wr .i64 (Ae (Ab b (ofNat n)) (ofNat n))))),(8,(iV 0)),(9,(.sl 6 n (λi=>eV (f i)))),(10,(nV n)),(11,(nV n)),(12,(bV (ieq (ofNat n) 0))),(14,(iV b)),(15,(nV n)),(16,(iV (Ab b (ofNat n)))),(17,(iV (Ab b (ofNat n)))),(18,(bV (ilt (Ab b (ofNat n)) 0))),(19,(iV (Ab b (ofNat n)))),(20,(nV n)),(21,(iV (wr .i64 (Ae (Ab b (ofNat n)) (ofNat n)))))]),[.row 44 6 0 (λ_=>.und),.row 44 6 0 (λ_=>.und)]⟩
def LB (n:Nat) (f:Nat->E6) (b:Int) :St:=⟨(jsV 39 0 (λ_=>AA) [(0,(.sl 6 n (λi=>eV (f i)))),(1,(iV b)),(4,(.ref 0)),(5,(.ref 1)),(6,(nV n)),(7,(iV (Ab b (ofNat n)))),(8,(iV 0)),(9,(.sl 6 n (λi=>eV (f i)))),(10,(nV n)),(11,(nV n)),(12,(bV (ieq (ofNat n) 0))),(14,(iV b)),(15,(nV n)),(16,(iV (Ab b (ofNat n)))),(17,(iV (Ab b (ofNat n)))),(18,(bV (ilt (Ab b (ofNat n)) 0)))]),[.row 44 6 0 (λ_=>.und),.row 44 6 0 (λ_=>.und)]⟩
section
variable (L:LT) (p0:PT) (n:Nat) (f:Nat->E6) (b:Int) (k:Int) (x:Nat->V)
include L p0 n f b k x
theorem Ahr (h0:ieq (ofNat n) 0 = false) (h1:ilt (Ab b (ofNat n)) 0 = true) (hp0:p0 (FZ (onP 0 p0 (KK n f b k n x) L)) (LC n f b) = true):(Az (Ak tab ⟨Ap tb0,onP 0 p0 (KK n f b k n x) L,Gl⟩ Try.f21 [A4 n f,iV b] [])).sem = some ((.ref 0),[.row 44 6 n x]):=Aa [false,false,true,true] [ieq (ofNat n) 0,ieq (ofNat n) 0,ilt (Ab b (ofNat n)) 0,p0 (FZ (onP 0 p0 (KK n f b k n x) L)) (LC n f b)] (by kernel_rfl) (by simp only [hp0] <;> simp only [h0,h1] <;> rfl)
theorem Ahq (h0:ieq (ofNat n) 0 = false) (h1:ilt (Ab b (ofNat n)) 0 = false) (hp0:p0 (FZ (onP 0 p0 (KK n f b k n x) L)) (LB n f b) = true):(Az (Ak tab ⟨Ap tb0,onP 0 p0 (KK n f b k n x) L,Gl⟩ Try.f21 [A4 n f,iV b] [])).sem = some ((.ref 0),[.row 44 6 n x]):=Aa [false,false,false,true] [ieq (ofNat n) 0,ieq (ofNat n) 0,ilt (Ab b (ofNat n)) 0,p0 (FZ (onP 0 p0 (KK n f b k n x) L)) (LB n f b)] (by kernel_rfl) (by simp only [hp0] <;> simp only [h0,h1] <;> rfl)
end
theorem Yw (L:LT) (n:Nat) (f:Nat->E6) (b:Int) (K:Nat) (hK:K < n) (h8:n * 40 <= 140737488355328):∀ (d i:Nat) (j:Nat->V) (q:Nat),n = i+d->d < q ->
  (A9 (FZ L) (M5 n f b) q (Yg n f b (ofNat K) i (BP (λi=>eV (f ((K+i) % n))) i) j)).sem = some (KK n f b (ofNat K) n (BP (λi=>eV (f ((K+i) % n))) n))
 | 0,i,j,q+1,h,_=>by
  have:n = i:=by omega
  subst this
  exact Ad (AiP L n f b (ofNat K) n (BP (λi=>eV (f ((K+i) % n))) n) j (AD (Nat.le_refl _)))
 | d+1,i,j,q+1,h,h2=>by
  have hl:i < n:=by omega
  have h9:(i+1) * 40 <= 140737488355328:=Nat.le_trans (Nat.mul_le_mul_right 40 hl) h8
  have ha:Bg i 1 40 = true:=decide_eq_true h9
  have e1:Ab (wr .i64 (Ae (ofNat K) (ofNat i))) (ofNat n) = ofNat ((K+i) % n):=by rw [DF (by omega),C5]
  have hb:Af (ile 0 (Ab (wr .i64 (Ae (ofNat K) (ofNat i))) (ofNat n))) (ilt (Ab (wr .i64 (Ae (ofNat K) (ofNat i))) (ofNat n)) (ofNat n)) = true:=by
   rw [e1]; exact Aq (Nat.mod_lt _ (by omega))
  rw [Ad (AiO L n f b (ofNat K) i (BP (λi=>eV (f ((K+i) % n))) i) j (ofNat_lt hl) (AcJ hl) hb ha),Ax,Ao hl (by omega),e1,show toN (ofNat ((K+i) % n)) = (K+i) % n from rfl]
  exact Yw L n f b K hK h8 d (i+1) (λ_=>.und) q (by omega) (by omega)
def M7:List V->T (V × List Blk)
 | [v,.val (.int .i64 b)]=>apL v λn f=>.br (AN n) (.leaf (.ref 0,[.row 44 6 n λi=>eV (J9 n f b i)])) .fail
 | _=>.fail
theorem Xo (n:Nat) (f:Nat->E6) (b:Int) (g:Nat->V):LC n f b = Yg n f b (wr .i64 (Ae (Ab b (ofNat n)) (ofNat n))) 0 (BP g 0) (λi=>nth (LC n f b).t i):=by kernel_rfl
theorem Xn (n:Nat) (f:Nat->E6) (b:Int) (g:Nat->V):LB n f b = Yg n f b (Ab b (ofNat n)) 0 (BP g 0) (λi=>nth (LB n f b).t i):=by kernel_rfl
theorem p69:A6 Try.prog Gl 21 M7:=by
 refine A5 AO AP Try.func21 (by kernel_rfl) (by kernel_rfl) λvs v h' h=>?_
 unfold M7 at h
 split at h
 ·rename_i u b
  obtain ⟨n,f,ha,h1⟩:=Cj h
  obtain ⟨hn,hq⟩:=Ag h1
  have:=Ac hq
  simp only [Prod.mk.injEq] at this
  obtain ⟨rfl,rfl⟩:=this
  have h8:n * 40 <= 140737488355328:=of_decide_eq_true hn
  have hA:BJ [u,.val (.int .i64 b)] [A4 n f,iV b]:=λS w cs hv=>by
   obtain ⟨c,l,rfl,q1,q2⟩:=hv
   exact ⟨c,l,rfl,ha S w c q1,q2⟩
  have hx:=AQ Dd [(0,M5 n f b)]
  have hL:=AL [(0,M5 n f b)]
  cases n with
  | zero=>exact ⟨_,AS Gl tb0 [(0,M5 0 f b)],_,hA,rfl,hx.1,hx.2,Ahp _ 0 f b rfl,AC.one λj hj=>absurd hj (Nat.not_lt_zero _)⟩
  | succ m =>
   have hm:m+1 <= 4611686018427387904:=by omega
   have h0:0 < m+1:=Nat.succ_pos m
   have hz:ieq (ofNat (m+1)) 0 = false:=AcJ h0
   have fin:∀ K,K = DN (m+1) b->AC [Blk.row 44 6 (m+1) (BP (λi=>eV (f ((K+i) % (m+1)))) (m+1))] [Blk.row 44 6 (m+1) λi=>eV (J9 (m+1) f b i)]:=λK hK=>AC.one λj hj=>by
    rw [I0 _ _ j hj,hK]
    rfl
   cases hb:ilt (Ab b (ofNat (m+1))) 0 with
   | true =>
    obtain ⟨e1,e2⟩:=W4 h0 hm hb
    have hr:∀ L,(Bb [(0,M5 (m+1) f b)] 0 (FZ L) (LC (m+1) f b)).sem = some (KK (m+1) f b (ofNat (DN (m+1) b)) (m+1) (BP (λi=>eV (f ((DN (m+1) b+i) % (m+1)))) (m+1))):=λL=>by
     show (A9 (FZ L) (M5 (m+1) f b) (m+2) (LC (m+1) f b)).sem = _
     rw [Xo (m+1) f b (λi=>eV (f ((DN (m+1) b+i) % (m+1)))),e1]
     exact Yw L (m+1) f b _ e2 h8 (m+1) 0 _ (m+2) (by omega) (by omega)
    exact ⟨_,AS Gl tb0 [(0,M5 (m+1) f b)],_,hA,rfl,hx.1,hx.2,A7 (Ay hL hL) _ (Ahr _ _ (m+1) f b _ _ hz hb (Am (hr _))),fin _ rfl⟩
   | false =>
    obtain ⟨e1,e2⟩:=W3 h0 hb
    have hr:∀ L,(Bb [(0,M5 (m+1) f b)] 0 (FZ L) (LB (m+1) f b)).sem = some (KK (m+1) f b (ofNat (DN (m+1) b)) (m+1) (BP (λi=>eV (f ((DN (m+1) b+i) % (m+1)))) (m+1))):=λL=>by
     show (A9 (FZ L) (M5 (m+1) f b) (m+2) (LB (m+1) f b)).sem = _
     rw [Xn (m+1) f b (λi=>eV (f ((DN (m+1) b+i) % (m+1)))),e1]
     exact Yw L (m+1) f b _ e2 h8 (m+1) 0 _ (m+2) (by omega) (by omega)
    exact ⟨_,AS Gl tb0 [(0,M5 (m+1) f b)],_,hA,rfl,hx.1,hx.2,A7 (Ay hL hL) _ (Ahq _ _ (m+1) f b _ _ hz hb (Am (hr _))),fin _ rfl⟩
 ·cases h
end Go.Proofs.Ytjhnfomefcngfaa.Ed
