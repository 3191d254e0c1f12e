/-
  The least turned list of edges; a list turned. No conditions.
-/
import Derived.Test.YthlojajaenfidaaGreatDoorCyT
namespace Go.Proofs.YthlojajaenfidaaGreatDoor.Ed
open Go.Sy
open Int (ofNat)
theorem AeA {i n:Nat} (h:i < n):ieq (ofNat n) 0 = false:=by rw [show (0:Int) = ofNat 0 from rfl,Df,decide_eq_false (by omega)]
def DE (n:Nat) (h:Nat->Int) (p i:Nat):Int:=h ((p+i) % n)
def Jq (n:Nat) (h:Nat->Int) (p q:Nat):Prop:=∃ s,s < n ∧ (∀ t,t < s->DE n h p t = DE n h q t) ∧ DE n h p s < DE n h q s
def DV (n:Nat) (h:Nat->Int) (p:Nat):Prop:=p < n ∧ ∀ q,q < n->¬ Jq n h q p
theorem Fe {n:Nat} {h:Nat->Int} {p:Nat}:¬ Jq n h p p:=by
 rintro ⟨s,_,_,h3⟩
 omega
theorem Mz {n:Nat} {h:Nat->Int} {a b c:Nat} (h1:Jq n h a b) (h2:Jq n h b c):Jq n h a c:=by
 obtain ⟨s,s1,s2,s3⟩:=h1
 obtain ⟨r,r1,r2,r3⟩:=h2
 rcases Nat.lt_trichotomy s r with e | e | e
 ·exact ⟨s,s1,λt ht=>(s2 t ht).trans (r2 t (by omega)),by rw [<- r2 s e]; exact s3⟩
 ·subst e
  exact ⟨s,s1,λt ht=>(s2 t ht).trans (r2 t ht),by omega⟩
 ·exact ⟨r,r1,λt ht=>(s2 t (by omega)).trans (r2 t ht),by rw [s2 r e]; exact r3⟩
theorem M0 (n:Nat) (h:Nat->Int) (p q:Nat):∀ m,m <= n->(∃ s,s < m ∧ (∀ t,t < s->DE n h p t = DE n h q t) ∧ DE n h p s ≠ DE n h q s) ∨ ∀ t,t < m->DE n h p t = DE n h q t
 | 0,_=>.inr λt ht=>absurd ht (Nat.not_lt_zero t)
 | m+1,hm=>by
  rcases M0 n h p q m (by omega) with ⟨s,h1,h2,h3⟩ | h1
  ·exact .inl ⟨s,by omega,h2,h3⟩
  ·by_cases e:DE n h p m = DE n h q m
   ·refine .inr λt ht=>?_
    by_cases et:t = m
    ·rw [et]; exact e
    ·exact h1 t (by omega)
   ·exact .inl ⟨m,by omega,h1,e⟩
theorem SY {n:Nat} {h:Nat->Int} {p q:Nat} (hp:DV n h p) (hq:DV n h q):∀ t,t < n->DE n h p t = DE n h q t:=by
 rcases M0 n h p q n (Nat.le_refl n) with ⟨s,h1,h2,h3⟩ | h1
 ·rcases Int.lt_or_gt_of_ne h3 with e | e
  ·exact absurd ⟨s,h1,h2,e⟩ (hq.2 p hp.1)
  ·exact absurd ⟨s,h1,λt ht=>(h2 t ht).symm,e⟩ (hp.2 q hq.1)
 ·exact h1
theorem Ot (n:Nat) (h:Nat->Int):∀ m,0 < m->∃ p,p < m ∧ ∀ q,q < m->¬ Jq n h q p
 | 0,hm=>absurd hm (Nat.lt_irrefl 0)
 | 1,_=>⟨0,by omega,λq hq=>by
   have:q = 0:=by omega
   subst this
   exact Fe⟩
 | m+2,_=>by
  obtain ⟨p,h1,h2⟩:=Ot n h (m+1) (by omega)
  by_cases e:Jq n h (m+1) p
  ·refine ⟨m+1,by omega,λq hq hl=>?_⟩
   by_cases eq:q = m+1
   ·subst eq; exact Fe hl
   ·exact h2 q (by omega) (Mz hl e)
  ·refine ⟨p,by omega,λq hq hl=>?_⟩
   by_cases eq:q = m+1
   ·subst eq; exact e hl
   ·exact h2 q (by omega) hl
theorem QN (n:Nat) (h:Nat->Int) (a u:Nat):DE n h (a % n) u = h ((a+u) % n):=by
 unfold DE
 rw [Nat.mod_add_mod]
theorem So {n:Nat} {h:Nat->Int} {i j s:Nat} (hs:s < n) (h1:∀ t,t < s->h ((i+t) % n) = h ((j+t) % n)) (h2:h ((j+s) % n) < h ((i+s) % n)):∀ p,i <= p->p <= i+s->¬ DV n h p:=by
 intro p hp1 hp2 hm
 obtain ⟨hpn,hm⟩:=hm
 refine hm ((j+(p - i)) % n) (Nat.mod_lt _ (by omega)) ⟨s - (p - i),by omega,λt ht=>?_,?_⟩
 ·rw [QN]
  unfold DE
  have:=h1 (p - i+t) (by omega)
  rw [show i+(p - i+t) = p+t by omega,show j+(p - i+t) = j+(p - i)+t by omega] at this
  exact this.symm
 ·rw [QN]
  unfold DE
  rw [show j+(p - i)+(s - (p - i)) = j+s by omega,show p+(s - (p - i)) = i+s by omega]
  exact h2
theorem NC {n:Nat} {h:Nat->Int} {lo hi:Nat} (hlt:lo < hi) (h1:∀ u,u < n->h ((hi+u) % n) = h ((lo+u) % n)) (hno:∀ p,p < n->p < hi->p ≠ lo->¬ DV n h p):∀ m p,p <= m->DV n h p->DV n h lo:=by
 intro m
 induction m with
 | zero =>
  intro p hp hm
  by_cases e:p = lo
  ·rw [<- e]; exact hm
  ·exact absurd hm (hno p hm.1 (by omega) e)
 | succ m ih =>
  intro p hp hm
  by_cases e:p = lo
  ·rw [<- e]; exact hm
  ·by_cases hph:p < hi
   ·exact absurd hm (hno p hm.1 hph e)
   ·have hpn:=hm.1
    have hr:∀ u,u < n->DE n h p u = DE n h (p - (hi - lo)) u:=λu _=>by
     unfold DE
     have:=h1 ((p - hi+u) % n) (Nat.mod_lt _ (by omega))
     rw [Nat.add_mod_mod,Nat.add_mod_mod,show hi+(p - hi+u) = p+u by omega,show lo+(p - hi+u) = p - (hi - lo)+u by omega] at this
     exact this
    refine ih (p - (hi - lo)) (by omega) ⟨by omega,λq hq hl=>?_⟩
    obtain ⟨s,s1,s2,s3⟩:=hl
    exact hm.2 q hq ⟨s,s1,λt ht=>(s2 t ht).trans (hr t (by omega)).symm,by rw [hr s s1]; exact s3⟩
theorem Vf (n:Nat) (h:Nat->Int) (hn:0 < n):∀ q i t s,i ≠ t->min i t < n->i <= 2 * n->t <= 2 * n+1->s <= n->(∀ u,u < s->h ((i+u) % n) = h ((t+u) % n)) ->
  (∀ p,p < n->p < max i t->p ≠ min i t->¬ DV n h p)->3 * n+1 - (i+t+s) < q->DV n h (Ec n h q i t s):=by
 intro q
 obtain ⟨p0,hp0⟩:∃ p,DV n h p:=by
  obtain ⟨p,h1,h2⟩:=Ot n h n hn
  exact ⟨p,h1,h2⟩
 have hp0n:=hp0.1
 induction q with
 | zero=>intro i t s _ _ _ _ _ _ _ hq; exact absurd hq (Nat.not_lt_zero _)
 | succ q ih =>
  intro i t s hne hmin hi ht hs heq hno hq
  unfold Ec
  split
  ·rename_i hx
   have hmin0:∀ lo,lo = min i t->DV n h lo->DV n h (min (min i t) (n - 1)):=λlo hlo hm=>by
    rw [show min (min i t) (n - 1) = lo by omega]; exact hm
   by_cases c:n <= i ∨ n <= t
   ·refine hmin0 (min i t) rfl ?_
    by_cases e:p0 = min i t
    ·rw [<- e]; exact hp0
    ·exact absurd hp0 (hno p0 hp0n (by omega) e)
   ·refine hmin0 (min i t) rfl ?_
    have hsn:s = n:=by omega
    subst hsn
    by_cases c2:i < t
    ·rw [show min i t = i by omega]
     exact NC c2 (λu hu=>(heq u hu).symm) (λp hp h1 h2=>hno p hp (by omega) (by omega)) p0 p0 (Nat.le_refl _) hp0
    ·rw [show min i t = t by omega]
     exact NC (show t < i by omega) (λu hu=>heq u hu) (λp hp h1 h2=>hno p hp (by omega) (by omega)) p0 p0 (Nat.le_refl _) hp0
  ·rename_i hx
   split
   ·rename_i he
    refine ih i t (s+1) hne hmin hi ht (by omega) (λu hu=>?_) hno (by omega)
    by_cases eu:u = s
    ·rw [eu]; exact he
    ·exact heq u (by omega)
   ·rename_i he
    split
    ·rename_i hg
     have hsk:=So (by omega) heq hg
     split
     ·rename_i e
      exact ih (i+s+1) (t+1) 0 (by omega) (by omega) (by omega) (by omega) (by omega) (λu hu=>absurd hu (Nat.not_lt_zero u)) (λp hp h1 h2=>by
       by_cases hr:i <= p ∧ p <= i+s
       ·exact hsk p hr.1 hr.2
       ·exact hno p hp (by omega) (by omega)) (by omega)
     ·rename_i e
      exact ih (i+s+1) t 0 (by omega) (by omega) (by omega) (by omega) (by omega) (λu hu=>absurd hu (Nat.not_lt_zero u)) (λp hp h1 h2=>by
       by_cases hr:i <= p ∧ p <= i+s
       ·exact hsk p hr.1 hr.2
       ·exact hno p hp (by omega) (by omega)) (by omega)
    ·rename_i hg
     have hg2:h ((i+s) % n) < h ((t+s) % n):=by omega
     have hsk:=So (by omega) (λu hu=>(heq u hu).symm) hg2
     split
     ·rename_i e
      exact ih i (t+s+2) 0 (by omega) (by omega) (by omega) (by omega) (by omega) (λu hu=>absurd hu (Nat.not_lt_zero u)) (λp hp h1 h2=>by
       by_cases hr:t <= p ∧ p <= t+s
       ·exact hsk p hr.1 hr.2
       ·exact hno p hp (by omega) (by omega)) (by omega)
     ·rename_i e
      exact ih i (t+s+1) 0 (by omega) (by omega) (by omega) (by omega) (by omega) (λu hu=>absurd hu (Nat.not_lt_zero u)) (λp hp h1 h2=>by
       by_cases hr:t <= p ∧ p <= t+s
       ·exact hsk p hr.1 hr.2
       ·exact hno p hp (by omega) (by omega)) (by omega)
theorem J8 (n:Nat) (h:Nat->Int) (hn:0 < n):DV n h (Co n h) :=
 Vf n h hn _ 0 1 0 (by omega) (by omega) (by omega) (by omega) (by omega) (λu hu=>absurd hu (Nat.not_lt_zero u)) (λp _ h1 h2=>by omega) (by omega)
theorem Rp {n:Nat} {h g:Nat->Int} {k:Nat} (hn:0 < n) (hg:∀ i,i < n->g i = h ((k+i) % n)):∀ i,i < n->DE n g (Co n g) i = DE n h (Co n h) i:=by
 have hr:∀ p u,DE n g p u = DE n h ((k+p) % n) u:=λp u=>by
  rw [QN]
  unfold DE
  rw [hg _ (Nat.mod_lt _ hn),Nat.add_mod_mod,Nat.add_assoc]
 have hm:=J8 n g hn
 have hm2:DV n h ((k+Co n g) % n):=by
  refine ⟨Nat.mod_lt _ hn,λq hq hl=>?_⟩
  have e:(k+(q+(n - k % n)) % n) % n = q:=by
   rw [Nat.add_mod_mod,<- Nat.mod_add_mod,show k % n+(q+(n - k % n)) = q+n by have:=Nat.mod_lt k hn; omega,Nat.add_mod_right,Nat.mod_eq_of_lt hq]
  refine hm.2 ((q+(n - k % n)) % n) (Nat.mod_lt _ hn) ?_
  obtain ⟨s,s1,s2,s3⟩:=hl
  refine ⟨s,s1,λt ht=>?_,?_⟩
  ·rw [hr,hr,e]; exact s2 t ht
  ·rw [hr,hr,e]; exact s3
 intro i hi
 rw [hr]
 exact SY hm2 (J8 n h hn) i hi
def Dj (n:Nat) (b:Int):Nat:=toN (sel (ilt (Ae b (ofNat n)) 0) (Ae b (ofNat n)+ofNat n) (Ae b (ofNat n)))
def D5 (n:Nat) (f:Nat->E6) (b:Int) (i:Nat):E6:=f ((Dj n b+i) % n)
theorem Mf (b:Int) {n:Nat} (h:0 < n):-(n:Int) < Ae b (ofNat n) ∧ Ae b (ofNat n) < (n:Int):=by
 unfold Ae
 have h1:(0:Int) < ofNat n:=by simp only [Int.ofNat_eq_natCast]; omega
 exact ⟨Int.lt_tmod_of_pos b h1,Int.tmod_lt_of_pos b h1⟩
theorem Pi {b:Int} {n:Nat} (h:0 < n) (hn:n <= 4611686018427387904) (hb:ilt (Ae b (ofNat n)) 0 = true):wr .i64 (Af (Ae b (ofNat n)) (ofNat n)) = ofNat (Dj n b) ∧ Dj n b < n:=by
 obtain ⟨h1,h2⟩:=Mf b h
 have h3:Ae b (ofNat n) < 0:=by simpa [ilt] using hb
 have h4:Dj n b = (Ae b (ofNat n)+(n:Int)).toNat:=by unfold Dj; rw [hb]; rfl
 rw [h4]
 generalize Ae b (ofNat n) = r at h1 h2 h3 ⊢
 refine ⟨?_,by omega⟩
 unfold wr Af IntKind.wrap
 simp [IntKind.bits,IntKind.signed]
 omega
theorem Ph {b:Int} {n:Nat} (h:0 < n) (hb:ilt (Ae b (ofNat n)) 0 = false):Ae b (ofNat n) = ofNat (Dj n b) ∧ Dj n b < n:=by
 obtain ⟨h1,h2⟩:=Mf b h
 have h3:¬ Ae b (ofNat n) < 0:=by simpa [ilt] using hb
 have h4:Dj n b = (Ae b (ofNat n)).toNat:=by unfold Dj; rw [hb]; rfl
 rw [h4]
 generalize Ae b (ofNat n) = r at h1 h2 h3 ⊢
 refine ⟨?_,by omega⟩
 simp only [Int.ofNat_eq_natCast]
 omega
theorem X1 {n k:Nat} (h:k < n):Dj n (ofNat k) = k:=by
 unfold Dj
 rw [Cu,Nat.mod_eq_of_lt h]
 have:ilt (ofNat k) 0 = false:=by simp [ilt]
 rw [this]
 rfl
def MA (n:Nat) (f:Nat->E6) (b:Int):Lp:=⟨(bmK 39 0 [0,5,6,7,8]),2,bmK 39 0 [5],2,n+1⟩
def Zt (n:Nat) (f:Nat->E6) (b:Int) (k:Int) (i:Nat) (x:Nat->V) (j:Nat->V):St:=⟨(jsV 39 0 j [(0,.sl 6 n (λi=>eV (f i))),(5,.ref 1),(6,nV n),(7,iV k),(8,nV i)]),[.row 57 6 0 (λ_=>.und),.row 57 6 i x]⟩
def O3 (n:Nat) (f:Nat->E6) (b:Int) (k:Int) (i:Nat) (x:Nat->V):Ex × St:=(.ex 0,⟨(jsV 39 0 (λ_=>.und) [(5,.ref 1)]),[.row 57 6 0 (λ_=>.und),.row 57 6 i x]⟩)
noncomputable def H2 (L:LT):St->T (Ex × St):=λst=>AD tab ⟨Ak tb0,L,Gl⟩ (As Tryz.f5 0) 0 st
section
variable (L:LT) (n:Nat) (f:Nat->E6) (b:Int) (k:Int) (i:Nat) (x:Nat->V)  (j:Nat->V)
include L n f b k i x j
theorem AkH (h0:ilt (ofNat i) (ofNat n) = false):Ag (H2 L) (MA n f b) (Zt n f b k i x j) = some ((.ex 0),⟨(jsV 39 0 (λ_=>.und) [(5,(.ref 1))]),[(.row 57 6 0 (λ_=>.und)),(.row 57 6 i x)]⟩):=by
 exact Aa (ks:=[kn h0]) (by kernel_rfl)
theorem AkG (h0:ilt (ofNat i) (ofNat n) = true) (h1:ieq (ofNat n) 0 = false) (h2:Al (ile 0 (Ae (wr .i64 (Af k (ofNat i))) (ofNat n))) (ilt (Ae (wr .i64 (Af k (ofNat i))) (ofNat n)) (ofNat n)) = true) (h3:Bx i 1 40 = true):Ag (H2 L) (MA n f b) (Zt n f b k i x j) = some (.nm,⟨(jsV 39 0 (λ_=>.und) [(0,(.sl 6 n (λi=>(eV (f i))))),(5,(.ref 1)),(6,(nV n)),(7,(iV k)),(8,(iV (wr .i64 (Af (ofNat i) 1))))]),[(.row 57 6 0 (λ_=>.und)),(.row 57 6 (Bd i 1) (A2 i x (eV (f (toN (Ae (wr .i64 (Af k (ofNat i))) (ofNat n)))))))]⟩):=by
 exact Aa (ks:=[kn h0,kn h1,kn h2,kn h3]) (by kernel_rfl)
end
theorem Ajd (L:LT) (n:Nat) (f:Nat->E6) (b:Int) (h0:ieq (ofNat n) 0 = true):(Au (Ah tab ⟨Ak tb0,L,Gl⟩ Tryz.f5 [A5 n f,iV b] [])).sem = some ((.ref 0),[(.row 57 6 0 (λ_=>.und))]):=by
 exact Aa (ks:=[kn h0]) (by kernel_rfl)
def Oy (n:Nat) (f:Nat->E6) (b:Int) :St:=⟨(jsV 39 0 (λ_=>A7) [(0,(.sl 6 n (λi=>eV (f i)))),(1,(iV b)),(4,(.ref 0)),(5,(.ref 1)),(6,(nV n)),(7,(iV (wr .i64 (Af (Ae b (ofNat n)) (ofNat n))))),(8,(iV 0)),(9,(.sl 6 n (λi=>eV (f i)))),(10,(nV n)),(11,(nV n)),(12,(bV (ieq (ofNat n) 0))),(14,(iV b)),(15,(nV n)),(16,(iV (Ae b (ofNat n)))),(17,(iV (Ae b (ofNat n)))),(18,(bV (ilt (Ae b (ofNat n)) 0))),(19,(iV (Ae b (ofNat n)))),(20,(nV n)),(21,(iV (wr .i64 (Af (Ae b (ofNat n)) (ofNat n)))))]),[.row 57 6 0 (λ_=>.und),.row 57 6 0 (λ_=>.und)]⟩
def Ox (n:Nat) (f:Nat->E6) (b:Int) :St:=⟨(jsV 39 0 (λ_=>A7) [(0,(.sl 6 n (λi=>eV (f i)))),(1,(iV b)),(4,(.ref 0)),(5,(.ref 1)),(6,(nV n)),(7,(iV (Ae b (ofNat n)))),(8,(iV 0)),(9,(.sl 6 n (λi=>eV (f i)))),(10,(nV n)),(11,(nV n)),(12,(bV (ieq (ofNat n) 0))),(14,(iV b)),(15,(nV n)),(16,(iV (Ae b (ofNat n)))),(17,(iV (Ae b (ofNat n)))),(18,(bV (ilt (Ae b (ofNat n)) 0)))]),[.row 57 6 0 (λ_=>.und),.row 57 6 0 (λ_=>.und)]⟩
section
variable (L:LT) (p0:PT) (n:Nat) (f:Nat->E6) (b:Int) (k:Int) (x:Nat->V)
include L p0 n f b k x
theorem Ajf (h0:ieq (ofNat n) 0 = false) (h1:ilt (Ae b (ofNat n)) 0 = true) (hp0:p0 (H2 (onP 0 p0 (O3 n f b k n x) L)) (Oy n f b) = true):(Au (Ah tab ⟨Ak tb0,(onP 0 p0 (O3 n f b k n x) L),Gl⟩ Tryz.f5 [A5 n f,iV b] [])).sem = some ((.ref 0),[(.row 57 6 n x)]):=by
 exact Aa (ks:=[kn h0,kn h0,kn h1,kn hp0]) (by kernel_rfl)
theorem Aje (h0:ieq (ofNat n) 0 = false) (h1:ilt (Ae b (ofNat n)) 0 = false) (hp0:p0 (H2 (onP 0 p0 (O3 n f b k n x) L)) (Ox n f b) = true):(Au (Ah tab ⟨Ak tb0,(onP 0 p0 (O3 n f b k n x) L),Gl⟩ Tryz.f5 [A5 n f,iV b] [])).sem = some ((.ref 0),[(.row 57 6 n x)]):=by
 exact Aa (ks:=[kn h0,kn h0,kn h1,kn hp0]) (by kernel_rfl)
end
theorem Z6 (L:LT) (n:Nat) (f:Nat->E6) (b:Int) (K:Nat) (hK:K < n) (h8:n * 40 <= 140737488355328):∀ (d i:Nat) (j:Nat->V) (q:Nat),n = i+d->d < q ->
  (AA (H2 L) (MA n f b) q (Zt n f b (ofNat K) i (BA (λi=>eV (f ((K+i) % n))) i) j)).sem = some (O3 n f b (ofNat K) n (BA (λi=>eV (f ((K+i) % n))) n))
 | 0,i,j,q+1,h,_=>by
  have:n = i:=by omega
  subst this
  exact Ab (AkH L n f b (ofNat K) n (BA (λi=>eV (f ((K+i) % n))) n) j (A9 (Nat.le_refl _)))
 | d+1,i,j,q+1,h,h2=>by
  have hl:i < n:=by omega
  have h9:(i+1) * 40 <= 140737488355328:=Nat.le_trans (Nat.mul_le_mul_right 40 hl) h8
  have ha:Bx i 1 40 = true:=decide_eq_true h9
  have e1:Ae (wr .i64 (Af (ofNat K) (ofNat i))) (ofNat n) = ofNat ((K+i) % n):=by rw [Dm (by omega),Cu]
  have hb:Al (ile 0 (Ae (wr .i64 (Af (ofNat K) (ofNat i))) (ofNat n))) (ilt (Ae (wr .i64 (Af (ofNat K) (ofNat i))) (ofNat n)) (ofNat n)) = true:=by
   rw [e1]; exact Ap (Nat.mod_lt _ (by omega))
  rw [Ab (AkG L n f b (ofNat K) i (BA (λi=>eV (f ((K+i) % n))) i) j (ofNat_lt hl) (AeA hl) hb ha),Aq,An hl (by omega),e1,show toN (ofNat ((K+i) % n)) = (K+i) % n from rfl]
  exact Z6 L n f b K hK h8 d (i+1) (λ_=>.und) q (by omega) (by omega)
def JT:List V->T (V × List Blk)
 | [v,.val (.int .i64 b)]=>apL v λn f=>.br (Be n) (.leaf (.ref 0,[.row 57 6 n λi=>eV (D5 n f b i)])) .fail
 | _=>.fail
theorem Yu (n:Nat) (f:Nat->E6) (b:Int) (g:Nat->V):Oy n f b = Zt n f b (wr .i64 (Af (Ae b (ofNat n)) (ofNat n))) 0 (BA g 0) (λi=>nth (Oy n f b).t i):=by kernel_rfl
theorem Yt (n:Nat) (f:Nat->E6) (b:Int) (g:Nat->V):Ox n f b = Zt n f b (Ae b (ofNat n)) 0 (BA g 0) (λi=>nth (Ox n f b).t i):=by kernel_rfl
theorem p69:A6 Tryz.prog Gl 5 JT:=by
 refine Av AI mixed Tryz.func5 (by kernel_rfl) (by kernel_rfl) λvs v h' h=>?_
 unfold JT at h
 split at h
 ·rename_i u b
  obtain ⟨n,f,ha,h1⟩:=Cc h
  obtain ⟨hn,hq⟩:=Ad h1
  have:=Ac hq
  simp only [Prod.mk.injEq] at this
  obtain ⟨rfl,rfl⟩:=this
  have h8:n * 40 <= 140737488355328:=of_decide_eq_true hn
  have hA:Bm [u,.val (.int .i64 b)] [A5 n f,iV b]:=λS w cs hv=>by
   obtain ⟨c,l,rfl,q1,q2⟩:=hv
   exact ⟨c,l,rfl,ha S w c q1,q2⟩
  have hx:=AK Dn [(0,MA n f b)]
  have hL:=AF [(0,MA n f b)]
  cases n with
  | zero=>exact ⟨_,AN Gl tb0 [(0,MA 0 f b)],_,hA,rfl,hx.1,hx.2,Ajd _ 0 f b rfl,A0.one λj hj=>absurd hj (Nat.not_lt_zero _)⟩
  | succ m =>
   have hm:m+1 <= 4611686018427387904:=by omega
   have h0:0 < m+1:=Nat.succ_pos m
   have hz:ieq (ofNat (m+1)) 0 = false:=AeA h0
   have fin:∀ K,K = Dj (m+1) b->A0 [Blk.row 57 6 (m+1) (BA (λi=>eV (f ((K+i) % (m+1)))) (m+1))] [Blk.row 57 6 (m+1) λi=>eV (D5 (m+1) f b i)]:=λK hK=>A0.one λj hj=>by
    rw [G5 _ _ j hj,hK]
    rfl
   cases hb:ilt (Ae b (ofNat (m+1))) 0 with
   | true =>
    obtain ⟨e1,e2⟩:=Pi h0 hm hb
    have hr:∀ L,(AP [(0,MA (m+1) f b)] 0 (H2 L) (Oy (m+1) f b)).sem = some (O3 (m+1) f b (ofNat (Dj (m+1) b)) (m+1) (BA (λi=>eV (f ((Dj (m+1) b+i) % (m+1)))) (m+1))):=λL=>by
     show (AA (H2 L) (MA (m+1) f b) (m+2) (Oy (m+1) f b)).sem = _
     rw [Yu (m+1) f b (λi=>eV (f ((Dj (m+1) b+i) % (m+1)))),e1]
     exact Z6 L (m+1) f b _ e2 h8 (m+1) 0 _ (m+2) (by omega) (by omega)
    exact ⟨_,AN Gl tb0 [(0,MA (m+1) f b)],_,hA,rfl,hx.1,hx.2,A1 (Ar hL hL) _ (Ajf _ _ (m+1) f b _ _ hz hb (Ai (hr _))),fin _ rfl⟩
   | false =>
    obtain ⟨e1,e2⟩:=Ph h0 hb
    have hr:∀ L,(AP [(0,MA (m+1) f b)] 0 (H2 L) (Ox (m+1) f b)).sem = some (O3 (m+1) f b (ofNat (Dj (m+1) b)) (m+1) (BA (λi=>eV (f ((Dj (m+1) b+i) % (m+1)))) (m+1))):=λL=>by
     show (AA (H2 L) (MA (m+1) f b) (m+2) (Ox (m+1) f b)).sem = _
     rw [Yt (m+1) f b (λi=>eV (f ((Dj (m+1) b+i) % (m+1)))),e1]
     exact Z6 L (m+1) f b _ e2 h8 (m+1) 0 _ (m+2) (by omega) (by omega)
    exact ⟨_,AN Gl tb0 [(0,MA (m+1) f b)],_,hA,rfl,hx.1,hx.2,A1 (Ar hL hL) _ (Aje _ _ (m+1) f b _ _ hz hb (Ai (hr _))),fin _ rfl⟩
 ·cases h
end Go.Proofs.YthlojajaenfidaaGreatDoor.Ed
