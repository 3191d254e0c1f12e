/-
  The least turned list of edges; a list turned. No conditions.
-/
import Derived.Test.YtkgdhhieomndeaaGreatDoorCyT
import Derived.Test.YtkgdhhieomndeaaGreatDoorEdX
import Derived.Test.YtkgdhhieomndeaaGreatDoorCyO
namespace Go.Proofs.YtkgdhhieomndeaaGreatDoor.Ed
open Go.Sy
open Int (ofNat)
theorem Ahm {i n:Nat} (h:i<n):ieq (ofNat n) 0=false:=by rw [show (0:Int)=ofNat 0 from rfl,DD,decide_eq_false (by omega)]
def Et (n:Nat) (h:Nat->Int) (p i:Nat):Int:=h ((p+i) % n)
def JL (n:Nat) (h:Nat->Int) (p q:Nat):Prop:=∃ s,s<n∧(∀ t,t<s->Et n h p t=Et n h q t)∧Et n h p s<Et n h q s
def EB (n:Nat) (h:Nat->Int) (p:Nat):Prop:=p<n∧∀ q,q<n->¬ JL n h q p
theorem F5 {n:Nat} {h:Nat->Int} {p:Nat}:¬ JL n h p p:=by
 rintro ⟨s,_,_,h3⟩
 omega
theorem MV {n:Nat} {h:Nat->Int} {a b c:Nat} (h1:JL n h a b) (h2:JL n h b c):JL n h a c:=by
 obtain ⟨s,s1,s2,s3⟩:=h1;obtain ⟨r,r1,r2,r3⟩:=h2;rcases Nat.lt_trichotomy s r with e | e | e
 ·exact ⟨s,s1,λt ht=>(s2 t ht).trans (r2 t (by omega)),by rw [<- r2 s e]; exact s3⟩
 ·subst e
  exact ⟨s,s1,λt ht=>(s2 t ht).trans (r2 t ht),by omega⟩
 ·exact ⟨r,r1,λt ht=>(s2 t (by omega)).trans (r2 t ht),by rw [s2 r e]; exact r3⟩
theorem MW (n:Nat) (h:Nat->Int) (p q:Nat):∀ m,m <= n->(∃ s,s<m∧(∀ t,t<s->Et n h p t=Et n h q t)∧Et n h p s ≠ Et n h q s) ∨ ∀ t,t<m->Et n h p t=Et n h q t
 | 0,_=>.inr λt ht=>absurd ht (Nat.not_lt_zero t)
 | m+1,hm=>by
  rcases MW n h p q m (by omega) with ⟨s,h1,h2,h3⟩ | h1
  ·exact .inl ⟨s,by omega,h2,h3⟩
  ·by_cases e:Et n h p m=Et n h q m
   ·refine .inr λt ht=>?_
    by_cases et:t=m
    ·rw [et]; exact e
    ·exact h1 t (by omega)
   ·exact .inl ⟨m,by omega,h1,e⟩
theorem U2 {n:Nat} {h:Nat->Int} {p q:Nat} (hp:EB n h p) (hq:EB n h q):∀ t,t<n->Et n h p t=Et n h q t:=by
 rcases MW n h p q n (Nat.le_refl n) with ⟨s,h1,h2,h3⟩ | h1
 ·rcases Int.lt_or_gt_of_ne h3 with e | e
  ·exact absurd ⟨s,h1,h2,e⟩ (hq.2 p hp.1)
  ·exact absurd ⟨s,h1,λt ht=>(h2 t ht).symm,e⟩ (hp.2 q hq.1)
 ·exact h1
theorem Pg (n:Nat) (h:Nat->Int):∀ m,0<m->∃ p,p<m∧∀ q,q<m->¬ JL n h q p
 | 0,hm=>absurd hm (Nat.lt_irrefl 0)
 | 1,_=>⟨0,by omega,λq hq=>by
   have:q=0:=by omega
   subst this;exact F5⟩
 | m+2,_=>by
  obtain ⟨p,h1,h2⟩:=Pg n h (m+1) (by omega);by_cases e:JL n h (m+1) p
  ·refine ⟨m+1,by omega,λq hq hl=>?_⟩
   by_cases eq:q=m+1
   ·subst eq; exact F5 hl
   ·exact h2 q (by omega) (MV hl e)
  ·refine ⟨p,by omega,λq hq hl=>?_⟩
   by_cases eq:q=m+1
   ·subst eq; exact e hl
   ·exact h2 q (by omega) hl
theorem RE (n:Nat) (h:Nat->Int) (a u:Nat):Et n h (a % n) u=h ((a+u) % n):=by
 unfold Et;rw [Nat.mod_add_mod]
theorem TL {n:Nat} {h:Nat->Int} {i j s:Nat} (hs:s<n) (h1:∀ t,t<s->h ((i+t) % n)=h ((j+t) % n)) (h2:h ((j+s) % n)<h ((i+s) % n)):∀ p,i <= p->p <= i+s->¬ EB n h p:=by
 intro p hp1 hp2 hm;obtain ⟨hpn,hm⟩:=hm;refine hm ((j+(p-i)) % n) (Nat.mod_lt _ (by omega)) ⟨s-(p-i),by omega,λt ht=>?_,?_⟩
 ·rw [RE]
  unfold Et;have:=h1 (p-i+t) (by omega);rw [show i+(p-i+t)=p+t by omega,show j+(p-i+t)=j+(p-i)+t by omega] at this;exact this.symm
 ·rw [RE]
  unfold Et;rw [show j+(p-i)+(s-(p-i))=j+s by omega,show p+(s-(p-i))=i+s by omega];exact h2
theorem Ou {n:Nat} {h:Nat->Int} {lo hi:Nat} (hlt:lo<hi) (h1:∀ u,u<n->h ((hi+u) % n)=h ((lo+u) % n)) (hno:∀ p,p<n->p<hi->p ≠ lo->¬ EB n h p):∀ m p,p <= m->EB n h p->EB n h lo:=by
 intro m
 induction m with
 | zero =>
  intro p hp hm;by_cases e:p=lo
  ·rw [<- e]; exact hm
  ·exact absurd hm (hno p hm.1 (by omega) e)
 | succ m ih =>
  intro p hp hm;by_cases e:p=lo
  ·rw [<- e]; exact hm
  ·by_cases hph:p<hi
   ·exact absurd hm (hno p hm.1 hph e)
   ·have hpn:=hm.1
    have hr:∀ u,u<n->Et n h p u=Et n h (p-(hi-lo)) u:=λu _=>by
     unfold Et;have:=h1 ((p-hi+u) % n) (Nat.mod_lt _ (by omega));rw [Nat.add_mod_mod,Nat.add_mod_mod,show hi+(p-hi+u)=p+u by omega,show lo+(p-hi+u)=p-(hi-lo)+u by omega] at this;exact this
    refine ih (p-(hi-lo)) (by omega) ⟨by omega,λq hq hl=>?_⟩;obtain ⟨s,s1,s2,s3⟩:=hl;exact hm.2 q hq ⟨s,s1,λt ht=>(s2 t ht).trans (hr t (by omega)).symm,by rw [hr s s1]; exact s3⟩
theorem WG (n:Nat) (h:Nat->Int) (hn:0<n):∀ q i t s,i ≠ t->min i t<n->i <= 2 * n->t <= 2 * n+1->s <= n->(∀ u,u<s->h ((i+u) % n)=h ((t+u) % n)) ->
  (∀ p,p<n->p<max i t->p ≠ min i t->¬ EB n h p)->3 * n+1-(i+t+s)<q->EB n h (EI n h q i t s):=by
 intro q;obtain ⟨p0,hp0⟩:∃ p,EB n h p:=by
  obtain ⟨p,h1,h2⟩:=Pg n h n hn;exact ⟨p,h1,h2⟩
 have hp0n:=hp0.1
 induction q with
 | zero=>intro i t s _ _ _ _ _ _ _ hq; exact absurd hq (Nat.not_lt_zero _)
 | succ q ih =>
  intro i t s hne hmin hi ht hs heq hno hq;unfold EI;split
  ·rename_i hx
   have hmin0:∀ lo,lo=min i t->EB n h lo->EB n h (min (min i t) (n-1)):=λlo hlo hm=>by
    rw [show min (min i t) (n-1)=lo by omega]; exact hm
   by_cases c:n <= i ∨ n <= t
   ·refine hmin0 (min i t) rfl ?_
    by_cases e:p0=min i t
    ·rw [<- e]; exact hp0
    ·exact absurd hp0 (hno p0 hp0n (by omega) e)
   ·refine hmin0 (min i t) rfl ?_
    have hsn:s=n:=by omega
    subst hsn;by_cases c2:i<t
    ·rw [show min i t=i by omega]
     exact Ou c2 (λu hu=>(heq u hu).symm) (λp hp h1 h2=>hno p hp (by omega) (by omega)) p0 p0 (Nat.le_refl _) hp0
    ·rw [show min i t=t by omega]
     exact Ou (show t<i by omega) (λu hu=>heq u hu) (λp hp h1 h2=>hno p hp (by omega) (by omega)) p0 p0 (Nat.le_refl _) hp0
  ·rename_i hx
   split
   ·rename_i he
    refine ih i t (s+1) hne hmin hi ht (by omega) (λu hu=>?_) hno (by omega);by_cases eu:u=s
    ·rw [eu]; exact he
    ·exact heq u (by omega)
   ·rename_i he
    split
    ·rename_i hg
     have hsk:=TL (by omega) heq hg;split
     ·rename_i e
      exact ih (i+s+1) (t+1) 0 (by omega) (by omega) (by omega) (by omega) (by omega) (λu hu=>absurd hu (Nat.not_lt_zero u)) (λp hp h1 h2=>by
       by_cases hr:i <= p∧p <= i+s
       ·exact hsk p hr.1 hr.2
       ·exact hno p hp (by omega) (by omega)) (by omega)
     ·rename_i e
      exact ih (i+s+1) t 0 (by omega) (by omega) (by omega) (by omega) (by omega) (λu hu=>absurd hu (Nat.not_lt_zero u)) (λp hp h1 h2=>by
       by_cases hr:i <= p∧p <= i+s
       ·exact hsk p hr.1 hr.2
       ·exact hno p hp (by omega) (by omega)) (by omega)
    ·rename_i hg
     have hg2:h ((i+s) % n)<h ((t+s) % n):=by omega
     have hsk:=TL (by omega) (λu hu=>(heq u hu).symm) hg2;split
     ·rename_i e
      exact ih i (t+s+2) 0 (by omega) (by omega) (by omega) (by omega) (by omega) (λu hu=>absurd hu (Nat.not_lt_zero u)) (λp hp h1 h2=>by
       by_cases hr:t <= p∧p <= t+s
       ·exact hsk p hr.1 hr.2
       ·exact hno p hp (by omega) (by omega)) (by omega)
     ·rename_i e
      exact ih i (t+s+1) 0 (by omega) (by omega) (by omega) (by omega) (by omega) (λu hu=>absurd hu (Nat.not_lt_zero u)) (λp hp h1 h2=>by
       by_cases hr:t <= p∧p <= t+s
       ·exact hsk p hr.1 hr.2
       ·exact hno p hp (by omega) (by omega)) (by omega)
theorem JX (n:Nat) (h:Nat->Int) (hn:0<n):EB n h (Cs n h) :=
 WG n h hn _ 0 1 0 (by omega) (by omega) (by omega) (by omega) (by omega) (λu hu=>absurd hu (Nat.not_lt_zero u)) (λp _ h1 h2=>by omega) (by omega)
theorem Sq {n:Nat} {h g:Nat->Int} {k:Nat} (hn:0<n) (hg:∀ i,i<n->g i=h ((k+i) % n)):∀ i,i<n->Et n g (Cs n g) i=Et n h (Cs n h) i:=by
 have hr:∀ p u,Et n g p u=Et n h ((k+p) % n) u:=λp u=>by
  rw [RE];unfold Et;rw [hg _ (Nat.mod_lt _ hn),Nat.add_mod_mod,Nat.add_assoc]
 have hm:=JX n g hn;have hm2:EB n h ((k+Cs n g) % n):=by
  refine ⟨Nat.mod_lt _ hn,λq hq hl=>?_⟩;have e:(k+(q+(n-k % n)) % n) % n=q:=by
   rw [Nat.add_mod_mod,<- Nat.mod_add_mod,show k % n+(q+(n-k % n))=q+n by have:=Nat.mod_lt k hn; omega,Nat.add_mod_right,Nat.mod_eq_of_lt hq]
  refine hm.2 ((q+(n-k % n)) % n) (Nat.mod_lt _ hn) ?_;obtain ⟨s,s1,s2,s3⟩:=hl;refine ⟨s,s1,λt ht=>?_,?_⟩
  ·rw [hr,hr,e]; exact s2 t ht
  ·rw [hr,hr,e]; exact s3
 intro i hi;rw [hr];exact U2 hm2 (JX n h hn) i hi
def Eh (n:Nat) (b:Int):Nat:=toN (sel (ilt (Ar b (ofNat n)) 0) (Ar b (ofNat n)+ofNat n) (Ar b (ofNat n)))
def AT (n:Nat) (f:Nat->E6) (b:Int) (i:Nat):E6:=f ((Eh n b+i) % n)
theorem MC (b:Int) {n:Nat} (h:0<n):-(n:Int)<Ar b (ofNat n)∧Ar b (ofNat n)<(n:Int):=by
 unfold Ar;have h1:(0:Int)<ofNat n:=by simp only [Int.ofNat_eq_natCast]; omega
 exact ⟨Int.lt_tmod_of_pos b h1,Int.tmod_lt_of_pos b h1⟩
theorem Zj {b:Int} {n:Nat} (h:0<n) (hn:n <= 4611686018427387904) (hb:ilt (Ar b (ofNat n)) 0=true):wr .i64 (Ak (Ar b (ofNat n)) (ofNat n))=ofNat (Eh n b)∧Eh n b<n:=by
 obtain ⟨h1,h2⟩:=MC b h;have h3:Ar b (ofNat n)<0:=by simpa [ilt] using hb
 have h4:Eh n b=(Ar b (ofNat n)+(n:Int)).toNat:=by unfold Eh; rw [hb]; rfl
 rw [h4];generalize Ar b (ofNat n)=r at h1 h2 h3 ⊢;refine ⟨?_,by omega⟩;unfold wr Ak IntKind.wrap;simp [IntKind.bits,IntKind.signed];omega
theorem Zi {b:Int} {n:Nat} (h:0<n) (hb:ilt (Ar b (ofNat n)) 0=false):Ar b (ofNat n)=ofNat (Eh n b)∧Eh n b<n:=by
 obtain ⟨h1,h2⟩:=MC b h;have h3:¬ Ar b (ofNat n)<0:=by simpa [ilt] using hb
 have h4:Eh n b=(Ar b (ofNat n)).toNat:=by unfold Eh; rw [hb]; rfl
 rw [h4];generalize Ar b (ofNat n)=r at h1 h2 h3 ⊢;refine ⟨?_,by omega⟩;simp only [Int.ofNat_eq_natCast];omega
theorem Zk {n k:Nat} (h:k<n):Eh n (ofNat k)=k:=by
 unfold Eh;rw [DW,Nat.mod_eq_of_lt h];have:ilt (ofNat k) 0=false:=by simp [ilt]
 rw [this];rfl
def lp69 (n:Nat) (f:Nat->E6) (b:Int):Lp:=⟨bmK 39 0 [0,5,6,7,8],2,bmK 39 0 [5],2,n+1⟩
def st69 (n:Nat) (f:Nat->E6) (b:Int) (k:Int) (i:Nat) (x:Nat->V) (j:Nat->V):St:=⟨jsV 39 0 j [(0,.sl 6 n (λi=>eV (f i))),(5,.ref 1),(6,nV n),(7,iV k),(8,nV i)],[.row 92 6 0 Aa,.row 92 6 i x]⟩
def Po (n:Nat) (f:Nat->E6) (b:Int) (k:Int) (i:Nat) (x:Nat->V):Ex×St:=(.ex 0,⟨jsV 39 0 Aa [(5,.ref 1)],[.row 92 6 0 Aa,.row 92 6 i x]⟩)
noncomputable def If (L:LT):St->T (Ex×St):=λst=>AD tab ⟨Am tb0,L,Gl⟩ (Au Tryz.f69 0) 0 st
section
variable (L:LT) (n:Nat) (f:Nat->E6) (b:Int) (k:Int) (i:Nat) (x:Nat->V)  (j:Nat->V)
include L n f b k i x j
theorem Am9 (h0:ilt (ofNat i) (ofNat n)=false):Al (If L) (lp69 n f b) (st69 n f b k i x j)=some ((.ex 0),⟨jsV 39 0 Aa [(5,.ref 1)],[.row 92 6 0 Aa,.row 92 6 i x]⟩):=by
 exact Ac (ks:=[kn h0]) (by kernel_rfl)
theorem Am8 (h0:ilt (ofNat i) (ofNat n)=true) (h1:ieq (ofNat n) 0=false) (h2:Ao (ile 0 (Ar (wr .i64 (Ak k (ofNat i))) (ofNat n))) (ilt (Ar (wr .i64 (Ak k (ofNat i))) (ofNat n)) (ofNat n))=true) (h3:Bn i 1 40=true):Al (If L) (lp69 n f b) (st69 n f b k i x j)=some (.nm,⟨jsV 39 0 Aa [(0,.sl 6 n (λi=>eV (f i))),(5,.ref 1),(6,nV n),(7,iV k),(8,iV (wr .i64 (Ak (ofNat i) 1)))],[.row 92 6 0 Aa,.row 92 6 (AV i 1) (As i x (eV (f (toN (Ar (wr .i64 (Ak k (ofNat i))) (ofNat n))))))]⟩):=by
 exact Ac (ks:=[kn h0,kn h1,kn h2,kn h3]) (by kernel_rfl)
end
theorem Aln (L:LT) (n:Nat) (f:Nat->E6) (b:Int) (h0:ieq (ofNat n) 0=true):(Ay (Ai tab ⟨Am tb0,L,Gl⟩ Tryz.f69 [AS n f,iV b] [])).sem=some ((.ref 0),[.row 92 6 0 Aa]):=by
 exact Ac (ks:=[kn h0]) (by kernel_rfl)
def Pk (n:Nat) (f:Nat->E6) (b:Int) :St:=⟨jsV 39 0 (λ_=>A9) [(0,.sl 6 n (λi=>eV (f i))),(1,iV b),(4,.ref 0),(5,.ref 1),(6,nV n),(7,iV (wr .i64 (Ak (Ar b (ofNat n)) (ofNat n)))),(8,iV 0),(9,.sl 6 n (λi=>eV (f i))),(10,nV n),(11,nV n),(12,bV (ieq (ofNat n) 0)),(14,iV b),(15,nV n),(16,iV (Ar b (ofNat n))),(17,iV (Ar b (ofNat n))),(18,bV (ilt (Ar b (ofNat n)) 0)),(19,iV (Ar b (ofNat n))),(20,nV n),(21,iV (wr .i64 (Ak (Ar b (ofNat n)) (ofNat n))))],[.row 92 6 0 Aa,.row 92 6 0 Aa]⟩
def Pj (n:Nat) (f:Nat->E6) (b:Int) :St:=⟨jsV 39 0 (λ_=>A9) [(0,.sl 6 n (λi=>eV (f i))),(1,iV b),(4,.ref 0),(5,.ref 1),(6,nV n),(7,iV (Ar b (ofNat n))),(8,iV 0),(9,.sl 6 n (λi=>eV (f i))),(10,nV n),(11,nV n),(12,bV (ieq (ofNat n) 0)),(14,iV b),(15,nV n),(16,iV (Ar b (ofNat n))),(17,iV (Ar b (ofNat n))),(18,bV (ilt (Ar b (ofNat n)) 0))],[.row 92 6 0 Aa,.row 92 6 0 Aa]⟩
section
variable (L:LT) (p0:PT) (n:Nat) (f:Nat->E6) (b:Int) (k:Int) (x:Nat->V)
include L p0 n f b k x
theorem Alp (h0:ieq (ofNat n) 0=false) (h1:ilt (Ar b (ofNat n)) 0=true) (hp0:p0 (If (onP 0 p0 (Po n f b k n x) L)) (Pk n f b)=true):(Ay (Ai tab ⟨Am tb0,onP 0 p0 (Po n f b k n x) L,Gl⟩ Tryz.f69 [AS n f,iV b] [])).sem=some ((.ref 0),[.row 92 6 n x]):=by
 exact Ac (ks:=[kn h0,kn h0,kn h1,kn hp0]) (by kernel_rfl)
theorem Alo (h0:ieq (ofNat n) 0=false) (h1:ilt (Ar b (ofNat n)) 0=false) (hp0:p0 (If (onP 0 p0 (Po n f b k n x) L)) (Pj n f b)=true):(Ay (Ai tab ⟨Am tb0,onP 0 p0 (Po n f b k n x) L,Gl⟩ Tryz.f69 [AS n f,iV b] [])).sem=some ((.ref 0),[.row 92 6 n x]):=by
 exact Ac (ks:=[kn h0,kn h0,kn h1,kn hp0]) (by kernel_rfl)
end
theorem Abx (L:LT) (n:Nat) (f:Nat->E6) (b:Int) (K:Nat) (hK:K<n) (h8:n * 40 <= 140737488355328):∀ (d i:Nat) (j:Nat->V) (q:Nat),n=i+d->d<q ->
  (A3 (If L) (lp69 n f b) q (st69 n f b (ofNat K) i (By (λi=>eV (f ((K+i) % n))) i) j)).sem=some (Po n f b (ofNat K) n (By (λi=>eV (f ((K+i) % n))) n))
 | 0,i,j,q+1,h,_=>by
  have:n=i:=by omega
  subst this;exact Ae (Am9 L n f b (ofNat K) n (By (λi=>eV (f ((K+i) % n))) n) j (Aw (Nat.le_refl _)))
 | d+1,i,j,q+1,h,h2=>by
  have hl:i<n:=by omega
  have h9:(i+1) * 40 <= 140737488355328:=Nat.le_trans (Nat.mul_le_mul_right 40 hl) h8;have ha:Bn i 1 40=true:=decide_eq_true h9;have e1:Ar (wr .i64 (Ak (ofNat K) (ofNat i))) (ofNat n)=ofNat ((K+i) % n):=by rw [Fb (by omega),DW]
  have hb:Ao (ile 0 (Ar (wr .i64 (Ak (ofNat K) (ofNat i))) (ofNat n))) (ilt (Ar (wr .i64 (Ak (ofNat K) (ofNat i))) (ofNat n)) (ofNat n))=true:=by
   rw [e1]; exact Ag (Nat.mod_lt _ (by omega))
  rw [Ae (Am8 L n f b (ofNat K) i (By (λi=>eV (f ((K+i) % n))) i) j (ofNat_lt hl) (Ahm hl) hb ha),A6,Ap hl (by omega),e1,show toN (ofNat ((K+i) % n))=(K+i) % n from rfl];exact Abx L n f b K hK h8 d (i+1) Aa q (by omega) (by omega)
def Jc:List V->AE
 | [v,.val (.int .i64 b)]=>apL v λn f=>.br (BC n) (.leaf (.ref 0,[.row 92 6 n λi=>eV (AT n f b i)])) .fail
 | _=>.fail
theorem ZZ (n:Nat) (f:Nat->E6) (b:Int) (g:Nat->V):Pk n f b=st69 n f b (wr .i64 (Ak (Ar b (ofNat n)) (ofNat n))) 0 (By g 0) (λi=>nth (Pk n f b).t i):=by kernel_rfl
theorem ZY (n:Nat) (f:Nat->E6) (b:Int) (g:Nat->V):Pj n f b=st69 n f b (Ar b (ofNat n)) 0 (By g 0) (λi=>nth (Pj n f b).t i):=by kernel_rfl
theorem p69:Ax Tryz.prog Gl 69 Jc:=by
 refine Aj A7 mixed Tryz.func69 (by kernel_rfl) (by kernel_rfl) λvs v h' h=>?_;unfold Jc at h;split at h
 ·rename_i u b
  obtain ⟨n,f,ha,h1⟩:=Co h;obtain ⟨hn,hq⟩:=Ad h1;have:=Ab hq;simp only [Prod.mk.injEq] at this;obtain ⟨rfl,rfl⟩:=this;have h8:n * 40 <= 140737488355328:=of_decide_eq_true hn;have hA:Bj [u,.val (.int .i64 b)] [AS n f,iV b]:=λS w cs hv=>by
   obtain ⟨c,l,rfl,q1,q2⟩:=hv;exact ⟨c,l,rfl,ha S w c q1,q2⟩
  have hx:=AH CS [(0,lp69 n f b)];have hL:=AQ [(0,lp69 n f b)];cases n with
  | zero=>exact ⟨_,AA Gl tb0 [(0,lp69 0 f b)],_,hA,rfl,hx.1,hx.2,Aln _ 0 f b rfl,Av.one λj hj=>absurd hj (Nat.not_lt_zero _)⟩
  | succ m =>
   have hm:m+1 <= 4611686018427387904:=by omega
   have h0:0<m+1:=Nat.succ_pos m;have hz:ieq (ofNat (m+1)) 0=false:=Ahm h0;have fin:∀ K,K=Eh (m+1) b->Av [Blk.row 92 6 (m+1) (By (λi=>eV (f ((K+i) % (m+1)))) (m+1))] [Blk.row 92 6 (m+1) λi=>eV (AT (m+1) f b i)]:=λK hK=>Av.one λj hj=>by
    rw [FQ _ _ j hj,hK];rfl
   cases hb:ilt (Ar b (ofNat (m+1))) 0 with
   | true =>
    obtain ⟨e1,e2⟩:=Zj h0 hm hb;have hr:∀ L,(Ba [(0,lp69 (m+1) f b)] 0 (If L) (Pk (m+1) f b)).sem=some (Po (m+1) f b (ofNat (Eh (m+1) b)) (m+1) (By (λi=>eV (f ((Eh (m+1) b+i) % (m+1)))) (m+1))):=λL=>by
     show (A3 (If L) (lp69 (m+1) f b) (m+2) (Pk (m+1) f b)).sem=_;rw [ZZ (m+1) f b (λi=>eV (f ((Eh (m+1) b+i) % (m+1)))),e1];exact Abx L (m+1) f b _ e2 h8 (m+1) 0 _ (m+2) (by omega) (by omega)
    exact ⟨_,AA Gl tb0 [(0,lp69 (m+1) f b)],_,hA,rfl,hx.1,hx.2,AP (AI hL hL) _ (Alp _ _ (m+1) f b _ _ hz hb (Az (hr _))),fin _ rfl⟩
   | false =>
    obtain ⟨e1,e2⟩:=Zi h0 hb;have hr:∀ L,(Ba [(0,lp69 (m+1) f b)] 0 (If L) (Pj (m+1) f b)).sem=some (Po (m+1) f b (ofNat (Eh (m+1) b)) (m+1) (By (λi=>eV (f ((Eh (m+1) b+i) % (m+1)))) (m+1))):=λL=>by
     show (A3 (If L) (lp69 (m+1) f b) (m+2) (Pj (m+1) f b)).sem=_;rw [ZY (m+1) f b (λi=>eV (f ((Eh (m+1) b+i) % (m+1)))),e1];exact Abx L (m+1) f b _ e2 h8 (m+1) 0 _ (m+2) (by omega) (by omega)
    exact ⟨_,AA Gl tb0 [(0,lp69 (m+1) f b)],_,hA,rfl,hx.1,hx.2,AP (AI hL hL) _ (Alo _ _ (m+1) f b _ _ hz hb (Az (hr _))),fin _ rfl⟩
 ·cases h
end Go.Proofs.YtkgdhhieomndeaaGreatDoor.Ed
namespace Go.Proofs.YtkgdhhieomndeaaGreatDoor.Ed
open Go.Sy Go
theorem Mm {σ ρ:Type} {g:Nat->σ->T (σ ⊕ ρ)} {fin:σ->ρ} {q:Nat->Bool} {acc:Nat->σ} {x:Nat->ρ} {n:Nat} (hc:∀ i,i<n->q i=false->(g i (acc i)).sem=some (.inl (acc (i+1))))
  (hx:∀ i,i<n->q i=true->(g i (acc i)).sem=some (.inr (x i))):∀ d i,i+d=n->BR g fin d i (acc i)=some (match Bh q d i with
   | none=>fin (acc n)
   | some t=>x t)
 | 0,i,h=>by rw [<- h]; rfl
 | d+1,i,h=>by
  rw [BR];cases hq:q i with
  | false =>rw [hc i (by omega) hq,D1 hq];exact Mm hc hx d (i+1) (by omega)
  | true=>rw [hx i (by omega) hq,Dz hq]
def isN (o:Option Nat):Bool:=match o with
 | none=>true
 | some _=>false
def tO (q:Nat->Bool) (n:Nat):Nat:=match Bh q n 0 with
 | some t=>t
 | none=>0
def nO (q:Nat->Bool) (n:Nat):V:=iV (Int.ofNat (tO q n))
section
variable {σ ρ:Type} {g:Nat->σ->T (σ ⊕ ρ)} {fin:σ->ρ} {q:Nat->Bool} {acc:Nat->σ} {x:Nat->ρ} {n:Nat} (hc:∀ i,i<n->q i=false->(g i (acc i)).sem=some (.inl (acc (i+1))))
  (hx:∀ i,i<n->q i=true->(g i (acc i)).sem=some (.inr (x i)))
include hc hx
theorem SI (h:isN (Bh q n 0)=true):BR g fin n 0 (acc 0)=some (fin (acc n)):=by
 rw [Mm hc hx n 0 (Nat.zero_add n)];cases hq:Bh q n 0 with
 | none=>rfl
 | some t=>rw [hq] at h; cases h
theorem SH (h:isN (Bh q n 0)=false):BR g fin n 0 (acc 0)=some (x (tO q n)):=by
 rw [Mm hc hx n 0 (Nat.zero_add n)];unfold tO;cases hq:Bh q n 0 with
 | none=>rw [hq] at h; cases h
 | some t=>rfl
end
end Go.Proofs.YtkgdhhieomndeaaGreatDoor.Ed
