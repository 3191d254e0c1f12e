/-
  The least turned list of edges; a list turned. No conditions.
-/
import Derived.Test.YtkbafjceglhjhaaGreatDoorCyT
import Derived.Test.YtkbafjceglhjhaaGreatDoorEdX
import Derived.Test.YtkbafjceglhjhaaGreatDoorCyO
namespace Go.Proofs.YtkbafjceglhjhaaGreatDoor.Ed
open Go.Sy
open Int (ofNat)
theorem AhP {i n:Nat} (h:i<n):ieq (ofNat n) 0=false:=by rw [show (0:Int)=ofNat 0 from rfl,Eg,decide_eq_false (by omega)]
def FM (n:Nat) (h:Nat->Int) (p i:Nat):Int:=h ((p+i) % n)
def Kj (n:Nat) (h:Nat->Int) (p q:Nat):Prop:=∃ s,s<n∧(∀ t,t<s->FM n h p t=FM n h q t)∧FM n h p s<FM n h q s
def F5 (n:Nat) (h:Nat->Int) (p:Nat):Prop:=p<n∧∀ q,q<n->¬ Kj n h q p
theorem Gc {n:Nat} {h:Nat->Int} {p:Nat}:¬ Kj n h p p:=by
 rintro ⟨s,_,_,h3⟩
 omega
theorem Nr {n:Nat} {h:Nat->Int} {a b c:Nat} (h1:Kj n h a b) (h2:Kj n h b c):Kj n h a c:=by
 obtain ⟨s,s1,s2,s3⟩:=h1;obtain ⟨r,r1,r2,r3⟩:=h2;rcases Nat.lt_trichotomy s r with e | e | e
 ·exact ⟨s,s1,λt ht=>(s2 t ht).trans (r2 t (by omega)),by rw [<- r2 s e]; exact s3⟩
 ·subst e
  exact ⟨s,s1,λt ht=>(s2 t ht).trans (r2 t ht),by omega⟩
 ·exact ⟨r,r1,λt ht=>(s2 t (by omega)).trans (r2 t ht),by rw [s2 r e]; exact r3⟩
theorem Ns (n:Nat) (h:Nat->Int) (p q:Nat):∀ m,m <= n->(∃ s,s<m∧(∀ t,t<s->FM n h p t=FM n h q t)∧FM n h p s ≠ FM n h q s) ∨ ∀ t,t<m->FM n h p t=FM n h q t
 | 0,_=>.inr λt ht=>absurd ht (Nat.not_lt_zero t)
 | m+1,hm=>by
  rcases Ns n h p q m (by omega) with ⟨s,h1,h2,h3⟩ | h1
  ·exact .inl ⟨s,by omega,h2,h3⟩
  ·by_cases e:FM n h p m=FM n h q m
   ·refine .inr λt ht=>?_
    by_cases et:t=m
    ·rw [et]; exact e
    ·exact h1 t (by omega)
   ·exact .inl ⟨m,by omega,h1,e⟩
theorem AcV {n:Nat} {h:Nat->Int} {p q:Nat} (hp:F5 n h p) (hq:F5 n h q):∀ t,t<n->FM n h p t=FM n h q t:=by
 rcases Ns n h p q n (Nat.le_refl n) with ⟨s,h1,h2,h3⟩ | h1
 ·rcases Int.lt_or_gt_of_ne h3 with e | e
  ·exact absurd ⟨s,h1,h2,e⟩ (hq.2 p hp.1)
  ·exact absurd ⟨s,h1,λt ht=>(h2 t ht).symm,e⟩ (hp.2 q hq.1)
 ·exact h1
theorem P0 (n:Nat) (h:Nat->Int):∀ m,0<m->∃ p,p<m∧∀ q,q<m->¬ Kj n h q p
 | 0,hm=>absurd hm (Nat.lt_irrefl 0)
 | 1,_=>⟨0,by omega,λq hq=>by
   have:q=0:=by omega
   subst this;exact Gc⟩
 | m+2,_=>by
  obtain ⟨p,h1,h2⟩:=P0 n h (m+1) (by omega);by_cases e:Kj n h (m+1) p
  ·refine ⟨m+1,by omega,λq hq hl=>?_⟩
   by_cases eq:q=m+1
   ·subst eq; exact Gc hl
   ·exact h2 q (by omega) (Nr hl e)
  ·refine ⟨p,by omega,λq hq hl=>?_⟩
   by_cases eq:q=m+1
   ·subst eq; exact e hl
   ·exact h2 q (by omega) hl
theorem XI (n:Nat) (h:Nat->Int) (a u:Nat):FM n h (a % n) u=h ((a+u) % n):=by
 unfold FM;rw [Nat.mod_add_mod]
theorem Ud {n:Nat} {h:Nat->Int} {i j s:Nat} (hs:s<n) (h1:∀ t,t<s->h ((i+t) % n)=h ((j+t) % n)) (h2:h ((j+s) % n)<h ((i+s) % n)):∀ p,i <= p->p <= i+s->¬ F5 n h p:=by
 intro p hp1 hp2 hm;obtain ⟨hpn,hm⟩:=hm;refine hm ((j+(p-i)) % n) (Nat.mod_lt _ (by omega)) ⟨s-(p-i),by omega,λt ht=>?_,?_⟩
 ·rw [XI]
  unfold FM;have:=h1 (p-i+t) (by omega);rw [show i+(p-i+t)=p+t by omega,show j+(p-i+t)=j+(p-i)+t by omega] at this;exact this.symm
 ·rw [XI]
  unfold FM;rw [show j+(p-i)+(s-(p-i))=j+s by omega,show p+(s-(p-i))=i+s by omega];exact h2
theorem O7 {n:Nat} {h:Nat->Int} {lo hi:Nat} (hlt:lo<hi) (h1:∀ u,u<n->h ((hi+u) % n)=h ((lo+u) % n)) (hno:∀ p,p<n->p<hi->p ≠ lo->¬ F5 n h p):∀ m p,p <= m->F5 n h p->F5 n h lo:=by
 intro m
 induction m with
 | zero =>
  intro p hp hm;by_cases e:p=lo
  ·rw [<- e]; exact hm
  ·exact absurd hm (hno p hm.1 (by omega) e)
 | succ m ih =>
  intro p hp hm;by_cases e:p=lo
  ·rw [<- e]; exact hm
  ·by_cases hph:p<hi
   ·exact absurd hm (hno p hm.1 hph e)
   ·have hpn:=hm.1
    have hr:∀ u,u<n->FM n h p u=FM n h (p-(hi-lo)) u:=λu _=>by
     unfold FM;have:=h1 ((p-hi+u) % n) (Nat.mod_lt _ (by omega));rw [Nat.add_mod_mod,Nat.add_mod_mod,show hi+(p-hi+u)=p+u by omega,show lo+(p-hi+u)=p-(hi-lo)+u by omega] at this;exact this
    refine ih (p-(hi-lo)) (by omega) ⟨by omega,λq hq hl=>?_⟩;obtain ⟨s,s1,s2,s3⟩:=hl;exact hm.2 q hq ⟨s,s1,λt ht=>(s2 t ht).trans (hr t (by omega)).symm,by rw [hr s s1]; exact s3⟩
theorem WE (n:Nat) (h:Nat->Int) (hn:0<n):∀ q i t s,i ≠ t->min i t<n->i <= 2 * n->t <= 2 * n+1->s <= n->(∀ u,u<s->h ((i+u) % n)=h ((t+u) % n)) ->
  (∀ p,p<n->p<max i t->p ≠ min i t->¬ F5 n h p)->3 * n+1-(i+t+s)<q->F5 n h (Fg n h q i t s):=by
 intro q;obtain ⟨p0,hp0⟩:∃ p,F5 n h p:=by
  obtain ⟨p,h1,h2⟩:=P0 n h n hn;exact ⟨p,h1,h2⟩
 have hp0n:=hp0.1
 induction q with
 | zero=>intro i t s _ _ _ _ _ _ _ hq; exact absurd hq (Nat.not_lt_zero _)
 | succ q ih =>
  intro i t s hne hmin hi ht hs heq hno hq;unfold Fg;split
  ·rename_i hx
   have hmin0:∀ lo,lo=min i t->F5 n h lo->F5 n h (min (min i t) (n-1)):=λlo hlo hm=>by
    rw [show min (min i t) (n-1)=lo by omega]; exact hm
   by_cases c:n <= i ∨ n <= t
   ·refine hmin0 (min i t) rfl ?_
    by_cases e:p0=min i t
    ·rw [<- e]; exact hp0
    ·exact absurd hp0 (hno p0 hp0n (by omega) e)
   ·refine hmin0 (min i t) rfl ?_
    have hsn:s=n:=by omega
    subst hsn;by_cases c2:i<t
    ·rw [show min i t=i by omega]
     exact O7 c2 (λu hu=>(heq u hu).symm) (λp hp h1 h2=>hno p hp (by omega) (by omega)) p0 p0 (Nat.le_refl _) hp0
    ·rw [show min i t=t by omega]
     exact O7 (show t<i by omega) (λu hu=>heq u hu) (λp hp h1 h2=>hno p hp (by omega) (by omega)) p0 p0 (Nat.le_refl _) hp0
  ·rename_i hx
   split
   ·rename_i he
    refine ih i t (s+1) hne hmin hi ht (by omega) (λu hu=>?_) hno (by omega);by_cases eu:u=s
    ·rw [eu]; exact he
    ·exact heq u (by omega)
   ·rename_i he
    split
    ·rename_i hg
     have hsk:=Ud (by omega) heq hg;split
     ·rename_i e
      exact ih (i+s+1) (t+1) 0 (by omega) (by omega) (by omega) (by omega) (by omega) (λu hu=>absurd hu (Nat.not_lt_zero u)) (λp hp h1 h2=>by
       by_cases hr:i <= p∧p <= i+s
       ·exact hsk p hr.1 hr.2
       ·exact hno p hp (by omega) (by omega)) (by omega)
     ·rename_i e
      exact ih (i+s+1) t 0 (by omega) (by omega) (by omega) (by omega) (by omega) (λu hu=>absurd hu (Nat.not_lt_zero u)) (λp hp h1 h2=>by
       by_cases hr:i <= p∧p <= i+s
       ·exact hsk p hr.1 hr.2
       ·exact hno p hp (by omega) (by omega)) (by omega)
    ·rename_i hg
     have hg2:h ((i+s) % n)<h ((t+s) % n):=by omega
     have hsk:=Ud (by omega) (λu hu=>(heq u hu).symm) hg2;split
     ·rename_i e
      exact ih i (t+s+2) 0 (by omega) (by omega) (by omega) (by omega) (by omega) (λu hu=>absurd hu (Nat.not_lt_zero u)) (λp hp h1 h2=>by
       by_cases hr:t <= p∧p <= t+s
       ·exact hsk p hr.1 hr.2
       ·exact hno p hp (by omega) (by omega)) (by omega)
     ·rename_i e
      exact ih i (t+s+1) 0 (by omega) (by omega) (by omega) (by omega) (by omega) (λu hu=>absurd hu (Nat.not_lt_zero u)) (λp hp h1 h2=>by
       by_cases hr:t <= p∧p <= t+s
       ·exact hsk p hr.1 hr.2
       ·exact hno p hp (by omega) (by omega)) (by omega)
theorem WC (n:Nat) (h:Nat->Int) (hn:0<n):F5 n h (El n h) :=
 WE n h hn _ 0 1 0 (by omega) (by omega) (by omega) (by omega) (by omega) (λu hu=>absurd hu (Nat.not_lt_zero u)) (λp _ h1 h2=>by omega) (by omega)
def ED (n:Nat) (b:Int):Nat:=toN (sel (ilt (Av b (ofNat n)) 0) (Av b (ofNat n)+ofNat n) (Av b (ofNat n)))
def KP (n:Nat) (f:Nat->E6) (b:Int) (i:Nat):E6:=f ((ED n b+i) % n)
theorem MX (b:Int) {n:Nat} (h:0<n):-(n:Int)<Av b (ofNat n)∧Av b (ofNat n)<(n:Int):=by
 unfold Av;have h1:(0:Int)<ofNat n:=by simp only [Int.ofNat_eq_natCast]; omega
 exact ⟨Int.lt_tmod_of_pos b h1,Int.tmod_lt_of_pos b h1⟩
theorem Zh {b:Int} {n:Nat} (h:0<n) (hn:n <= 4611686018427387904) (hb:ilt (Av b (ofNat n)) 0=true):wr .i64 (Ai (Av b (ofNat n)) (ofNat n))=ofNat (ED n b)∧ED n b<n:=by
 obtain ⟨h1,h2⟩:=MX b h;have h3:Av b (ofNat n)<0:=by simpa [ilt] using hb
 have h4:ED n b=(Av b (ofNat n)+(n:Int)).toNat:=by unfold ED; rw [hb]; rfl
 rw [h4];generalize Av b (ofNat n)=r at h1 h2 h3 ⊢;refine ⟨?_,by omega⟩;unfold wr Ai IntKind.wrap;simp [IntKind.bits,IntKind.signed];omega
theorem Zg {b:Int} {n:Nat} (h:0<n) (hb:ilt (Av b (ofNat n)) 0=false):Av b (ofNat n)=ofNat (ED n b)∧ED n b<n:=by
 obtain ⟨h1,h2⟩:=MX b h;have h3:¬ Av b (ofNat n)<0:=by simpa [ilt] using hb
 have h4:ED n b=(Av b (ofNat n)).toNat:=by unfold ED; rw [hb]; rfl
 rw [h4];generalize Av b (ofNat n)=r at h1 h2 h3 ⊢;refine ⟨?_,by omega⟩;simp only [Int.ofNat_eq_natCast];omega
theorem Zi {n k:Nat} (h:k<n):ED n (ofNat k)=k:=by
 unfold ED;rw [E0,Nat.mod_eq_of_lt h];have:ilt (ofNat k) 0=false:=by simp [ilt]
 rw [this];rfl
def N8 (n:Nat) (f:Nat->E6) (b:Int):Lp:=⟨bmK 39 0 [0,5,6,7,8],2,bmK 39 0 [5],2,n+1⟩
def Aba (n:Nat) (f:Nat->E6) (b:Int) (k:Int) (i:Nat) (x:Nat->V) (j:Nat->V):St:=⟨jsV 39 0 j [(0,.sl 6 n (λi=>eV (f i))),(5,.ref 1),(6,nV n),(7,iV k),(8,nV i)],[.row 76 6 0 Ab,.row 76 6 i x]⟩
def P8 (n:Nat) (f:Nat->E6) (b:Int) (k:Int) (i:Nat) (x:Nat->V):Ex×St:=(.ex 0,⟨jsV 39 0 Ab [(5,.ref 1)],[.row 76 6 0 Ab,.row 76 6 i x]⟩)
noncomputable def Iw (L:LT):St->T (Ex×St):=λst=>AK tab ⟨A2 tb0,L,Gl⟩ (A3 Tryz.f77 0) 0 st
section
variable (L:LT) (n:Nat) (f:Nat->E6) (b:Int) (k:Int) (i:Nat) (x:Nat->V)  (j:Nat->V)
include L n f b k i x j
theorem An3 (h0:ilt (ofNat i) (ofNat n)=false):A1 (Iw L) (N8 n f b) (Aba n f b k i x j)=some ((.ex 0),⟨jsV 39 0 Ab [(5,.ref 1)],[.row 76 6 0 Ab,.row 76 6 i x]⟩):=by
 exact Af (ks:=[kn h0]) (by kernel_rfl)
theorem An2 (h0:ilt (ofNat i) (ofNat n)=true) (h1:ieq (ofNat n) 0=false) (h2:Ak (ile 0 (Av (wr .i64 (Ai k (ofNat i))) (ofNat n))) (ilt (Av (wr .i64 (Ai k (ofNat i))) (ofNat n)) (ofNat n))=true) (h3:C4 i 1 40=true):A1 (Iw L) (N8 n f b) (Aba n f b k i x j)=some (.nm,⟨jsV 39 0 Ab [(0,.sl 6 n (λi=>eV (f i))),(5,.ref 1),(6,nV n),(7,iV k),(8,iV (wr .i64 (Ai (ofNat i) 1)))],[.row 76 6 0 Ab,.row 76 6 (BC i 1) (AX i x (eV (f (toN (Av (wr .i64 (Ai k (ofNat i))) (ofNat n))))))]⟩):=by
 exact Af (ks:=[kn h0,kn h1,kn h2,kn h3]) (by kernel_rfl)
end
theorem Amx (L:LT) (n:Nat) (f:Nat->E6) (b:Int) (h0:ieq (ofNat n) 0=true):(Ay (Aj tab ⟨A2 tb0,L,Gl⟩ Tryz.f77 [AN n f,iV b] [])).sem=some ((.ref 0),[.row 76 6 0 Ab]):=by
 exact Af (ks:=[kn h0]) (by kernel_rfl)
def P5 (n:Nat) (f:Nat->E6) (b:Int) :St:=⟨jsV 39 0 (λ_=>AH) [(0,.sl 6 n (λi=>eV (f i))),(1,iV b),(4,.ref 0),(5,.ref 1),(6,nV n),(7,iV (wr .i64 (Ai (Av b (ofNat n)) (ofNat n)))),(8,iV 0),(9,.sl 6 n (λi=>eV (f i))),(10,nV n),(11,nV n),(12,bV (ieq (ofNat n) 0)),(14,iV b),(15,nV n),(16,iV (Av b (ofNat n))),(17,iV (Av b (ofNat n))),(18,bV (ilt (Av b (ofNat n)) 0)),(19,iV (Av b (ofNat n))),(20,nV n),(21,iV (wr .i64 (Ai (Av b (ofNat n)) (ofNat n))))],[.row 76 6 0 Ab,.row 76 6 0 Ab]⟩
def P4 (n:Nat) (f:Nat->E6) (b:Int) :St:=⟨jsV 39 0 (λ_=>AH) [(0,.sl 6 n (λi=>eV (f i))),(1,iV b),(4,.ref 0),(5,.ref 1),(6,nV n),(7,iV (Av b (ofNat n))),(8,iV 0),(9,.sl 6 n (λi=>eV (f i))),(10,nV n),(11,nV n),(12,bV (ieq (ofNat n) 0)),(14,iV b),(15,nV n),(16,iV (Av b (ofNat n))),(17,iV (Av b (ofNat n))),(18,bV (ilt (Av b (ofNat n)) 0))],[.row 76 6 0 Ab,.row 76 6 0 Ab]⟩
section
variable (L:LT) (p0:PT) (n:Nat) (f:Nat->E6) (b:Int) (k:Int) (x:Nat->V)
include L p0 n f b k x
theorem Amz (h0:ieq (ofNat n) 0=false) (h1:ilt (Av b (ofNat n)) 0=true) (hp0:p0 (Iw (onP 0 p0 (P8 n f b k n x) L)) (P5 n f b)=true):(Ay (Aj tab ⟨A2 tb0,onP 0 p0 (P8 n f b k n x) L,Gl⟩ Tryz.f77 [AN n f,iV b] [])).sem=some ((.ref 0),[.row 76 6 n x]):=by
 exact Af (ks:=[kn h0,kn h0,kn h1,kn hp0]) (by kernel_rfl)
theorem Amy (h0:ieq (ofNat n) 0=false) (h1:ilt (Av b (ofNat n)) 0=false) (hp0:p0 (Iw (onP 0 p0 (P8 n f b k n x) L)) (P4 n f b)=true):(Ay (Aj tab ⟨A2 tb0,onP 0 p0 (P8 n f b k n x) L,Gl⟩ Tryz.f77 [AN n f,iV b] [])).sem=some ((.ref 0),[.row 76 6 n x]):=by
 exact Af (ks:=[kn h0,kn h0,kn h1,kn hp0]) (by kernel_rfl)
end
theorem Abw (L:LT) (n:Nat) (f:Nat->E6) (b:Int) (K:Nat) (hK:K<n) (h8:n * 40 <= 140737488355328):∀ (d i:Nat) (j:Nat->V) (q:Nat),n=i+d->d<q ->
  (A4 (Iw L) (N8 n f b) q (Aba n f b (ofNat K) i (Ck (λi=>eV (f ((K+i) % n))) i) j)).sem=some (P8 n f b (ofNat K) n (Ck (λi=>eV (f ((K+i) % n))) n))
 | 0,i,j,q+1,h,_=>by
  have:n=i:=by omega
  subst this;exact Ah (An3 L n f b (ofNat K) n (Ck (λi=>eV (f ((K+i) % n))) n) j (Az (Nat.le_refl _)))
 | d+1,i,j,q+1,h,h2=>by
  have hl:i<n:=by omega
  have h9:(i+1) * 40 <= 140737488355328:=Nat.le_trans (Nat.mul_le_mul_right 40 hl) h8;have ha:C4 i 1 40=true:=decide_eq_true h9;have e1:Av (wr .i64 (Ai (ofNat K) (ofNat i))) (ofNat n)=ofNat ((K+i) % n):=by rw [Gr (by omega),E0]
  have hb:Ak (ile 0 (Av (wr .i64 (Ai (ofNat K) (ofNat i))) (ofNat n))) (ilt (Av (wr .i64 (Ai (ofNat K) (ofNat i))) (ofNat n)) (ofNat n))=true:=by
   rw [e1]; exact Ae (Nat.mod_lt _ (by omega))
  rw [Ah (An2 L n f b (ofNat K) i (Ck (λi=>eV (f ((K+i) % n))) i) j (ofNat_lt hl) (AhP hl) hb ha),AY,A5 hl (by omega),e1,show toN (ofNat ((K+i) % n))=(K+i) % n from rfl];exact Abw L n f b K hK h8 d (i+1) Ab q (by omega) (by omega)
def NC:List V->AA
 | [v,.val (.int .i64 b)]=>apL v λn f=>.br (Dg n) (.leaf (.ref 0,[.row 76 6 n λi=>eV (KP n f b i)])) .fail
 | _=>.fail
theorem Aah (n:Nat) (f:Nat->E6) (b:Int) (g:Nat->V):P5 n f b=Aba n f b (wr .i64 (Ai (Av b (ofNat n)) (ofNat n))) 0 (Ck g 0) (λi=>nth (P5 n f b).t i):=by kernel_rfl
theorem Aag (n:Nat) (f:Nat->E6) (b:Int) (g:Nat->V):P4 n f b=Aba n f b (Av b (ofNat n)) 0 (Ck g 0) (λi=>nth (P4 n f b).t i):=by kernel_rfl
theorem p69:As Tryz.prog Gl 77 NC:=by
 refine Am A0 mixed Tryz.func77 (by kernel_rfl) (by kernel_rfl) λvs v h' h=>?_;unfold NC at h;split at h
 ·rename_i u b
  obtain ⟨n,f,ha,h1⟩:=CG h;obtain ⟨hn,hq⟩:=Ad h1;have:=Aa hq;simp only [Prod.mk.injEq] at this;obtain ⟨rfl,rfl⟩:=this;have h8:n * 40 <= 140737488355328:=of_decide_eq_true hn;have hA:Bw [u,.val (.int .i64 b)] [AN n f,iV b]:=λS w cs hv=>by
   obtain ⟨c,l,rfl,q1,q2⟩:=hv;exact ⟨c,l,rfl,ha S w c q1,q2⟩
  have hx:=Bs C5 [(0,N8 n f b)];have hL:=Bq [(0,N8 n f b)];cases n with
  | zero=>exact ⟨_,AT Gl tb0 [(0,N8 0 f b)],_,hA,rfl,hx.1,hx.2,Amx _ 0 f b rfl,Aw.one λj hj=>absurd hj (Nat.not_lt_zero _)⟩
  | succ m =>
   have hm:m+1 <= 4611686018427387904:=by omega
   have h0:0<m+1:=Nat.succ_pos m;have hz:ieq (ofNat (m+1)) 0=false:=AhP h0;have fin:∀ K,K=ED (m+1) b->Aw [Blk.row 76 6 (m+1) (Ck (λi=>eV (f ((K+i) % (m+1)))) (m+1))] [Blk.row 76 6 (m+1) λi=>eV (KP (m+1) f b i)]:=λK hK=>Aw.one λj hj=>by
    rw [IS _ _ j hj,hK];rfl
   cases hb:ilt (Av b (ofNat (m+1))) 0 with
   | true =>
    obtain ⟨e1,e2⟩:=Zh h0 hm hb;have hr:∀ L,(Cb [(0,N8 (m+1) f b)] 0 (Iw L) (P5 (m+1) f b)).sem=some (P8 (m+1) f b (ofNat (ED (m+1) b)) (m+1) (Ck (λi=>eV (f ((ED (m+1) b+i) % (m+1)))) (m+1))):=λL=>by
     show (A4 (Iw L) (N8 (m+1) f b) (m+2) (P5 (m+1) f b)).sem=_;rw [Aah (m+1) f b (λi=>eV (f ((ED (m+1) b+i) % (m+1)))),e1];exact Abw L (m+1) f b _ e2 h8 (m+1) 0 _ (m+2) (by omega) (by omega)
    exact ⟨_,AT Gl tb0 [(0,N8 (m+1) f b)],_,hA,rfl,hx.1,hx.2,Bp (Bm hL hL) _ (Amz _ _ (m+1) f b _ _ hz hb (AB (hr _))),fin _ rfl⟩
   | false =>
    obtain ⟨e1,e2⟩:=Zg h0 hb;have hr:∀ L,(Cb [(0,N8 (m+1) f b)] 0 (Iw L) (P4 (m+1) f b)).sem=some (P8 (m+1) f b (ofNat (ED (m+1) b)) (m+1) (Ck (λi=>eV (f ((ED (m+1) b+i) % (m+1)))) (m+1))):=λL=>by
     show (A4 (Iw L) (N8 (m+1) f b) (m+2) (P4 (m+1) f b)).sem=_;rw [Aag (m+1) f b (λi=>eV (f ((ED (m+1) b+i) % (m+1)))),e1];exact Abw L (m+1) f b _ e2 h8 (m+1) 0 _ (m+2) (by omega) (by omega)
    exact ⟨_,AT Gl tb0 [(0,N8 (m+1) f b)],_,hA,rfl,hx.1,hx.2,Bp (Bm hL hL) _ (Amy _ _ (m+1) f b _ _ hz hb (AB (hr _))),fin _ rfl⟩
 ·cases h
end Go.Proofs.YtkbafjceglhjhaaGreatDoor.Ed
namespace Go.Proofs.YtkbafjceglhjhaaGreatDoor.Ed
open Go.Sy Go
theorem MB {σ ρ:Type} {g:Nat->σ->T (σ ⊕ ρ)} {fin:σ->ρ} {q:Nat->Bool} {acc:Nat->σ} {x:Nat->ρ} {n:Nat} (hc:∀ i,i<n->q i=false->(g i (acc i)).sem=some (.inl (acc (i+1))))
  (hx:∀ i,i<n->q i=true->(g i (acc i)).sem=some (.inr (x i))):∀ d i,i+d=n->Cm g fin d i (acc i)=some (match AZ q d i with
   | none=>fin (acc n)
   | some t=>x t)
 | 0,i,h=>by rw [<- h]; rfl
 | d+1,i,h=>by
  rw [Cm];cases hq:q i with
  | false =>rw [hc i (by omega) hq,FD hq];exact MB hc hx d (i+1) (by omega)
  | true=>rw [hx i (by omega) hq,FC hq]
def isN (o:Option Nat):Bool:=match o with
 | none=>true
 | some _=>false
def tO (q:Nat->Bool) (n:Nat):Nat:=match AZ q n 0 with
 | some t=>t
 | none=>0
def nO (q:Nat->Bool) (n:Nat):V:=iV (Int.ofNat (tO q n))
section
variable {σ ρ:Type} {g:Nat->σ->T (σ ⊕ ρ)} {fin:σ->ρ} {q:Nat->Bool} {acc:Nat->σ} {x:Nat->ρ} {n:Nat} (hc:∀ i,i<n->q i=false->(g i (acc i)).sem=some (.inl (acc (i+1))))
  (hx:∀ i,i<n->q i=true->(g i (acc i)).sem=some (.inr (x i)))
include hc hx
theorem Py (h:isN (AZ q n 0)=true):Cm g fin n 0 (acc 0)=some (fin (acc n)):=by
 rw [MB hc hx n 0 (Nat.zero_add n)];cases hq:AZ q n 0 with
 | none=>rfl
 | some t=>rw [hq] at h; cases h
theorem Px (h:isN (AZ q n 0)=false):Cm g fin n 0 (acc 0)=some (x (tO q n)):=by
 rw [MB hc hx n 0 (Nat.zero_add n)];unfold tO;cases hq:AZ q n 0 with
 | none=>rw [hq] at h; cases h
 | some t=>rfl
end
end Go.Proofs.YtkbafjceglhjhaaGreatDoor.Ed
