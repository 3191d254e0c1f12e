/-
  The least turned list of edges; a list turned. No conditions.
-/
import Derived.Test.YtjhnfomefcngfaaCyT
namespace Go.Proofs.Ytjhnfomefcngfaa.Ed
open Go.Sy
open Int (ofNat)
theorem Acs {i n:Nat} (h:i < n):ieq (ofNat n) 0 = false:=by rw [show (0:Int) = ofNat 0 from rfl,Dl,decide_eq_false (by omega)]
def DM (n:Nat) (h:Nat->Int) (p i:Nat):Int:=h ((p+i) % n)
def Jx (n:Nat) (h:Nat->Int) (p q:Nat):Prop:=∃ s,s < n ∧ (∀ t,t < s->DM n h p t = DM n h q t) ∧ DM n h p s < DM n h q s
def Ef (n:Nat) (h:Nat->Int) (p:Nat):Prop:=p < n ∧ ∀ q,q < n->¬ Jx n h q p
theorem Fh {n:Nat} {h:Nat->Int} {p:Nat}:¬ Jx n h p p:=by
  rintro ⟨s,_,_,h3⟩
  omega
theorem LV {n:Nat} {h:Nat->Int} {a b c:Nat} (h1:Jx n h a b) (h2:Jx n h b c):Jx n h a c:=by
  obtain ⟨s,s1,s2,s3⟩:=h1
  obtain ⟨r,r1,r2,r3⟩:=h2
  rcases Nat.lt_trichotomy s r with e | e | e
  · exact ⟨s,s1,fun t ht=>(s2 t ht).trans (r2 t (by omega)),by rw [<- r2 s e]; exact s3⟩
  · subst e
    exact ⟨s,s1,fun t ht=>(s2 t ht).trans (r2 t ht),by omega⟩
  · exact ⟨r,r1,fun t ht=>(s2 t (by omega)).trans (r2 t ht),by rw [s2 r e]; exact r3⟩
theorem LW (n:Nat) (h:Nat->Int) (p q:Nat):∀ m,m <= n->(∃ s,s < m ∧ (∀ t,t < s->DM n h p t = DM n h q t) ∧ DM n h p s ≠ DM n h q s) ∨ ∀ t,t < m->DM n h p t = DM n h q t
  | 0,_=>.inr fun t ht=>absurd ht (Nat.not_lt_zero t)
  | m+1,hm=>by
    rcases LW n h p q m (by omega) with ⟨s,h1,h2,h3⟩ | h1
    · exact .inl ⟨s,by omega,h2,h3⟩
    · by_cases e:DM n h p m = DM n h q m
      · refine .inr fun t ht=>?_
        by_cases et:t = m
        · rw [et]; exact e
        · exact h1 t (by omega)
      · exact .inl ⟨m,by omega,h1,e⟩
theorem Sb {n:Nat} {h:Nat->Int} {p q:Nat} (hp:Ef n h p) (hq:Ef n h q):∀ t,t < n->DM n h p t = DM n h q t:=by
  rcases LW n h p q n (Nat.le_refl n) with ⟨s,h1,h2,h3⟩ | h1
  · rcases Int.lt_or_gt_of_ne h3 with e | e
    · exact absurd ⟨s,h1,h2,e⟩ (hq.2 p hp.1)
    · exact absurd ⟨s,h1,fun t ht=>(h2 t ht).symm,e⟩ (hp.2 q hq.1)
  · exact h1
theorem NN (n:Nat) (h:Nat->Int):∀ m,0 < m->∃ p,p < m ∧ ∀ q,q < m->¬ Jx n h q p
  | 0,hm=>absurd hm (Nat.lt_irrefl 0)
  | 1,_=>⟨0,by omega,fun q hq=>by
      have:q = 0:=by omega
      subst this
      exact Fh⟩
  | m+2,_=>by
    obtain ⟨p,h1,h2⟩:=NN n h (m+1) (by omega)
    by_cases e:Jx n h (m+1) p
    · refine ⟨m+1,by omega,fun q hq hl=>?_⟩
      by_cases eq:q = m+1
      · subst eq; exact Fh hl
      · exact h2 q (by omega) (LV hl e)
    · refine ⟨p,by omega,fun q hq hl=>?_⟩
      by_cases eq:q = m+1
      · subst eq; exact e hl
      · exact h2 q (by omega) hl
theorem PX (n:Nat) (h:Nat->Int) (a u:Nat):DM n h (a % n) u = h ((a+u) % n):=by
  unfold DM
  rw [Nat.mod_add_mod]
theorem Rr {n:Nat} {h:Nat->Int} {i j s:Nat} (hs:s < n) (h1:∀ t,t < s->h ((i+t) % n) = h ((j+t) % n)) (h2:h ((j+s) % n) < h ((i+s) % n)):∀ p,i <= p->p <= i+s->¬ Ef n h p:=by
  intro p hp1 hp2 hm
  obtain ⟨hpn,hm⟩:=hm
  refine hm ((j+(p - i)) % n) (Nat.mod_lt _ (by omega)) ⟨s - (p - i),by omega,fun t ht=>?_,?_⟩
  · rw [PX]
    unfold DM
    have:=h1 (p - i+t) (by omega)
    rw [show i+(p - i+t) = p+t by omega,show j+(p - i+t) = j+(p - i)+t by omega] at this
    exact this.symm
  · rw [PX]
    unfold DM
    rw [show j+(p - i)+(s - (p - i)) = j+s by omega,show p+(s - (p - i)) = i+s by omega]
    exact h2
theorem Na {n:Nat} {h:Nat->Int} {lo hi:Nat} (hlt:lo < hi) (h1:∀ u,u < n->h ((hi+u) % n) = h ((lo+u) % n)) (hno:∀ p,p < n->p < hi->p ≠ lo->¬ Ef n h p):∀ m p,p <= m->Ef n h p->Ef n h lo:=by
  intro m
  induction m with
  | zero =>
    intro p hp hm
    by_cases e:p = lo
    · rw [<- e]; exact hm
    · exact absurd hm (hno p hm.1 (by omega) e)
  | succ m ih =>
    intro p hp hm
    by_cases e:p = lo
    · rw [<- e]; exact hm
    · by_cases hph:p < hi
      · exact absurd hm (hno p hm.1 hph e)
      · have hpn:=hm.1
        have hr:∀ u,u < n->DM n h p u = DM n h (p - (hi - lo)) u:=fun u _=>by
          unfold DM
          have:=h1 ((p - hi+u) % n) (Nat.mod_lt _ (by omega))
          rw [Nat.add_mod_mod,Nat.add_mod_mod,show hi+(p - hi+u) = p+u by omega,show lo+(p - hi+u) = p - (hi - lo)+u by omega] at this
          exact this
        refine ih (p - (hi - lo)) (by omega) ⟨by omega,fun q hq hl=>?_⟩
        obtain ⟨s,s1,s2,s3⟩:=hl
        exact hm.2 q hq ⟨s,s1,fun t ht=>(s2 t ht).trans (hr t (by omega)).symm,by rw [hr s s1]; exact s3⟩
theorem TS (n:Nat) (h:Nat->Int) (hn:0 < n):∀ q i t s,i ≠ t->min i t < n->i <= 2 * n->t <= 2 * n+1->s <= n->(∀ u,u < s->h ((i+u) % n) = h ((t+u) % n)) ->
    (∀ p,p < n->p < max i t->p ≠ min i t->¬ Ef n h p)->3 * n+1 - (i+t+s) < q->Ef n h (Eo n h q i t s):=by
  intro q
  obtain ⟨p0,hp0⟩:∃ p,Ef n h p:=by
    obtain ⟨p,h1,h2⟩:=NN n h n hn
    exact ⟨p,h1,h2⟩
  have hp0n:=hp0.1
  induction q with
  | zero=>intro i t s _ _ _ _ _ _ _ hq; exact absurd hq (Nat.not_lt_zero _)
  | succ q ih =>
    intro i t s hne hmin hi ht hs heq hno hq
    unfold Eo
    split
    · rename_i hx
      have hmin0:∀ lo,lo = min i t->Ef n h lo->Ef n h (min (min i t) (n - 1)):=fun lo hlo hm=>by
        rw [show min (min i t) (n - 1) = lo by omega]; exact hm
      by_cases c:n <= i ∨ n <= t
      · refine hmin0 (min i t) rfl ?_
        by_cases e:p0 = min i t
        · rw [<- e]; exact hp0
        · exact absurd hp0 (hno p0 hp0n (by omega) e)
      · refine hmin0 (min i t) rfl ?_
        have hsn:s = n:=by omega
        subst hsn
        by_cases c2:i < t
        · rw [show min i t = i by omega]
          exact Na c2 (fun u hu=>(heq u hu).symm) (fun p hp h1 h2=>hno p hp (by omega) (by omega)) p0 p0 (Nat.le_refl _) hp0
        · rw [show min i t = t by omega]
          exact Na (show t < i by omega) (fun u hu=>heq u hu) (fun p hp h1 h2=>hno p hp (by omega) (by omega)) p0 p0 (Nat.le_refl _) hp0
    · rename_i hx
      split
      · rename_i he
        refine ih i t (s+1) hne hmin hi ht (by omega) (fun u hu=>?_) hno (by omega)
        by_cases eu:u = s
        · rw [eu]; exact he
        · exact heq u (by omega)
      · rename_i he
        split
        · rename_i hg
          have hsk:=Rr (by omega) heq hg
          split
          · rename_i e
            exact ih (i+s+1) (t+1) 0 (by omega) (by omega) (by omega) (by omega) (by omega) (fun u hu=>absurd hu (Nat.not_lt_zero u)) (fun p hp h1 h2=>by
              by_cases hr:i <= p ∧ p <= i+s
              · exact hsk p hr.1 hr.2
              · exact hno p hp (by omega) (by omega)) (by omega)
          · rename_i e
            exact ih (i+s+1) t 0 (by omega) (by omega) (by omega) (by omega) (by omega) (fun u hu=>absurd hu (Nat.not_lt_zero u)) (fun p hp h1 h2=>by
              by_cases hr:i <= p ∧ p <= i+s
              · exact hsk p hr.1 hr.2
              · exact hno p hp (by omega) (by omega)) (by omega)
        · rename_i hg
          have hg2:h ((i+s) % n) < h ((t+s) % n):=by omega
          have hsk:=Rr (by omega) (fun u hu=>(heq u hu).symm) hg2
          split
          · rename_i e
            exact ih i (t+s+2) 0 (by omega) (by omega) (by omega) (by omega) (by omega) (fun u hu=>absurd hu (Nat.not_lt_zero u)) (fun p hp h1 h2=>by
              by_cases hr:t <= p ∧ p <= t+s
              · exact hsk p hr.1 hr.2
              · exact hno p hp (by omega) (by omega)) (by omega)
          · rename_i e
            exact ih i (t+s+1) 0 (by omega) (by omega) (by omega) (by omega) (by omega) (fun u hu=>absurd hu (Nat.not_lt_zero u)) (fun p hp h1 h2=>by
              by_cases hr:t <= p ∧ p <= t+s
              · exact hsk p hr.1 hr.2
              · exact hno p hp (by omega) (by omega)) (by omega)
theorem JC (n:Nat) (h:Nat->Int) (hn:0 < n):Ef n h (BR n h) :=
  TS n h hn _ 0 1 0 (by omega) (by omega) (by omega) (by omega) (by omega) (fun u hu=>absurd hu (Nat.not_lt_zero u)) (fun p _ h1 h2=>by omega) (by omega)
theorem Qo {n:Nat} {h g:Nat->Int} {k:Nat} (hn:0 < n) (hg:∀ i,i < n->g i = h ((k+i) % n)):∀ i,i < n->DM n g (BR n g) i = DM n h (BR n h) i:=by
  have hr:∀ p u,DM n g p u = DM n h ((k+p) % n) u:=fun p u=>by
    rw [PX]
    unfold DM
    rw [hg _ (Nat.mod_lt _ hn),Nat.add_mod_mod,Nat.add_assoc]
  have hm:=JC n g hn
  have hm2:Ef n h ((k+BR n g) % n):=by
    refine ⟨Nat.mod_lt _ hn,fun q hq hl=>?_⟩
    have e:(k+(q+(n - k % n)) % n) % n = q:=by
      rw [Nat.add_mod_mod,<- Nat.mod_add_mod,show k % n+(q+(n - k % n)) = q+n by have:=Nat.mod_lt k hn; omega,Nat.add_mod_right,Nat.mod_eq_of_lt hq]
    refine hm.2 ((q+(n - k % n)) % n) (Nat.mod_lt _ hn) ?_
    obtain ⟨s,s1,s2,s3⟩:=hl
    refine ⟨s,s1,fun t ht=>?_,?_⟩
    · rw [hr,hr,e]; exact s2 t ht
    · rw [hr,hr,e]; exact s3
  intro i hi
  rw [hr]
  exact Sb hm2 (JC n h hn) i hi
def DA (n:Nat) (b:Int):Nat:=toN (sel (ilt (Ad b (ofNat n)) 0) (Ad b (ofNat n)+ofNat n) (Ad b (ofNat n)))
def Js (n:Nat) (f:Nat->E6) (b:Int) (i:Nat):E6:=f ((DA n b+i) % n)
theorem L8 (b:Int) {n:Nat} (h:0 < n):-(n:Int) < Ad b (ofNat n) ∧ Ad b (ofNat n) < (n:Int):=by
  unfold Ad
  have h1:(0:Int) < ofNat n:=by simp only [Int.ofNat_eq_natCast]; omega
  exact ⟨Int.lt_tmod_of_pos b h1,Int.tmod_lt_of_pos b h1⟩
theorem Wa {b:Int} {n:Nat} (h:0 < n) (hn:n <= 4611686018427387904) (hb:ilt (Ad b (ofNat n)) 0 = true):wr .i64 (Ae (Ad b (ofNat n)) (ofNat n)) = ofNat (DA n b) ∧ DA n b < n:=by
  obtain ⟨h1,h2⟩:=L8 b h
  have h3:Ad b (ofNat n) < 0:=by simpa [ilt] using hb
  have h4:DA n b = (Ad b (ofNat n)+(n:Int)).toNat:=by unfold DA; rw [hb]; rfl
  rw [h4]
  generalize Ad b (ofNat n) = r at h1 h2 h3 ⊢
  refine ⟨?_,by omega⟩
  unfold wr Ae IntKind.wrap
  simp [IntKind.bits,IntKind.signed]
  omega
theorem VZ {b:Int} {n:Nat} (h:0 < n) (hb:ilt (Ad b (ofNat n)) 0 = false):Ad b (ofNat n) = ofNat (DA n b) ∧ DA n b < n:=by
  obtain ⟨h1,h2⟩:=L8 b h
  have h3:¬ Ad b (ofNat n) < 0:=by simpa [ilt] using hb
  have h4:DA n b = (Ad b (ofNat n)).toNat:=by unfold DA; rw [hb]; rfl
  rw [h4]
  generalize Ad b (ofNat n) = r at h1 h2 h3 ⊢
  refine ⟨?_,by omega⟩
  simp only [Int.ofNat_eq_natCast]
  omega
theorem Wb {n k:Nat} (h:k < n):DA n (ofNat k) = k:=by
  unfold DA
  rw [Cy,Nat.mod_eq_of_lt h]
  have:ilt (ofNat k) 0 = false:=by simp [ilt]
  rw [this]
  rfl
def Mk (n:Nat) (f:Nat->E6) (b:Int):Lp:=⟨(bmK 39 0 [0,5,6,7,8]),2,bmK 39 0 [5],2,n+1⟩
def XC (n:Nat) (f:Nat->E6) (b:Int) (k:Int) (i:Nat) (x:Nat->V) (j:Nat->V):St:=⟨(jsV 39 0 j [(0,.sl 6 n (fun i=>eV (f i))),(5,.ref 1),(6,nV n),(7,iV k),(8,nV i)]),[.row 44 6 0 (fun _=>.und),.row 44 6 i x]⟩
def K0 (n:Nat) (f:Nat->E6) (b:Int) (k:Int) (i:Nat) (x:Nat->V):Ex × St:=(.ex 0,⟨(jsV 39 0 (fun _=>.und) [(5,.ref 1)]),[.row 44 6 0 (fun _=>.und),.row 44 6 i x]⟩)
noncomputable def F9 (L:LT):St->T (Ex × St):=fun st=>A9 tab ⟨Ao tb0,L,Gl⟩ (Av Try.f21 0) 0 st
section
variable (L:LT) (n:Nat) (f:Nat->E6) (b:Int) (k:Int) (i:Nat) (x:Nat->V)  (j:Nat->V)
include L n f b k i x j
theorem Aid (h0:ilt (ofNat i) (ofNat n) = false):Ai (F9 L) (Mk n f b) (XC n f b k i x j) = some ((.ex 0),⟨(jsV 39 0 (fun _=>.und) [(5,(.ref 1))]),[.row 44 6 0 (fun _=>.und),.row 44 6 i x]⟩):=Aa [false] [ilt (ofNat i) (ofNat n)] (by kernel_rfl) (by simp only [h0] <;> rfl)
theorem Aic (h0:ilt (ofNat i) (ofNat n) = true) (h1:ieq (ofNat n) 0 = false) (h2:Af (ile 0 (Ad (wr .i64 (Ae k (ofNat i))) (ofNat n))) (ilt (Ad (wr .i64 (Ae k (ofNat i))) (ofNat n)) (ofNat n)) = true) (h3:Bj i 1 40 = true):Ai (F9 L) (Mk n f b) (XC n f b k i x j) = some (.nm,⟨(jsV 39 0 (fun _=>.und) [(0,(.sl 6 n (fun i=>eV (f i)))),(5,(.ref 1)),(6,(nV n)),(7,(iV k)),(8,(iV (wr .i64 (Ae (ofNat i) 1))))]),[.row 44 6 0 (fun _=>.und),.row 44 6 (B4 i 1) (AK i x (eV (f (toN (Ad (wr .i64 (Ae k (ofNat i))) (ofNat n))))))]⟩):=Aa [true,false,true,true] [ilt (ofNat i) (ofNat n),ieq (ofNat n) 0,Af (ile 0 (Ad (wr .i64 (Ae k (ofNat i))) (ofNat n))) (ilt (Ad (wr .i64 (Ae k (ofNat i))) (ofNat n)) (ofNat n)),Bj i 1 40] (by kernel_rfl) (by simp only [h2] <;> simp only [*] <;> rfl)
end
theorem Ag5 (L:LT) (n:Nat) (f:Nat->E6) (b:Int) (h0:ieq (ofNat n) 0 = true):(A1 (Al tab ⟨Ao tb0,L,Gl⟩ Try.f21 [A2 n f,iV b] [])).sem = some ((.ref 0),[.row 44 6 0 (fun _=>.und)]):=Aa [true] [ieq (ofNat n) 0] (by kernel_rfl) (by simp only [h0] <;> rfl)
def Lv (n:Nat) (f:Nat->E6) (b:Int) :St:=⟨(jsV 39 0 (fun _=>A7) [(0,(.sl 6 n (fun i=>eV (f i)))),(1,(iV b)),(4,(.ref 0)),(5,(.ref 1)),(6,(nV n)),(7,(iV (wr .i64 (Ae (Ad b (ofNat n)) (ofNat n))))),(8,(iV 0)),(9,(.sl 6 n (fun i=>eV (f i)))),(10,(nV n)),(11,(nV n)),(12,(bV (ieq (ofNat n) 0))),(14,(iV b)),(15,(nV n)),(16,(iV (Ad b (ofNat n)))),(17,(iV (Ad b (ofNat n)))),(18,(bV (ilt (Ad b (ofNat n)) 0))),(19,(iV (Ad b (ofNat n)))),(20,(nV n)),(21,(iV (wr .i64 (Ae (Ad b (ofNat n)) (ofNat n)))))]),[.row 44 6 0 (fun _=>.und),.row 44 6 0 (fun _=>.und)]⟩
def Lu (n:Nat) (f:Nat->E6) (b:Int) :St:=⟨(jsV 39 0 (fun _=>A7) [(0,(.sl 6 n (fun i=>eV (f i)))),(1,(iV b)),(4,(.ref 0)),(5,(.ref 1)),(6,(nV n)),(7,(iV (Ad b (ofNat n)))),(8,(iV 0)),(9,(.sl 6 n (fun i=>eV (f i)))),(10,(nV n)),(11,(nV n)),(12,(bV (ieq (ofNat n) 0))),(14,(iV b)),(15,(nV n)),(16,(iV (Ad b (ofNat n)))),(17,(iV (Ad b (ofNat n)))),(18,(bV (ilt (Ad b (ofNat n)) 0)))]),[.row 44 6 0 (fun _=>.und),.row 44 6 0 (fun _=>.und)]⟩
section
variable (L:LT) (p0:PT) (n:Nat) (f:Nat->E6) (b:Int) (k:Int) (x:Nat->V)
include L p0 n f b k x
theorem Ag7 (h0:ieq (ofNat n) 0 = false) (h1:ilt (Ad b (ofNat n)) 0 = true) (hp0:p0 (F9 (onP 0 p0 (K0 n f b k n x) L)) (Lv n f b) = true):(A1 (Al tab ⟨Ao tb0,onP 0 p0 (K0 n f b k n x) L,Gl⟩ Try.f21 [A2 n f,iV b] [])).sem = some ((.ref 0),[.row 44 6 n x]):=Aa [false,false,true,true] [ieq (ofNat n) 0,ieq (ofNat n) 0,ilt (Ad b (ofNat n)) 0,p0 (F9 (onP 0 p0 (K0 n f b k n x) L)) (Lv n f b)] (by kernel_rfl) (by simp only [hp0] <;> simp only [h0,h1] <;> rfl)
theorem Ag6 (h0:ieq (ofNat n) 0 = false) (h1:ilt (Ad b (ofNat n)) 0 = false) (hp0:p0 (F9 (onP 0 p0 (K0 n f b k n x) L)) (Lu n f b) = true):(A1 (Al tab ⟨Ao tb0,onP 0 p0 (K0 n f b k n x) L,Gl⟩ Try.f21 [A2 n f,iV b] [])).sem = some ((.ref 0),[.row 44 6 n x]):=Aa [false,false,false,true] [ieq (ofNat n) 0,ieq (ofNat n) 0,ilt (Ad b (ofNat n)) 0,p0 (F9 (onP 0 p0 (K0 n f b k n x) L)) (Lu n f b)] (by kernel_rfl) (by simp only [hp0] <;> simp only [h0,h1] <;> rfl)
end
theorem XW (L:LT) (n:Nat) (f:Nat->E6) (b:Int) (K:Nat) (hK:K < n) (h8:n * 40 <= 140737488355328):∀ (d i:Nat) (j:Nat->V) (q:Nat),n = i+d->d < q ->
    (A3 (F9 L) (Mk n f b) q (XC n f b (ofNat K) i (BJ (fun i=>eV (f ((K+i) % n))) i) j)).sem = some (K0 n f b (ofNat K) n (BJ (fun i=>eV (f ((K+i) % n))) n))
  | 0,i,j,q+1,h,_=>by
    have:n = i:=by omega
    subst this
    exact Ab (Aid L n f b (ofNat K) n (BJ (fun i=>eV (f ((K+i) % n))) n) j (A8 (Nat.le_refl _)))
  | d+1,i,j,q+1,h,h2=>by
    have hl:i < n:=by omega
    have h9:(i+1) * 40 <= 140737488355328:=Nat.le_trans (Nat.mul_le_mul_right 40 hl) h8
    have ha:Bj i 1 40 = true:=decide_eq_true h9
    have e1:Ad (wr .i64 (Ae (ofNat K) (ofNat i))) (ofNat n) = ofNat ((K+i) % n):=by rw [D3 (by omega),Cy]
    have hb:Af (ile 0 (Ad (wr .i64 (Ae (ofNat K) (ofNat i))) (ofNat n))) (ilt (Ad (wr .i64 (Ae (ofNat K) (ofNat i))) (ofNat n)) (ofNat n)) = true:=by
      rw [e1]; exact Ay (Nat.mod_lt _ (by omega))
    rw [Ab (Aic L n f b (ofNat K) i (BJ (fun i=>eV (f ((K+i) % n))) i) j (ofNat_lt hl) (Acs hl) hb ha),Aw,Aq hl (by omega),e1,show toN (ofNat ((K+i) % n)) = (K+i) % n from rfl]
    exact XW L n f b K hK h8 d (i+1) (fun _=>.und) q (by omega) (by omega)
def Ml:List V->T (V × List Blk)
  | [v,.val (.int .i64 b)]=>apL v fun n f=>.br (AL n) (.leaf (.ref 0,[.row 44 6 n fun i=>eV (Js n f b i)])) .fail
  | _=>.fail
theorem WJ (n:Nat) (f:Nat->E6) (b:Int) (g:Nat->V):Lv n f b = XC n f b (wr .i64 (Ae (Ad b (ofNat n)) (ofNat n))) 0 (BJ g 0) (fun i=>nth (Lv n f b).t i):=by kernel_rfl
theorem WI (n:Nat) (f:Nat->E6) (b:Int) (g:Nat->V):Lu n f b = XC n f b (Ad b (ofNat n)) 0 (BJ g 0) (fun i=>nth (Lu n f b).t i):=by kernel_rfl
theorem p69:AD Try.prog Gl 21 Ml:=by
  refine A5 AO AP Try.func21 (by kernel_rfl) (by kernel_rfl) fun vs v h' h=>?_
  unfold Ml at h
  split at h
  · rename_i u b
    obtain ⟨n,f,ha,h1⟩:=BU h
    obtain ⟨hn,hq⟩:=Ag h1
    have:=Ac hq
    simp only [Prod.mk.injEq] at this
    obtain ⟨rfl,rfl⟩:=this
    have h8:n * 40 <= 140737488355328:=of_decide_eq_true hn
    have hA:BA [u,.val (.int .i64 b)] [A2 n f,iV b]:=fun S w cs hv=>by
      obtain ⟨c,l,rfl,q1,q2⟩:=hv
      exact ⟨c,l,rfl,ha S w c q1,q2⟩
    have hx:=AQ CU [(0,Mk n f b)]
    have hL:=AC [(0,Mk n f b)]
    cases n with
    | zero=>exact ⟨_,AR Gl tb0 [(0,Mk 0 f b)],_,hA,rfl,hx.1,hx.2,Ag5 _ 0 f b rfl,AB.one fun j hj=>absurd hj (Nat.not_lt_zero _)⟩
    | succ m =>
      have hm:m+1 <= 4611686018427387904:=by omega
      have h0:0 < m+1:=Nat.succ_pos m
      have hz:ieq (ofNat (m+1)) 0 = false:=Acs h0
      have fin:∀ K,K = DA (m+1) b->AB [Blk.row 44 6 (m+1) (BJ (fun i=>eV (f ((K+i) % (m+1)))) (m+1))] [Blk.row 44 6 (m+1) fun i=>eV (Js (m+1) f b i)]:=fun K hK=>AB.one fun j hj=>by
        rw [Ib _ _ j hj,hK]
        rfl
      cases hb:ilt (Ad b (ofNat (m+1))) 0 with
      | true =>
        obtain ⟨e1,e2⟩:=Wa h0 hm hb
        have hr:∀ L,(Bc [(0,Mk (m+1) f b)] 0 (F9 L) (Lv (m+1) f b)).sem = some (K0 (m+1) f b (ofNat (DA (m+1) b)) (m+1) (BJ (fun i=>eV (f ((DA (m+1) b+i) % (m+1)))) (m+1))):=fun L=>by
          show (A3 (F9 L) (Mk (m+1) f b) (m+2) (Lv (m+1) f b)).sem = _
          rw [WJ (m+1) f b (fun i=>eV (f ((DA (m+1) b+i) % (m+1)))),e1]
          exact XW L (m+1) f b _ e2 h8 (m+1) 0 _ (m+2) (by omega) (by omega)
        exact ⟨_,AR Gl tb0 [(0,Mk (m+1) f b)],_,hA,rfl,hx.1,hx.2,A6 (Ax hL hL) _ (Ag7 _ _ (m+1) f b _ _ hz hb (Ak (hr _))),fin _ rfl⟩
      | false =>
        obtain ⟨e1,e2⟩:=VZ h0 hb
        have hr:∀ L,(Bc [(0,Mk (m+1) f b)] 0 (F9 L) (Lu (m+1) f b)).sem = some (K0 (m+1) f b (ofNat (DA (m+1) b)) (m+1) (BJ (fun i=>eV (f ((DA (m+1) b+i) % (m+1)))) (m+1))):=fun L=>by
          show (A3 (F9 L) (Mk (m+1) f b) (m+2) (Lu (m+1) f b)).sem = _
          rw [WI (m+1) f b (fun i=>eV (f ((DA (m+1) b+i) % (m+1)))),e1]
          exact XW L (m+1) f b _ e2 h8 (m+1) 0 _ (m+2) (by omega) (by omega)
        exact ⟨_,AR Gl tb0 [(0,Mk (m+1) f b)],_,hA,rfl,hx.1,hx.2,A6 (Ax hL hL) _ (Ag6 _ _ (m+1) f b _ _ hz hb (Ak (hr _))),fin _ rfl⟩
  · cases h
end Go.Proofs.Ytjhnfomefcngfaa.Ed
