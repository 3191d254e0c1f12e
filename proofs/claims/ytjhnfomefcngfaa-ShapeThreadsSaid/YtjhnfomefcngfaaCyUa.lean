/-
  The least turned list of edges; a list turned. No conditions.
-/
import Derived.Test.YtjhnfomefcngfaaCyT
namespace Go.Proofs.Ytjhnfomefcngfaa.Ed
open Go.Sy
open Int (ofNat)
def rotH (n:Nat) (h:Nat->Int) (p i:Nat):Int:=h ((p+i) % n)
def lexLt (n:Nat) (h:Nat->Int) (p q:Nat):Prop:=∃ s,s < n ∧ (∀ t,t < s->rotH n h p t = rotH n h q t) ∧ rotH n h p s < rotH n h q s
def isMin (n:Nat) (h:Nat->Int) (p:Nat):Prop:=p < n ∧ ∀ q,q < n->¬ lexLt n h q p
theorem lexLt_irrefl {n:Nat} {h:Nat->Int} {p:Nat}:¬ lexLt n h p p:=by
  rintro ⟨s,_,_,h3⟩
  omega
theorem lexLt_trans {n:Nat} {h:Nat->Int} {a b c:Nat} (h1:lexLt n h a b) (h2:lexLt n h b c):lexLt n h a c:=by
  obtain ⟨s,s1,s2,s3⟩:=h1
  obtain ⟨r,r1,r2,r3⟩:=h2
  rcases Nat.lt_trichotomy s r with e | e | e
  · exact ⟨s,s1,fun t ht=>(s2 t ht).trans (r2 t (by omega)),by rw [<- r2 s e]; exact s3⟩
  · subst e
    exact ⟨s,s1,fun t ht=>(s2 t ht).trans (r2 t ht),by omega⟩
  · exact ⟨r,r1,fun t ht=>(s2 t (by omega)).trans (r2 t ht),by rw [s2 r e]; exact r3⟩
theorem lexLt_total (n:Nat) (h:Nat->Int) (p q:Nat):∀ m,m <= n->(∃ s,s < m ∧ (∀ t,t < s->rotH n h p t = rotH n h q t) ∧ rotH n h p s ≠ rotH n h q s) ∨ ∀ t,t < m->rotH n h p t = rotH n h q t
  | 0,_=>.inr fun t ht=>absurd ht (Nat.not_lt_zero t)
  | m+1,hm=>by
    rcases lexLt_total n h p q m (by omega) with ⟨s,h1,h2,h3⟩ | h1
    · exact .inl ⟨s,by omega,h2,h3⟩
    · by_cases e:rotH n h p m = rotH n h q m
      · refine .inr fun t ht=>?_
        by_cases et:t = m
        · rw [et]; exact e
        · exact h1 t (by omega)
      · exact .inl ⟨m,by omega,h1,e⟩
theorem isMin_eq {n:Nat} {h:Nat->Int} {p q:Nat} (hp:isMin n h p) (hq:isMin n h q):∀ t,t < n->rotH n h p t = rotH n h q t:=by
  rcases lexLt_total n h p q n (Nat.le_refl n) with ⟨s,h1,h2,h3⟩ | h1
  · rcases Int.lt_or_gt_of_ne h3 with e | e
    · exact absurd ⟨s,h1,h2,e⟩ (hq.2 p hp.1)
    · exact absurd ⟨s,h1,fun t ht=>(h2 t ht).symm,e⟩ (hp.2 q hq.1)
  · exact h1
theorem exists_min (n:Nat) (h:Nat->Int):∀ m,0 < m->∃ p,p < m ∧ ∀ q,q < m->¬ lexLt n h q p
  | 0,hm=>absurd hm (Nat.lt_irrefl 0)
  | 1,_=>⟨0,by omega,fun q hq=>by
      have:q = 0:=by omega
      subst this
      exact lexLt_irrefl⟩
  | m+2,_=>by
    obtain ⟨p,h1,h2⟩:=exists_min n h (m+1) (by omega)
    by_cases e:lexLt n h (m+1) p
    · refine ⟨m+1,by omega,fun q hq hl=>?_⟩
      by_cases eq:q = m+1
      · subst eq; exact lexLt_irrefl hl
      · exact h2 q (by omega) (lexLt_trans hl e)
    · refine ⟨p,by omega,fun q hq hl=>?_⟩
      by_cases eq:q = m+1
      · subst eq; exact e hl
      · exact h2 q (by omega) hl
theorem rot_mod (n:Nat) (h:Nat->Int) (a u:Nat):rotH n h (a % n) u = h ((a+u) % n):=by
  unfold rotH
  rw [Nat.mod_add_mod]
theorem skip_not {n:Nat} {h:Nat->Int} {i j s:Nat} (hs:s < n) (h1:∀ t,t < s->h ((i+t) % n) = h ((j+t) % n)) (h2:h ((j+s) % n) < h ((i+s) % n)):∀ p,i <= p->p <= i+s->¬ isMin n h p:=by
  intro p hp1 hp2 hm
  obtain ⟨hpn,hm⟩:=hm
  refine hm ((j+(p - i)) % n) (Nat.mod_lt _ (by omega)) ⟨s - (p - i),by omega,fun t ht=>?_,?_⟩
  · rw [rot_mod]
    unfold rotH
    have:=h1 (p - i+t) (by omega)
    rw [show i+(p - i+t) = p+t by omega,show j+(p - i+t) = j+(p - i)+t by omega] at this
    exact this.symm
  · rw [rot_mod]
    unfold rotH
    rw [show j+(p - i)+(s - (p - i)) = j+s by omega,show p+(s - (p - i)) = i+s by omega]
    exact h2
theorem period_min {n:Nat} {h:Nat->Int} {lo hi:Nat} (hlt:lo < hi) (h1:∀ u,u < n->h ((hi+u) % n) = h ((lo+u) % n)) (hno:∀ p,p < n->p < hi->p ≠ lo->¬ isMin n h p):∀ m p,p <= m->isMin n h p->isMin n h lo:=by
  intro m
  induction m with
  | zero =>
    intro p hp hm
    by_cases e:p = lo
    · rw [<- e]; exact hm
    · exact absurd hm (hno p hm.1 (by omega) e)
  | succ m ih =>
    intro p hp hm
    by_cases e:p = lo
    · rw [<- e]; exact hm
    · by_cases hph:p < hi
      · exact absurd hm (hno p hm.1 hph e)
      · have hpn:=hm.1
        have hr:∀ u,u < n->rotH n h p u = rotH n h (p - (hi - lo)) u:=fun u _=>by
          unfold rotH
          have:=h1 ((p - hi+u) % n) (Nat.mod_lt _ (by omega))
          rw [Nat.add_mod_mod,Nat.add_mod_mod,show hi+(p - hi+u) = p+u by omega,show lo+(p - hi+u) = p - (hi - lo)+u by omega] at this
          exact this
        refine ih (p - (hi - lo)) (by omega) ⟨by omega,fun q hq hl=>?_⟩
        obtain ⟨s,s1,s2,s3⟩:=hl
        exact hm.2 q hq ⟨s,s1,fun t ht=>(s2 t ht).trans (hr t (by omega)).symm,by rw [hr s s1]; exact s3⟩
theorem leastG_min (n:Nat) (h:Nat->Int) (hn:0 < n):∀ q i t s,i ≠ t->min i t < n->i <= 2 * n->t <= 2 * n+1->s <= n->(∀ u,u < s->h ((i+u) % n) = h ((t+u) % n)) ->
    (∀ p,p < n->p < max i t->p ≠ min i t->¬ isMin n h p)->3 * n+1 - (i+t+s) < q->isMin n h (leastG n h q i t s):=by
  intro q
  obtain ⟨p0,hp0⟩:∃ p,isMin n h p:=by
    obtain ⟨p,h1,h2⟩:=exists_min n h n hn
    exact ⟨p,h1,h2⟩
  have hp0n:=hp0.1
  induction q with
  | zero=>intro i t s _ _ _ _ _ _ _ hq; exact absurd hq (Nat.not_lt_zero _)
  | succ q ih =>
    intro i t s hne hmin hi ht hs heq hno hq
    unfold leastG
    split
    · rename_i hx
      have hmin0:∀ lo,lo = min i t->isMin n h lo->isMin n h (min (min i t) (n - 1)):=fun lo hlo hm=>by
        rw [show min (min i t) (n - 1) = lo by omega]; exact hm
      by_cases c:n <= i ∨ n <= t
      · refine hmin0 (min i t) rfl ?_
        by_cases e:p0 = min i t
        · rw [<- e]; exact hp0
        · exact absurd hp0 (hno p0 hp0n (by omega) e)
      · refine hmin0 (min i t) rfl ?_
        have hsn:s = n:=by omega
        subst hsn
        by_cases c2:i < t
        · rw [show min i t = i by omega]
          exact period_min c2 (fun u hu=>(heq u hu).symm) (fun p hp h1 h2=>hno p hp (by omega) (by omega)) p0 p0 (Nat.le_refl _) hp0
        · rw [show min i t = t by omega]
          exact period_min (show t < i by omega) (fun u hu=>heq u hu) (fun p hp h1 h2=>hno p hp (by omega) (by omega)) p0 p0 (Nat.le_refl _) hp0
    · rename_i hx
      split
      · rename_i he
        refine ih i t (s+1) hne hmin hi ht (by omega) (fun u hu=>?_) hno (by omega)
        by_cases eu:u = s
        · rw [eu]; exact he
        · exact heq u (by omega)
      · rename_i he
        split
        · rename_i hg
          have hsk:=skip_not (by omega) heq hg
          split
          · rename_i e
            exact ih (i+s+1) (t+1) 0 (by omega) (by omega) (by omega) (by omega) (by omega) (fun u hu=>absurd hu (Nat.not_lt_zero u)) (fun p hp h1 h2=>by
              by_cases hr:i <= p ∧ p <= i+s
              · exact hsk p hr.1 hr.2
              · exact hno p hp (by omega) (by omega)) (by omega)
          · rename_i e
            exact ih (i+s+1) t 0 (by omega) (by omega) (by omega) (by omega) (by omega) (fun u hu=>absurd hu (Nat.not_lt_zero u)) (fun p hp h1 h2=>by
              by_cases hr:i <= p ∧ p <= i+s
              · exact hsk p hr.1 hr.2
              · exact hno p hp (by omega) (by omega)) (by omega)
        · rename_i hg
          have hg2:h ((i+s) % n) < h ((t+s) % n):=by omega
          have hsk:=skip_not (by omega) (fun u hu=>(heq u hu).symm) hg2
          split
          · rename_i e
            exact ih i (t+s+2) 0 (by omega) (by omega) (by omega) (by omega) (by omega) (fun u hu=>absurd hu (Nat.not_lt_zero u)) (fun p hp h1 h2=>by
              by_cases hr:t <= p ∧ p <= t+s
              · exact hsk p hr.1 hr.2
              · exact hno p hp (by omega) (by omega)) (by omega)
          · rename_i e
            exact ih i (t+s+1) 0 (by omega) (by omega) (by omega) (by omega) (by omega) (fun u hu=>absurd hu (Nat.not_lt_zero u)) (fun p hp h1 h2=>by
              by_cases hr:t <= p ∧ p <= t+s
              · exact hsk p hr.1 hr.2
              · exact hno p hp (by omega) (by omega)) (by omega)
theorem leastN_min (n:Nat) (h:Nat->Int) (hn:0 < n):isMin n h (leastN n h) :=
  leastG_min n h hn _ 0 1 0 (by omega) (by omega) (by omega) (by omega) (by omega) (fun u hu=>absurd hu (Nat.not_lt_zero u)) (fun p _ h1 h2=>by omega) (by omega)
theorem least_turned {n:Nat} {h g:Nat->Int} {k:Nat} (hn:0 < n) (hg:∀ i,i < n->g i = h ((k+i) % n)):∀ i,i < n->rotH n g (leastN n g) i = rotH n h (leastN n h) i:=by
  have hr:∀ p u,rotH n g p u = rotH n h ((k+p) % n) u:=fun p u=>by
    rw [rot_mod]
    unfold rotH
    rw [hg _ (Nat.mod_lt _ hn),Nat.add_mod_mod,Nat.add_assoc]
  have hm:=leastN_min n g hn
  have hm2:isMin n h ((k+leastN n g) % n):=by
    refine ⟨Nat.mod_lt _ hn,fun q hq hl=>?_⟩
    have e:(k+(q+(n - k % n)) % n) % n = q:=by
      rw [Nat.add_mod_mod,<- Nat.mod_add_mod,show k % n+(q+(n - k % n)) = q+n by have:=Nat.mod_lt k hn; omega,Nat.add_mod_right,Nat.mod_eq_of_lt hq]
    refine hm.2 ((q+(n - k % n)) % n) (Nat.mod_lt _ hn) ?_
    obtain ⟨s,s1,s2,s3⟩:=hl
    refine ⟨s,s1,fun t ht=>?_,?_⟩
    · rw [hr,hr,e]; exact s2 t ht
    · rw [hr,hr,e]; exact s3
  intro i hi
  rw [hr]
  exact isMin_eq hm2 (leastN_min n h hn) i hi
def turnK (n:Nat) (b:Int):Nat:=toN (sel (ilt (itmod b (ofNat n)) 0) (itmod b (ofNat n)+ofNat n) (itmod b (ofNat n)))
def turnE (n:Nat) (f:Nat->E6) (b:Int) (i:Nat):E6:=f ((turnK n b+i) % n)
theorem turnK_nat {n k:Nat} (h:k < n):turnK n (ofNat k) = k:=by
  unfold turnK
  rw [mod_nat,Nat.mod_eq_of_lt h]
  have:ilt (ofNat k) 0 = false:=by simp [ilt]
  rw [this]
  rfl
end Go.Proofs.Ytjhnfomefcngfaa.Ed
