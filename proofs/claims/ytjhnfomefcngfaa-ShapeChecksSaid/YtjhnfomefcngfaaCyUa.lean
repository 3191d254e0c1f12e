/-
  The least turned list of edges; a list turned. No conditions.
-/
import Derived.Test.YtjhnfomefcngfaaCyT
namespace Go.Proofs.Ytjhnfomefcngfaa.Ed
open Go.Sy
open Int (ofNat)
theorem Acm {i n:Nat} (h:i < n):ieq (ofNat n) 0 = false:=by rw [show (0:Int) = ofNat 0 from rfl,Dt,decide_eq_false (by omega)]
def EU (n:Nat) (h:Nat->Int) (p i:Nat):Int:=h ((p+i) % n)
def J0 (n:Nat) (h:Nat->Int) (p q:Nat):Prop:=∃ s,s < n ∧ (∀ t,t < s->EU n h p t = EU n h q t) ∧ EU n h p s < EU n h q s
def EJ (n:Nat) (h:Nat->Int) (p:Nat):Prop:=p < n ∧ ∀ q,q < n->¬ J0 n h q p
theorem Fj {n:Nat} {h:Nat->Int} {p:Nat}:¬ J0 n h p p:=by
  rintro ⟨s,_,_,h3⟩
  omega
theorem LZ {n:Nat} {h:Nat->Int} {a b c:Nat} (h1:J0 n h a b) (h2:J0 n h b c):J0 n h a c:=by
  obtain ⟨s,s1,s2,s3⟩:=h1
  obtain ⟨r,r1,r2,r3⟩:=h2
  rcases Nat.lt_trichotomy s r with e | e | e
  · exact ⟨s,s1,fun t ht=>(s2 t ht).trans (r2 t (by omega)),by rw [<- r2 s e]; exact s3⟩
  · subst e
    exact ⟨s,s1,fun t ht=>(s2 t ht).trans (r2 t ht),by omega⟩
  · exact ⟨r,r1,fun t ht=>(s2 t (by omega)).trans (r2 t ht),by rw [s2 r e]; exact r3⟩
theorem Ma (n:Nat) (h:Nat->Int) (p q:Nat):∀ m,m <= n->(∃ s,s < m ∧ (∀ t,t < s->EU n h p t = EU n h q t) ∧ EU n h p s ≠ EU n h q s) ∨ ∀ t,t < m->EU n h p t = EU n h q t
  | 0,_=>.inr fun t ht=>absurd ht (Nat.not_lt_zero t)
  | m+1,hm=>by
    rcases Ma n h p q m (by omega) with ⟨s,h1,h2,h3⟩ | h1
    · exact .inl ⟨s,by omega,h2,h3⟩
    · by_cases e:EU n h p m = EU n h q m
      · refine .inr fun t ht=>?_
        by_cases et:t = m
        · rw [et]; exact e
        · exact h1 t (by omega)
      · exact .inl ⟨m,by omega,h1,e⟩
theorem YH {n:Nat} {h:Nat->Int} {p q:Nat} (hp:EJ n h p) (hq:EJ n h q):∀ t,t < n->EU n h p t = EU n h q t:=by
  rcases Ma n h p q n (Nat.le_refl n) with ⟨s,h1,h2,h3⟩ | h1
  · rcases Int.lt_or_gt_of_ne h3 with e | e
    · exact absurd ⟨s,h1,h2,e⟩ (hq.2 p hp.1)
    · exact absurd ⟨s,h1,fun t ht=>(h2 t ht).symm,e⟩ (hp.2 q hq.1)
  · exact h1
theorem NM (n:Nat) (h:Nat->Int):∀ m,0 < m->∃ p,p < m ∧ ∀ q,q < m->¬ J0 n h q p
  | 0,hm=>absurd hm (Nat.lt_irrefl 0)
  | 1,_=>⟨0,by omega,fun q hq=>by
      have:q = 0:=by omega
      subst this
      exact Fj⟩
  | m+2,_=>by
    obtain ⟨p,h1,h2⟩:=NM n h (m+1) (by omega)
    by_cases e:J0 n h (m+1) p
    · refine ⟨m+1,by omega,fun q hq hl=>?_⟩
      by_cases eq:q = m+1
      · subst eq; exact Fj hl
      · exact h2 q (by omega) (LZ hl e)
    · refine ⟨p,by omega,fun q hq hl=>?_⟩
      by_cases eq:q = m+1
      · subst eq; exact e hl
      · exact h2 q (by omega) hl
theorem UH (n:Nat) (h:Nat->Int) (a u:Nat):EU n h (a % n) u = h ((a+u) % n):=by
  unfold EU
  rw [Nat.mod_add_mod]
theorem Rw {n:Nat} {h:Nat->Int} {i j s:Nat} (hs:s < n) (h1:∀ t,t < s->h ((i+t) % n) = h ((j+t) % n)) (h2:h ((j+s) % n) < h ((i+s) % n)):∀ p,i <= p->p <= i+s->¬ EJ n h p:=by
  intro p hp1 hp2 hm
  obtain ⟨hpn,hm⟩:=hm
  refine hm ((j+(p - i)) % n) (Nat.mod_lt _ (by omega)) ⟨s - (p - i),by omega,fun t ht=>?_,?_⟩
  · rw [UH]
    unfold EU
    have:=h1 (p - i+t) (by omega)
    rw [show i+(p - i+t) = p+t by omega,show j+(p - i+t) = j+(p - i)+t by omega] at this
    exact this.symm
  · rw [UH]
    unfold EU
    rw [show j+(p - i)+(s - (p - i)) = j+s by omega,show p+(s - (p - i)) = i+s by omega]
    exact h2
theorem Nh {n:Nat} {h:Nat->Int} {lo hi:Nat} (hlt:lo < hi) (h1:∀ u,u < n->h ((hi+u) % n) = h ((lo+u) % n)) (hno:∀ p,p < n->p < hi->p ≠ lo->¬ EJ n h p):∀ m p,p <= m->EJ n h p->EJ n h lo:=by
  intro m
  induction m with
  | zero =>
    intro p hp hm
    by_cases e:p = lo
    · rw [<- e]; exact hm
    · exact absurd hm (hno p hm.1 (by omega) e)
  | succ m ih =>
    intro p hp hm
    by_cases e:p = lo
    · rw [<- e]; exact hm
    · by_cases hph:p < hi
      · exact absurd hm (hno p hm.1 hph e)
      · have hpn:=hm.1
        have hr:∀ u,u < n->EU n h p u = EU n h (p - (hi - lo)) u:=fun u _=>by
          unfold EU
          have:=h1 ((p - hi+u) % n) (Nat.mod_lt _ (by omega))
          rw [Nat.add_mod_mod,Nat.add_mod_mod,show hi+(p - hi+u) = p+u by omega,show lo+(p - hi+u) = p - (hi - lo)+u by omega] at this
          exact this
        refine ih (p - (hi - lo)) (by omega) ⟨by omega,fun q hq hl=>?_⟩
        obtain ⟨s,s1,s2,s3⟩:=hl
        exact hm.2 q hq ⟨s,s1,fun t ht=>(s2 t ht).trans (hr t (by omega)).symm,by rw [hr s s1]; exact s3⟩
theorem TP (n:Nat) (h:Nat->Int) (hn:0 < n):∀ q i t s,i ≠ t->min i t < n->i <= 2 * n->t <= 2 * n+1->s <= n->(∀ u,u < s->h ((i+u) % n) = h ((t+u) % n)) ->
    (∀ p,p < n->p < max i t->p ≠ min i t->¬ EJ n h p)->3 * n+1 - (i+t+s) < q->EJ n h (Es n h q i t s):=by
  intro q
  obtain ⟨p0,hp0⟩:∃ p,EJ n h p:=by
    obtain ⟨p,h1,h2⟩:=NM n h n hn
    exact ⟨p,h1,h2⟩
  have hp0n:=hp0.1
  induction q with
  | zero=>intro i t s _ _ _ _ _ _ _ hq; exact absurd hq (Nat.not_lt_zero _)
  | succ q ih =>
    intro i t s hne hmin hi ht hs heq hno hq
    unfold Es
    split
    · rename_i hx
      have hmin0:∀ lo,lo = min i t->EJ n h lo->EJ n h (min (min i t) (n - 1)):=fun lo hlo hm=>by
        rw [show min (min i t) (n - 1) = lo by omega]; exact hm
      by_cases c:n <= i ∨ n <= t
      · refine hmin0 (min i t) rfl ?_
        by_cases e:p0 = min i t
        · rw [<- e]; exact hp0
        · exact absurd hp0 (hno p0 hp0n (by omega) e)
      · refine hmin0 (min i t) rfl ?_
        have hsn:s = n:=by omega
        subst hsn
        by_cases c2:i < t
        · rw [show min i t = i by omega]
          exact Nh c2 (fun u hu=>(heq u hu).symm) (fun p hp h1 h2=>hno p hp (by omega) (by omega)) p0 p0 (Nat.le_refl _) hp0
        · rw [show min i t = t by omega]
          exact Nh (show t < i by omega) (fun u hu=>heq u hu) (fun p hp h1 h2=>hno p hp (by omega) (by omega)) p0 p0 (Nat.le_refl _) hp0
    · rename_i hx
      split
      · rename_i he
        refine ih i t (s+1) hne hmin hi ht (by omega) (fun u hu=>?_) hno (by omega)
        by_cases eu:u = s
        · rw [eu]; exact he
        · exact heq u (by omega)
      · rename_i he
        split
        · rename_i hg
          have hsk:=Rw (by omega) heq hg
          split
          · rename_i e
            exact ih (i+s+1) (t+1) 0 (by omega) (by omega) (by omega) (by omega) (by omega) (fun u hu=>absurd hu (Nat.not_lt_zero u)) (fun p hp h1 h2=>by
              by_cases hr:i <= p ∧ p <= i+s
              · exact hsk p hr.1 hr.2
              · exact hno p hp (by omega) (by omega)) (by omega)
          · rename_i e
            exact ih (i+s+1) t 0 (by omega) (by omega) (by omega) (by omega) (by omega) (fun u hu=>absurd hu (Nat.not_lt_zero u)) (fun p hp h1 h2=>by
              by_cases hr:i <= p ∧ p <= i+s
              · exact hsk p hr.1 hr.2
              · exact hno p hp (by omega) (by omega)) (by omega)
        · rename_i hg
          have hg2:h ((i+s) % n) < h ((t+s) % n):=by omega
          have hsk:=Rw (by omega) (fun u hu=>(heq u hu).symm) hg2
          split
          · rename_i e
            exact ih i (t+s+2) 0 (by omega) (by omega) (by omega) (by omega) (by omega) (fun u hu=>absurd hu (Nat.not_lt_zero u)) (fun p hp h1 h2=>by
              by_cases hr:t <= p ∧ p <= t+s
              · exact hsk p hr.1 hr.2
              · exact hno p hp (by omega) (by omega)) (by omega)
          · rename_i e
            exact ih i (t+s+1) 0 (by omega) (by omega) (by omega) (by omega) (by omega) (fun u hu=>absurd hu (Nat.not_lt_zero u)) (fun p hp h1 h2=>by
              by_cases hr:t <= p ∧ p <= t+s
              · exact hsk p hr.1 hr.2
              · exact hno p hp (by omega) (by omega)) (by omega)
theorem TO (n:Nat) (h:Nat->Int) (hn:0 < n):EJ n h (C1 n h) :=
  TP n h hn _ 0 1 0 (by omega) (by omega) (by omega) (by omega) (by omega) (fun u hu=>absurd hu (Nat.not_lt_zero u)) (fun p _ h1 h2=>by omega) (by omega)
def DK (n:Nat) (b:Int):Nat:=toN (sel (ilt (Ae b (ofNat n)) 0) (Ae b (ofNat n)+ofNat n) (Ae b (ofNat n)))
def Jv (n:Nat) (f:Nat->E6) (b:Int) (i:Nat):E6:=f ((DK n b+i) % n)
theorem LF (b:Int) {n:Nat} (h:0 < n):-(n:Int) < Ae b (ofNat n) ∧ Ae b (ofNat n) < (n:Int):=by
  unfold Ae
  have h1:(0:Int) < ofNat n:=by simp only [Int.ofNat_eq_natCast]; omega
  exact ⟨Int.lt_tmod_of_pos b h1,Int.tmod_lt_of_pos b h1⟩
theorem VP {b:Int} {n:Nat} (h:0 < n) (hn:n <= 4611686018427387904) (hb:ilt (Ae b (ofNat n)) 0 = true):wr .i64 (Af (Ae b (ofNat n)) (ofNat n)) = ofNat (DK n b) ∧ DK n b < n:=by
  obtain ⟨h1,h2⟩:=LF b h
  have h3:Ae b (ofNat n) < 0:=by simpa [ilt] using hb
  have h4:DK n b = (Ae b (ofNat n)+(n:Int)).toNat:=by unfold DK; rw [hb]; rfl
  rw [h4]
  generalize Ae b (ofNat n) = r at h1 h2 h3 ⊢
  refine ⟨?_,by omega⟩
  unfold wr Af IntKind.wrap
  simp [IntKind.bits,IntKind.signed]
  omega
theorem VO {b:Int} {n:Nat} (h:0 < n) (hb:ilt (Ae b (ofNat n)) 0 = false):Ae b (ofNat n) = ofNat (DK n b) ∧ DK n b < n:=by
  obtain ⟨h1,h2⟩:=LF b h
  have h3:¬ Ae b (ofNat n) < 0:=by simpa [ilt] using hb
  have h4:DK n b = (Ae b (ofNat n)).toNat:=by unfold DK; rw [hb]; rfl
  rw [h4]
  generalize Ae b (ofNat n) = r at h1 h2 h3 ⊢
  refine ⟨?_,by omega⟩
  simp only [Int.ofNat_eq_natCast]
  omega
theorem VQ {n k:Nat} (h:k < n):DK n (ofNat k) = k:=by
  unfold DK
  rw [CA,Nat.mod_eq_of_lt h]
  have:ilt (ofNat k) 0 = false:=by simp [ilt]
  rw [this]
  rfl
def Mn (n:Nat) (f:Nat->E6) (b:Int):Lp:=⟨(bmK 39 0 [0,5,6,7,8]),2,bmK 39 0 [5],2,n+1⟩
def Xw (n:Nat) (f:Nat->E6) (b:Int) (k:Int) (i:Nat) (x:Nat->V) (j:Nat->V):St:=⟨(jsV 39 0 j [(0,.sl 6 n (fun i=>eV (f i))),(5,.ref 1),(6,nV n),(7,iV k),(8,nV i)]),[.row 44 6 0 (fun _=>.und),.row 44 6 i x]⟩
def K5 (n:Nat) (f:Nat->E6) (b:Int) (k:Int) (i:Nat) (x:Nat->V):Ex × St:=(.ex 0,⟨(jsV 39 0 (fun _=>.und) [(5,.ref 1)]),[.row 44 6 0 (fun _=>.und),.row 44 6 i x]⟩)
noncomputable def FH (L:LT):St->T (Ex × St):=fun st=>AE tab ⟨Ao tb0,L,Gl⟩ (Az Try.f21 0) 0 st
section
variable (L:LT) (n:Nat) (f:Nat->E6) (b:Int) (k:Int) (i:Nat) (x:Nat->V)  (j:Nat->V)
include L n f b k i x j
theorem Aib (h0:ilt (ofNat i) (ofNat n) = false):Al (FH L) (Mn n f b) (Xw n f b k i x j) = some ((.ex 0),⟨(jsV 39 0 (fun _=>.und) [(5,(.ref 1))]),[.row 44 6 0 (fun _=>.und),.row 44 6 i x]⟩):=Aa [false] [ilt (ofNat i) (ofNat n)] (by kernel_rfl) (by simp only [h0] <;> rfl)
theorem Aia (h0:ilt (ofNat i) (ofNat n) = true) (h1:ieq (ofNat n) 0 = false) (h2:Ag (ile 0 (Ae (wr .i64 (Af k (ofNat i))) (ofNat n))) (ilt (Ae (wr .i64 (Af k (ofNat i))) (ofNat n)) (ofNat n)) = true) (h3:AN i 1 40 = true):Al (FH L) (Mn n f b) (Xw n f b k i x j) = some (.nm,⟨(jsV 39 0 (fun _=>.und) [(0,(.sl 6 n (fun i=>eV (f i)))),(5,(.ref 1)),(6,(nV n)),(7,(iV k)),(8,(iV (wr .i64 (Af (ofNat i) 1))))]),[.row 44 6 0 (fun _=>.und),.row 44 6 (Bj i 1) (AO i x (eV (f (toN (Ae (wr .i64 (Af k (ofNat i))) (ofNat n))))))]⟩):=Aa [true,false,true,true] [ilt (ofNat i) (ofNat n),ieq (ofNat n) 0,Ag (ile 0 (Ae (wr .i64 (Af k (ofNat i))) (ofNat n))) (ilt (Ae (wr .i64 (Af k (ofNat i))) (ofNat n)) (ofNat n)),AN i 1 40] (by kernel_rfl) (by simp only [h2] <;> simp only [*] <;> rfl)
end
theorem Agy (L:LT) (n:Nat) (f:Nat->E6) (b:Int) (h0:ieq (ofNat n) 0 = true):(As (Aj tab ⟨Ao tb0,L,Gl⟩ Try.f21 [A2 n f,iV b] [])).sem = some ((.ref 0),[.row 44 6 0 (fun _=>.und)]):=Aa [true] [ieq (ofNat n) 0] (by kernel_rfl) (by simp only [h0] <;> rfl)
def Lx (n:Nat) (f:Nat->E6) (b:Int) :St:=⟨(jsV 39 0 (fun _=>A8) [(0,(.sl 6 n (fun i=>eV (f i)))),(1,(iV b)),(4,(.ref 0)),(5,(.ref 1)),(6,(nV n)),(7,(iV (wr .i64 (Af (Ae b (ofNat n)) (ofNat n))))),(8,(iV 0)),(9,(.sl 6 n (fun i=>eV (f i)))),(10,(nV n)),(11,(nV n)),(12,(bV (ieq (ofNat n) 0))),(14,(iV b)),(15,(nV n)),(16,(iV (Ae b (ofNat n)))),(17,(iV (Ae b (ofNat n)))),(18,(bV (ilt (Ae b (ofNat n)) 0))),(19,(iV (Ae b (ofNat n)))),(20,(nV n)),(21,(iV (wr .i64 (Af (Ae b (ofNat n)) (ofNat n)))))]),[.row 44 6 0 (fun _=>.und),.row 44 6 0 (fun _=>.und)]⟩
def Lw (n:Nat) (f:Nat->E6) (b:Int) :St:=⟨(jsV 39 0 (fun _=>A8) [(0,(.sl 6 n (fun i=>eV (f i)))),(1,(iV b)),(4,(.ref 0)),(5,(.ref 1)),(6,(nV n)),(7,(iV (Ae b (ofNat n)))),(8,(iV 0)),(9,(.sl 6 n (fun i=>eV (f i)))),(10,(nV n)),(11,(nV n)),(12,(bV (ieq (ofNat n) 0))),(14,(iV b)),(15,(nV n)),(16,(iV (Ae b (ofNat n)))),(17,(iV (Ae b (ofNat n)))),(18,(bV (ilt (Ae b (ofNat n)) 0)))]),[.row 44 6 0 (fun _=>.und),.row 44 6 0 (fun _=>.und)]⟩
section
variable (L:LT) (p0:PT) (n:Nat) (f:Nat->E6) (b:Int) (k:Int) (x:Nat->V)
include L p0 n f b k x
theorem Ag0 (h0:ieq (ofNat n) 0 = false) (h1:ilt (Ae b (ofNat n)) 0 = true) (hp0:p0 (FH (onP 0 p0 (K5 n f b k n x) L)) (Lx n f b) = true):(As (Aj tab ⟨Ao tb0,onP 0 p0 (K5 n f b k n x) L,Gl⟩ Try.f21 [A2 n f,iV b] [])).sem = some ((.ref 0),[.row 44 6 n x]):=Aa [false,false,true,true] [ieq (ofNat n) 0,ieq (ofNat n) 0,ilt (Ae b (ofNat n)) 0,p0 (FH (onP 0 p0 (K5 n f b k n x) L)) (Lx n f b)] (by kernel_rfl) (by simp only [hp0] <;> simp only [h0,h1] <;> rfl)
theorem Agz (h0:ieq (ofNat n) 0 = false) (h1:ilt (Ae b (ofNat n)) 0 = false) (hp0:p0 (FH (onP 0 p0 (K5 n f b k n x) L)) (Lw n f b) = true):(As (Aj tab ⟨Ao tb0,onP 0 p0 (K5 n f b k n x) L,Gl⟩ Try.f21 [A2 n f,iV b] [])).sem = some ((.ref 0),[.row 44 6 n x]):=Aa [false,false,false,true] [ieq (ofNat n) 0,ieq (ofNat n) 0,ilt (Ae b (ofNat n)) 0,p0 (FH (onP 0 p0 (K5 n f b k n x) L)) (Lw n f b)] (by kernel_rfl) (by simp only [hp0] <;> simp only [h0,h1] <;> rfl)
end
theorem XE (L:LT) (n:Nat) (f:Nat->E6) (b:Int) (K:Nat) (hK:K < n) (h8:n * 40 <= 140737488355328):∀ (d i:Nat) (j:Nat->V) (q:Nat),n = i+d->d < q ->
    (A7 (FH L) (Mn n f b) q (Xw n f b (ofNat K) i (BM (fun i=>eV (f ((K+i) % n))) i) j)).sem = some (K5 n f b (ofNat K) n (BM (fun i=>eV (f ((K+i) % n))) n))
  | 0,i,j,q+1,h,_=>by
    have:n = i:=by omega
    subst this
    exact Ac (Aib L n f b (ofNat K) n (BM (fun i=>eV (f ((K+i) % n))) n) j (AA (Nat.le_refl _)))
  | d+1,i,j,q+1,h,h2=>by
    have hl:i < n:=by omega
    have h9:(i+1) * 40 <= 140737488355328:=Nat.le_trans (Nat.mul_le_mul_right 40 hl) h8
    have ha:AN i 1 40 = true:=decide_eq_true h9
    have e1:Ae (wr .i64 (Af (ofNat K) (ofNat i))) (ofNat n) = ofNat ((K+i) % n):=by rw [DD (by omega),CA]
    have hb:Ag (ile 0 (Ae (wr .i64 (Af (ofNat K) (ofNat i))) (ofNat n))) (ilt (Ae (wr .i64 (Af (ofNat K) (ofNat i))) (ofNat n)) (ofNat n)) = true:=by
      rw [e1]; exact Ax (Nat.mod_lt _ (by omega))
    rw [Ac (Aia L n f b (ofNat K) i (BM (fun i=>eV (f ((K+i) % n))) i) j (ofNat_lt hl) (Acm hl) hb ha),Av,Aq hl (by omega),e1,show toN (ofNat ((K+i) % n)) = (K+i) % n from rfl]
    exact XE L n f b K hK h8 d (i+1) (fun _=>.und) q (by omega) (by omega)
def Mo:List V->T (V × List Blk)
  | [v,.val (.int .i64 b)]=>apL v fun n f=>.br (AL n) (.leaf (.ref 0,[.row 44 6 n fun i=>eV (Jv n f b i)])) .fail
  | _=>.fail
theorem WA (n:Nat) (f:Nat->E6) (b:Int) (g:Nat->V):Lx n f b = Xw n f b (wr .i64 (Af (Ae b (ofNat n)) (ofNat n))) 0 (BM g 0) (fun i=>nth (Lx n f b).t i):=by kernel_rfl
theorem W9 (n:Nat) (f:Nat->E6) (b:Int) (g:Nat->V):Lw n f b = Xw n f b (Ae b (ofNat n)) 0 (BM g 0) (fun i=>nth (Lw n f b).t i):=by kernel_rfl
theorem p69:AB Try.prog Gl 21 Mo:=by
  refine A1 AQ AR Try.func21 (by kernel_rfl) (by kernel_rfl) fun vs v h' h=>?_
  unfold Mo at h
  split at h
  · rename_i u b
    obtain ⟨n,f,ha,h1⟩:=Cj h
    obtain ⟨hn,hq⟩:=Ah h1
    have:=Ad hq
    simp only [Prod.mk.injEq] at this
    obtain ⟨rfl,rfl⟩:=this
    have h8:n * 40 <= 140737488355328:=of_decide_eq_true hn
    have hA:Bw [u,.val (.int .i64 b)] [A2 n f,iV b]:=fun S w cs hv=>by
      obtain ⟨c,l,rfl,q1,q2⟩:=hv
      exact ⟨c,l,rfl,ha S w c q1,q2⟩
    have hx:=AP CW [(0,Mn n f b)]
    have hL:=AD [(0,Mn n f b)]
    cases n with
    | zero=>exact ⟨_,AI Gl tb0 [(0,Mn 0 f b)],_,hA,rfl,hx.1,hx.2,Agy _ 0 f b rfl,A6.one fun j hj=>absurd hj (Nat.not_lt_zero _)⟩
    | succ m =>
      have hm:m+1 <= 4611686018427387904:=by omega
      have h0:0 < m+1:=Nat.succ_pos m
      have hz:ieq (ofNat (m+1)) 0 = false:=Acm h0
      have fin:∀ K,K = DK (m+1) b->A6 [Blk.row 44 6 (m+1) (BM (fun i=>eV (f ((K+i) % (m+1)))) (m+1))] [Blk.row 44 6 (m+1) fun i=>eV (Jv (m+1) f b i)]:=fun K hK=>A6.one fun j hj=>by
        rw [Ij _ _ j hj,hK]
        rfl
      cases hb:ilt (Ae b (ofNat (m+1))) 0 with
      | true =>
        obtain ⟨e1,e2⟩:=VP h0 hm hb
        have hr:∀ L,(Bk [(0,Mn (m+1) f b)] 0 (FH L) (Lx (m+1) f b)).sem = some (K5 (m+1) f b (ofNat (DK (m+1) b)) (m+1) (BM (fun i=>eV (f ((DK (m+1) b+i) % (m+1)))) (m+1))):=fun L=>by
          show (A7 (FH L) (Mn (m+1) f b) (m+2) (Lx (m+1) f b)).sem = _
          rw [WA (m+1) f b (fun i=>eV (f ((DK (m+1) b+i) % (m+1)))),e1]
          exact XE L (m+1) f b _ e2 h8 (m+1) 0 _ (m+2) (by omega) (by omega)
        exact ⟨_,AI Gl tb0 [(0,Mn (m+1) f b)],_,hA,rfl,hx.1,hx.2,A3 (Aw hL hL) _ (Ag0 _ _ (m+1) f b _ _ hz hb (An (hr _))),fin _ rfl⟩
      | false =>
        obtain ⟨e1,e2⟩:=VO h0 hb
        have hr:∀ L,(Bk [(0,Mn (m+1) f b)] 0 (FH L) (Lw (m+1) f b)).sem = some (K5 (m+1) f b (ofNat (DK (m+1) b)) (m+1) (BM (fun i=>eV (f ((DK (m+1) b+i) % (m+1)))) (m+1))):=fun L=>by
          show (A7 (FH L) (Mn (m+1) f b) (m+2) (Lw (m+1) f b)).sem = _
          rw [W9 (m+1) f b (fun i=>eV (f ((DK (m+1) b+i) % (m+1)))),e1]
          exact XE L (m+1) f b _ e2 h8 (m+1) 0 _ (m+2) (by omega) (by omega)
        exact ⟨_,AI Gl tb0 [(0,Mn (m+1) f b)],_,hA,rfl,hx.1,hx.2,A3 (Aw hL hL) _ (Agz _ _ (m+1) f b _ _ hz hb (An (hr _))),fin _ rfl⟩
  · cases h
end Go.Proofs.Ytjhnfomefcngfaa.Ed
