/-
  The law CycleChecks as a function. No conditions.
-/
import Derived.Test.YtjhnfomefcngfaaCyT
import Derived.Test.YtjhnfomefcngfaaCyS
import Derived.Test.YtjhnfomefcngfaaCyUa
namespace Go.Proofs.Ytjhnfomefcngfaa.Ed
open Go.Sy
def BR (a:Int) (n:Nat) (f:Nat->E6):Int:=(Pb a n f).1
def LH (a:Int) (n:Nat) (f:Nat->E6):Int:=(Pb a n f).2
end Go.Proofs.Ytjhnfomefcngfaa.Ed
namespace Go.Proofs.Ytjhnfomefcngfaa.Ed
open Go.Sy
open Int (ofNat)
theorem AbA {K a b:Nat} (c:Nat) (h:a % K = b % K):(a+c) % K = (b+c) % K:=by rw [Nat.add_mod,h,<- Nat.add_mod]
theorem Mj {K a b c:Nat} (hab:a <= b) (h:(a+c) % K = (b+c) % K):a % K = b % K:=by
 have h1:=Nat.sub_mod_eq_zero_of_mod_eq h.symm
 rw [show b+c - (a+c) = b - a by omega] at h1
 have h2:(a+(b - a)) % K = a % K:=by rw [Nat.add_mod,h1,Nat.add_zero,Nat.mod_mod]
 rw [show a+(b - a) = b by omega] at h2
 exact h2.symm
theorem Uz {K a b c:Nat} (h:(a+c) % K = (b+c) % K):a % K = b % K:=by
 rcases Nat.le_total a b with h1 | h1
 ·exact Mj h1 h
 ·exact (Mj h1 h.symm).symm
theorem KM (p:Nat->Bool) (a:Nat):∀ b,Aj p (a+b) = Aj p a+Aj (λi=>p (a+i)) b
 | 0=>rfl
 | b+1=>by
  rw [show a+(b+1) = a+b+1 by omega,Aj,Aj,KM p a b]
  cases p (a+b) <;> rfl
theorem PV (p:Nat->Bool) {n k j:Nat} (hk:k < n) (hj:j <= n):Aj p k+Aj (λi=>p ((k+i) % n)) j = if k+j < n then Aj p (k+j) else Aj p n+Aj p (k+j - n):=by
 split
 ·rename_i h
  rw [KM p k j,DL (q:=λi=>p ((k+i) % n)) (p:=λi=>p (k+i)) j λi hi=>by rw [Nat.mod_eq_of_lt (by omega)]]
 ·rename_i h
  have e:j = (n - k)+(k+j - n):=by omega
  have h1:=KM (λi=>p ((k+i) % n)) (n - k) (k+j - n)
  rw [<- e] at h1
  rw [h1,DL (q:=λi=>p ((k+i) % n)) (p:=λi=>p (k+i)) (n - k) λi hi=>by rw [Nat.mod_eq_of_lt (by omega)],
   DL (q:=λi=>p ((k+(n - k+i)) % n)) (p:=p) (k+j - n) λi hi=>by rw [show k+(n - k+i) = i+n by omega,Nat.add_mod_right,Nat.mod_eq_of_lt (by omega)]]
  have h2:=KM p k (n - k)
  rw [show k+(n - k) = n by omega] at h2
  omega
theorem Gy (p:Nat->Bool) {n k:Nat} (hk:k < n):Aj (λi=>p ((k+i) % n)) n = Aj p n:=by
 have h:=PV p hk (Nat.le_refl n)
 rw [if_neg (by omega),show k+n - n = k by omega] at h
 omega
theorem Je (p:Nat->Bool) {n i:Nat} (hi:i < n) (hK:0 < Aj p n):Av p n i = ofNat (Aj p i % Aj p n):=by
 unfold Av
 rw [decide_eq_true hi]
 have:=AZ p (show i <= n by omega)
 by_cases h:Aj p i = Aj p n
 ·rw [decide_eq_true h,h,Nat.mod_self]
  rfl
 ·rw [decide_eq_false h,Nat.mod_eq_of_lt (by omega)]
  rfl
theorem Sq (p:Nat->Bool) {n k i j:Nat} (hk:k < n) (hK:0 < Aj p n) (hi:i < n) (hj:j < n) :
  Av (λi=>p ((k+i) % n)) n i = Av (λi=>p ((k+i) % n)) n j ↔ Av p n ((k+i) % n) = Av p n ((k+j) % n):=by
 have hn:0 < n:=by omega
 have hT:=Gy p hk
 have key:∀ i,i < n->(Aj p k+Aj (λi=>p ((k+i) % n)) i) % Aj p n = Aj p ((k+i) % n) % Aj p n:=λi hi=>by
  rw [PV p hk (Nat.le_of_lt hi)]
  split
  ·rename_i h
   rw [Nat.mod_eq_of_lt h]
  ·rename_i h
   rw [Nat.add_mod_left,show (k+i) % n = k+i - n by rw [show k+i = k+i - n+n by omega,Nat.add_mod_right,Nat.mod_eq_of_lt (by omega)]; omega]
 rw [Je _ hi (by rw [hT]; exact hK),Je _ hj (by rw [hT]; exact hK),Je p (Nat.mod_lt _ hn) hK,Je p (Nat.mod_lt _ hn) hK,hT,<- key i hi,<- key j hj]
 constructor
 ·intro h
  have h:=Int.ofNat.inj h
  have:=AbA (Aj p k) h
  rw [Nat.add_comm _ (Aj p k),Nat.add_comm _ (Aj p k)] at this
  rw [this]
 ·intro h
  have h:=Int.ofNat.inj h
  rw [Nat.add_comm (Aj p k),Nat.add_comm (Aj p k)] at h
  rw [Uz h]
theorem Do {q:Nat->Bool}:∀ {d i:Nat},Be q d i = none ↔ ∀ k,i <= k->k < i+d->q k = false
 | 0,i=>⟨λ_ k h1 h2=>by omega,λ_=>rfl⟩
 | d+1,i=>by
  cases hq:q i with
  | true =>
   rw [BZ hq]
   refine ⟨λh=>(by cases h),λh=>?_⟩
   have:=h i (Nat.le_refl i) (by omega)
   rw [hq] at this
   cases this
  | false =>
   rw [Bz hq,Do]
   refine ⟨λh k h1 h2=>?_,λh k h1 h2=>h k (by omega) (by omega)⟩
   by_cases e:k = i
   ·rw [e]; exact hq
   ·exact h k (by omega) (by omega)
structure IsCycle (a:Int) (n:Nat) (f:Nat->E6):Prop where
 arch:ieq a 1 = true ∨ ieq a 2 = true
 lo:2 <= n
 hi:n <= 16
 legal:∀ i,i < n->C2 a f i = false
 meets:∀ i,i < n->Fr n f i = false
 outer:2 <= Aj (λk=>As (f k)) n
 moves:2 <= Aj (λk=>Ar (f k)) n
 writes:∀ i,i < n->AG n (Av (λk=>Ar (f k)) n) (λi=>isW (f i)) 2 i = false
 crowd:∀ i,i < n->AG n (Av (λk=>As (f k)) n) (λ_=>true) 12 i = false
theorem Ts {n:Nat} {l:Nat->Int} {c:Nat->Bool} {q:Int} (h:∀ i,i < n->AG n l c q i = false):crR n l c q = (0,false):=by
 unfold crR
 rw [Do.2 λk _ h2=>h k (by omega)]
theorem PQ {n:Nat} {l:Nat->Int} {c:Nat->Bool} {q:Int} (h:(crR n l c q).2 = false):∀ i,i < n->AG n l c q i = false:=by
 unfold crR at h
 cases hc:Be (AG n l c q) n 0 with
 | some t=>rw [hc] at h; cases h
 | none=>exact λi hi=>Do.1 hc i (Nat.zero_le i) (by omega)
theorem IsCycle.ok {a:Int} {n:Nat} {f:Nat->E6} (h:IsCycle a n f):Pb a n f = (0,0):=by
 have e1:Dy a n f = (0,0):=by
  unfold Dy
  rw [Do.2 λk _ h2=>h.legal k (by omega)]
  show (match Be (Fr n f) n 0 with | some t=>((41:Int),ofNat t) | none=>(0,0)) = (0,0)
  rw [Do.2 λk _ h2=>h.meets k (by omega)]
 have c1:ilt (ofNat n) 2 = false:=by rw [show (2:Int) = ofNat 2 from rfl,CJ,decide_eq_false (by have:=h.lo; omega)]
 have c2:ilt 16 (ofNat n) = false:=by rw [show (16:Int) = ofNat 16 from rfl,CJ,decide_eq_false (by have:=h.hi; omega)]
 have c3:ilt (El n f) 2 = false:=by unfold El; rw [show (2:Int) = ofNat 2 from rfl,CJ,decide_eq_false (by have:=h.outer; omega)]
 have c4:ilt (Fo n f) 2 = false:=by unfold Fo; rw [show (2:Int) = ofNat 2 from rfl,CJ,decide_eq_false (by have:=h.moves; omega)]
 rw [Wu h.arch]
 unfold J7
 rw [c1,c2,e1]
 show EV n f = (0,0)
 unfold EV
 rw [c3,c4]
 show IH n f = (0,0)
 unfold IH
 rw [Ts h.writes,Ts h.crowd]
theorem E7 {a:Int} {n:Nat} {f:Nat->E6} (h:ieq (BR a n f) 0 = true):IsCycle a n f:=by
 have h:=BF h
 unfold BR at h
 have ha:ieq a 1 = true ∨ ieq a 2 = true:=by
  cases ca:ieq a 1 with
  | true=>exact .inl rfl
  | false =>
   cases cb:ieq a 2 with
   | true=>exact .inr rfl
   | false =>
    unfold Pb at h
    rw [ca,cb] at h
    cases h
 rw [Wu ha] at h
 unfold J7 at h
 cases c1:ilt (ofNat n) 2 with
 | true=>rw [c1] at h; cases h
 | false =>
  cases c2:ilt 16 (ofNat n) with
  | true=>rw [c1,c2] at h; cases h
  | false =>
   rw [c1,c2] at h
   have h:(match Dy a n f,ieq (Dy a n f).1 0 with | r,false=>r | _,true=>EV n f).1 = 0:=h
   cases c3:ieq (Dy a n f).1 0 with
   | false =>
    rw [c3] at h
    have h:(Dy a n f).1 = 0:=h
    rw [h] at c3
    cases c3
   | true =>
    rw [c3] at h
    have h:(EV n f).1 = 0:=h
    have c3:=BF c3
    unfold EV at h
    cases c4:ilt (El n f) 2 with
    | true=>rw [c4] at h; cases h
    | false =>
     cases c5:ilt (Fo n f) 2 with
     | true=>rw [c4,c5] at h; cases h
     | false =>
      rw [c4,c5] at h
      have h:(IH n f).1 = 0:=h
      unfold IH at h
      cases c6:(crR n (Av (λk=>Ar (f k)) n) (λi=>isW (f i)) 2).2 with
      | true =>
       rw [show crR n (Av (λk=>Ar (f k)) n) (λi=>isW (f i)) 2 = ((crR n (Av (λk=>Ar (f k)) n) (λi=>isW (f i)) 2).1,true) from Prod.ext rfl c6] at h
       cases h
      | false =>
       rw [show crR n (Av (λk=>Ar (f k)) n) (λi=>isW (f i)) 2 = ((crR n (Av (λk=>Ar (f k)) n) (λi=>isW (f i)) 2).1,false) from Prod.ext rfl c6] at h
       cases c7:(crR n (Av (λk=>As (f k)) n) (λ_=>true) 12).2 with
       | true =>
        rw [show crR n (Av (λk=>As (f k)) n) (λ_=>true) 12 = ((crR n (Av (λk=>As (f k)) n) (λ_=>true) 12).1,true) from Prod.ext rfl c7] at h
        cases h
       | false =>
        have e1:Be (C2 a f) n 0 = none ∧ Be (Fr n f) n 0 = none:=by
         unfold Dy at c3
         cases d1:Be (C2 a f) n 0 with
         | some t =>
          rw [d1] at c3
          cases d2:ieq (D9 a (f t)) 0 with
          | true=>simp only [d2] at c3; cases c3
          | false=>simp only [d2] at c3; cases c3
         | none =>
          rw [d1] at c3
          cases d2:Be (Fr n f) n 0 with
          | some t=>rw [d2] at c3; cases c3
          | none=>exact ⟨rfl,rfl⟩
        rw [show (2:Int) = ofNat 2 from rfl,CJ] at c1
        rw [show (16:Int) = ofNat 16 from rfl,CJ] at c2
        unfold El at c4
        rw [show (2:Int) = ofNat 2 from rfl,CJ] at c4
        unfold Fo at c5
        rw [show (2:Int) = ofNat 2 from rfl,CJ] at c5
        have c1:=of_decide_eq_false c1
        have c2:=of_decide_eq_false c2
        have c4:=of_decide_eq_false c4
        have c5:=of_decide_eq_false c5
        exact ⟨ha,by omega,by omega,λi hi=>Do.1 e1.1 i (Nat.zero_le i) (by omega),λi hi=>Do.1 e1.2 i (Nat.zero_le i) (by omega),by omega,by omega,PQ c6,PQ c7⟩
theorem Ij (p c:Nat->Bool) {n k:Nat} (hk:k < n) (hK:0 < Aj p n) (q:Int) {i:Nat} (hi:i < n) :
  AG n (Av (λi=>p ((k+i) % n)) n) (λi=>c ((k+i) % n)) q i = AG n (Av p n) c q ((k+i) % n):=by
 unfold AG Em
 rw [DL (q:=Co (Av (λi=>p ((k+i) % n)) n) (λi=>c ((k+i) % n)) (Av (λi=>p ((k+i) % n)) n i)) (p:=λj=>Co (Av p n) c (Av p n ((k+i) % n)) ((k+j) % n)) n λj hj=>by
  unfold Co
  have h1:=Sq p hk hK hj hi
  by_cases e:Av (λi=>p ((k+i) % n)) n j = Av (λi=>p ((k+i) % n)) n i
  ·rw [e,h1.1 e,F4,F4]
  ·rw [show ieq (Av (λi=>p ((k+i) % n)) n j) (Av (λi=>p ((k+i) % n)) n i) = false by simp [ieq,e],show ieq (Av p n ((k+j) % n)) (Av p n ((k+i) % n)) = false by
    have:¬ Av p n ((k+j) % n) = Av p n ((k+i) % n):=λh=>e (h1.2 h)
    simp [ieq,this]]]
 rw [Gy (Co (Av p n) c (Av p n ((k+i) % n))) hk]
theorem IsCycle.turned {a:Int} {n:Nat} {f:Nat->E6} (h:IsCycle a n f) {k:Nat} (hk:k < n):IsCycle a n λi=>f ((k+i) % n):=by
 have hn:0 < n:=by omega
 have ho:=h.outer
 have hm:=h.moves
 refine ⟨h.arch,h.lo,h.hi,λi hi=>h.legal _ (Nat.mod_lt _ hn),λi hi=>?_,?_,?_,λi hi=>?_,λi hi=>?_⟩
 ·have:=h.meets ((k+i) % n) (Nat.mod_lt _ hn)
  unfold Fr at this ⊢
  rw [Nat.mod_add_mod] at this
  show An (ieq (f ((k+i) % n)).dst (f ((k+(i+1) % n) % n)).src) = false
  rw [Nat.add_mod_mod,<- Nat.add_assoc]
  exact this
 ·show 2 <= Aj (λi=>(λk=>As (f k)) ((k+i) % n)) n
  rw [Gy (λk=>As (f k)) hk]
  exact ho
 ·show 2 <= Aj (λi=>(λk=>Ar (f k)) ((k+i) % n)) n
  rw [Gy (λk=>Ar (f k)) hk]
  exact hm
 ·show AG n (Av (λi=>(λk=>Ar (f k)) ((k+i) % n)) n) (λi=>(λk=>isW (f k)) ((k+i) % n)) 2 i = false
  rw [Ij (λk=>Ar (f k)) (λk=>isW (f k)) hk (by omega) 2 hi]
  exact h.writes _ (Nat.mod_lt _ hn)
 ·show AG n (Av (λi=>(λk=>As (f k)) ((k+i) % n)) n) (λi=>(λ_=>true) ((k+i) % n)) 12 i = false
  rw [Ij (λk=>As (f k)) (λ_=>true) hk (by omega) 12 hi]
  exact h.crowd _ (Nat.mod_lt _ hn)
theorem IsCycle.may {a:Int} {n:Nat} {f:Nat->E6} (h:IsCycle a n f):BM n f = true:=D7.2 λi hi=>by
 have h1:=h.legal i hi
 unfold C2 at h1
 cases c:ieq (D9 a (f i)) 0 with
 | false=>rw [c] at h1; cases h1
 | true =>
  have c:=BF c
  rcases h.arch with ha | ha
  ·rw [BF ha] at c; exact c
  ·rw [BF ha] at c; exact c
theorem IsCycle.chk {a:Int} {n:Nat} {f:Nat->E6} (h:IsCycle a n f):ieq (BR a n f) 0 = true ∧ ieq (LH a n f) 0 = true:=by
 unfold BR LH
 rw [h.ok]
 exact ⟨rfl,rfl⟩
theorem Mx {n:Nat} {f:Nat->E6} {k:Nat} (hn:0 < n) (hk:k < n) (hf:BM n f = true) {i:Nat} (hi:i < n):Bk n (λi=>f ((k+i) % n)) i = Bk n f i:=by
 have hg:BM n (λi=>f ((k+i) % n)) = true:=D7.2 λi _=>D7.1 hf _ (Nat.mod_lt _ hn)
 have h:=QM (n:=n) (h:=λi=>Bw (f i)) (g:=λi=>Bw (f ((k+i) % n))) (k:=k) hn (λi _=>rfl) i hi
 exact Wv (Tw hg hi) (Tw hf hi) h
theorem Aah {n:Nat} {f:Nat->E6} (hn:0 < n) (hf:BM n f = true) {i:Nat} (hi:i < n):Bk n (λi=>Bk n f i) i = Bk n f i:=by
 have hl:=Jo n (λi=>Bw (f i))
 exact Mx (k:=BX n (λi=>Bw (f i))) hn (by omega) hf hi
end Go.Proofs.Ytjhnfomefcngfaa.Ed
