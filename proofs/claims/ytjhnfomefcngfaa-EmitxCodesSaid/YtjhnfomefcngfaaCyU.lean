/-
  The law CycleChecks as a function. No conditions.
-/
import Derived.Test.YtjhnfomefcngfaaCyT
import Derived.Test.YtjhnfomefcngfaaCyS
import Derived.Test.YtjhnfomefcngfaaCyUa
namespace Go.Proofs.Ytjhnfomefcngfaa.Ed
open Go.Sy
def CV (a:Int) (n:Nat) (f:Nat->E6):Int:=(R6 a n f).1
def OE (a:Int) (n:Nat) (f:Nat->E6):Int:=(R6 a n f).2
end Go.Proofs.Ytjhnfomefcngfaa.Ed
namespace Go.Proofs.Ytjhnfomefcngfaa.Ed
open Go.Sy
open Int (ofNat)
theorem AcK {K a b:Nat} (c:Nat) (h:a % K = b % K):(a+c) % K = (b+c) % K:=by rw [Nat.add_mod,h,<- Nat.add_mod]
theorem Mo {K a b c:Nat} (hab:a <= b) (h:(a+c) % K = (b+c) % K):a % K = b % K:=by
 have h1:=Nat.sub_mod_eq_zero_of_mod_eq h.symm
 rw [show b+c - (a+c) = b - a by omega] at h1
 have h2:(a+(b - a)) % K = a % K:=by rw [Nat.add_mod,h1,Nat.add_zero,Nat.mod_mod]
 rw [show a+(b - a) = b by omega] at h2
 exact h2.symm
theorem UJ {K a b c:Nat} (h:(a+c) % K = (b+c) % K):a % K = b % K:=by
 rcases Nat.le_total a b with h1 | h1
 ·exact Mo h1 h
 ·exact (Mo h1 h.symm).symm
theorem KO (p:Nat->Bool) (a:Nat):∀ b,Al p (a+b) = Al p a+Al (λi=>p (a+i)) b
 | 0=>rfl
 | b+1=>by
  rw [show a+(b+1) = a+b+1 by omega,Al,Al,KO p a b]
  cases p (a+b) <;> rfl
theorem Qd (p:Nat->Bool) {n k j:Nat} (hk:k < n) (hj:j <= n):Al p k+Al (λi=>p ((k+i) % n)) j = if k+j < n then Al p (k+j) else Al p n+Al p (k+j - n):=by
 split
 ·rename_i h
  rw [KO p k j,Do (q:=λi=>p ((k+i) % n)) (p:=λi=>p (k+i)) j λi hi=>by rw [Nat.mod_eq_of_lt (by omega)]]
 ·rename_i h
  have e:j = (n - k)+(k+j - n):=by omega
  have h1:=KO (λi=>p ((k+i) % n)) (n - k) (k+j - n)
  rw [<- e] at h1
  rw [h1,Do (q:=λi=>p ((k+i) % n)) (p:=λi=>p (k+i)) (n - k) λi hi=>by rw [Nat.mod_eq_of_lt (by omega)],
   Do (q:=λi=>p ((k+(n - k+i)) % n)) (p:=p) (k+j - n) λi hi=>by rw [show k+(n - k+i) = i+n by omega,Nat.add_mod_right,Nat.mod_eq_of_lt (by omega)]]
  have h2:=KO p k (n - k)
  rw [show k+(n - k) = n by omega] at h2
  omega
theorem Ge (p:Nat->Bool) {n k:Nat} (hk:k < n):Al (λi=>p ((k+i) % n)) n = Al p n:=by
 have h:=Qd p hk (Nat.le_refl n)
 rw [if_neg (by omega),show k+n - n = k by omega] at h
 omega
theorem IC (p:Nat->Bool) {n i:Nat} (hi:i < n) (hK:0 < Al p n):A0 p n i = ofNat (Al p i % Al p n):=by
 unfold A0
 rw [decide_eq_true hi]
 have:=Bc p (show i <= n by omega)
 by_cases h:Al p i = Al p n
 ·rw [decide_eq_true h,h,Nat.mod_self]
  rfl
 ·rw [decide_eq_false h,Nat.mod_eq_of_lt (by omega)]
  rfl
theorem SC (p:Nat->Bool) {n k i j:Nat} (hk:k < n) (hK:0 < Al p n) (hi:i < n) (hj:j < n) :
  A0 (λi=>p ((k+i) % n)) n i = A0 (λi=>p ((k+i) % n)) n j ↔ A0 p n ((k+i) % n) = A0 p n ((k+j) % n):=by
 have hn:0 < n:=by omega
 have hT:=Ge p hk
 have key:∀ i,i < n->(Al p k+Al (λi=>p ((k+i) % n)) i) % Al p n = Al p ((k+i) % n) % Al p n:=λi hi=>by
  rw [Qd p hk (Nat.le_of_lt hi)]
  split
  ·rename_i h
   rw [Nat.mod_eq_of_lt h]
  ·rename_i h
   rw [Nat.add_mod_left,show (k+i) % n = k+i - n by rw [show k+i = k+i - n+n by omega,Nat.add_mod_right,Nat.mod_eq_of_lt (by omega)]; omega]
 rw [IC _ hi (by rw [hT]; exact hK),IC _ hj (by rw [hT]; exact hK),IC p (Nat.mod_lt _ hn) hK,IC p (Nat.mod_lt _ hn) hK,hT,<- key i hi,<- key j hj]
 constructor
 ·intro h
  have h:=Int.ofNat.inj h
  have:=AcK (Al p k) h
  rw [Nat.add_comm _ (Al p k),Nat.add_comm _ (Al p k)] at this
  rw [this]
 ·intro h
  have h:=Int.ofNat.inj h
  rw [Nat.add_comm (Al p k),Nat.add_comm (Al p k)] at h
  rw [UJ h]
theorem Gc {q:Nat->Bool}:∀ {d i:Nat},Bd q d i = none ↔ ∀ k,i <= k->k < i+d->q k = false
 | 0,i=>⟨λ_ k h1 h2=>by omega,λ_=>rfl⟩
 | d+1,i=>by
  cases hq:q i with
  | true =>
   rw [BV hq]
   refine ⟨λh=>(by cases h),λh=>?_⟩
   have:=h i (Nat.le_refl i) (by omega)
   rw [hq] at this
   cases this
  | false =>
   rw [B1 hq,Gc]
   refine ⟨λh k h1 h2=>?_,λh k h1 h2=>h k (by omega) (by omega)⟩
   by_cases e:k = i
   ·rw [e]; exact hq
   ·exact h k (by omega) (by omega)
structure IsCycle (a:Int) (n:Nat) (f:Nat->E6):Prop where
 arch:ieq a 1 = true ∨ ieq a 2 = true
 lo:2 <= n
 hi:n <= 16
 legal:∀ i,i < n->C3 a f i = false
 meets:∀ i,i < n->Fl n f i = false
 outer:2 <= Al (λk=>Ax (f k)) n
 moves:2 <= Al (λk=>Aw (f k)) n
 writes:∀ i,i < n->AJ n (A0 (λk=>Aw (f k)) n) (λi=>isW (f i)) 2 i = false
 crowd:∀ i,i < n->AJ n (A0 (λk=>Ax (f k)) n) (λ_=>true) 12 i = false
theorem PZ {n:Nat} {l:Nat->Int} {c:Nat->Bool} {q:Int} (h:(crR n l c q).2 = false):∀ i,i < n->AJ n l c q i = false:=by
 unfold crR at h
 cases hc:Bd (AJ n l c q) n 0 with
 | some t=>rw [hc] at h; cases h
 | none=>exact λi hi=>Gc.1 hc i (Nat.zero_le i) (by omega)
theorem Ek {a:Int} {n:Nat} {f:Nat->E6} (h:ieq (CV a n f) 0 = true):IsCycle a n f:=by
 have h:=BB h
 unfold CV at h
 have ha:ieq a 1 = true ∨ ieq a 2 = true:=by
  cases ca:ieq a 1 with
  | true=>exact .inl rfl
  | false =>
   cases cb:ieq a 2 with
   | true=>exact .inr rfl
   | false =>
    unfold R6 at h
    rw [ca,cb] at h
    cases h
 rw [AdB ha] at h
 unfold JE at h
 cases c1:ilt (ofNat n) 2 with
 | true=>rw [c1] at h; cases h
 | false =>
  cases c2:ilt 16 (ofNat n) with
  | true=>rw [c1,c2] at h; cases h
  | false =>
   rw [c1,c2] at h
   have h:(match D6 a n f,ieq (D6 a n f).1 0 with | r,false=>r | _,true=>Fi n f).1 = 0:=h
   cases c3:ieq (D6 a n f).1 0 with
   | false =>
    rw [c3] at h
    have h:(D6 a n f).1 = 0:=h
    rw [h] at c3
    cases c3
   | true =>
    rw [c3] at h
    have h:(Fi n f).1 = 0:=h
    have c3:=BB c3
    unfold Fi at h
    cases c4:ilt (Im n f) 2 with
    | true=>rw [c4] at h; cases h
    | false =>
     cases c5:ilt (JC n f) 2 with
     | true=>rw [c4,c5] at h; cases h
     | false =>
      rw [c4,c5] at h
      have h:(JD n f).1 = 0:=h
      unfold JD at h
      cases c6:(crR n (A0 (λk=>Aw (f k)) n) (λi=>isW (f i)) 2).2 with
      | true =>
       rw [show crR n (A0 (λk=>Aw (f k)) n) (λi=>isW (f i)) 2 = ((crR n (A0 (λk=>Aw (f k)) n) (λi=>isW (f i)) 2).1,true) from Prod.ext rfl c6] at h
       cases h
      | false =>
       rw [show crR n (A0 (λk=>Aw (f k)) n) (λi=>isW (f i)) 2 = ((crR n (A0 (λk=>Aw (f k)) n) (λi=>isW (f i)) 2).1,false) from Prod.ext rfl c6] at h
       cases c7:(crR n (A0 (λk=>Ax (f k)) n) (λ_=>true) 12).2 with
       | true =>
        rw [show crR n (A0 (λk=>Ax (f k)) n) (λ_=>true) 12 = ((crR n (A0 (λk=>Ax (f k)) n) (λ_=>true) 12).1,true) from Prod.ext rfl c7] at h
        cases h
       | false =>
        have e1:Bd (C3 a f) n 0 = none ∧ Bd (Fl n f) n 0 = none:=by
         unfold D6 at c3
         cases d1:Bd (C3 a f) n 0 with
         | some t =>
          rw [d1] at c3
          cases d2:ieq (DT a (f t)) 0 with
          | true=>simp only [d2] at c3; cases c3
          | false=>simp only [d2] at c3; cases c3
         | none =>
          rw [d1] at c3
          cases d2:Bd (Fl n f) n 0 with
          | some t=>rw [d2] at c3; cases c3
          | none=>exact ⟨rfl,rfl⟩
        rw [show (2:Int) = ofNat 2 from rfl,Cs] at c1
        rw [show (16:Int) = ofNat 16 from rfl,Cs] at c2
        unfold Im at c4
        rw [show (2:Int) = ofNat 2 from rfl,Cs] at c4
        unfold JC at c5
        rw [show (2:Int) = ofNat 2 from rfl,Cs] at c5
        have c1:=of_decide_eq_false c1
        have c2:=of_decide_eq_false c2
        have c4:=of_decide_eq_false c4
        have c5:=of_decide_eq_false c5
        exact ⟨ha,by omega,by omega,λi hi=>Gc.1 e1.1 i (Nat.zero_le i) (by omega),λi hi=>Gc.1 e1.2 i (Nat.zero_le i) (by omega),by omega,by omega,PZ c6,PZ c7⟩
theorem HG (p c:Nat->Bool) {n k:Nat} (hk:k < n) (hK:0 < Al p n) (q:Int) {i:Nat} (hi:i < n) :
  AJ n (A0 (λi=>p ((k+i) % n)) n) (λi=>c ((k+i) % n)) q i = AJ n (A0 p n) c q ((k+i) % n):=by
 unfold AJ Gr
 rw [Do (q:=Cz (A0 (λi=>p ((k+i) % n)) n) (λi=>c ((k+i) % n)) (A0 (λi=>p ((k+i) % n)) n i)) (p:=λj=>Cz (A0 p n) c (A0 p n ((k+i) % n)) ((k+j) % n)) n λj hj=>by
  unfold Cz
  have h1:=SC p hk hK hj hi
  by_cases e:A0 (λi=>p ((k+i) % n)) n j = A0 (λi=>p ((k+i) % n)) n i
  ·rw [e,h1.1 e,CM,CM]
  ·rw [show ieq (A0 (λi=>p ((k+i) % n)) n j) (A0 (λi=>p ((k+i) % n)) n i) = false by simp [ieq,e],show ieq (A0 p n ((k+j) % n)) (A0 p n ((k+i) % n)) = false by
    have:¬ A0 p n ((k+j) % n) = A0 p n ((k+i) % n):=λh=>e (h1.2 h)
    simp [ieq,this]]]
 rw [Ge (Cz (A0 p n) c (A0 p n ((k+i) % n))) hk]
theorem IsCycle.turned {a:Int} {n:Nat} {f:Nat->E6} (h:IsCycle a n f) {k:Nat} (hk:k < n):IsCycle a n λi=>f ((k+i) % n):=by
 have hn:0 < n:=by omega
 have ho:=h.outer
 have hm:=h.moves
 refine ⟨h.arch,h.lo,h.hi,λi hi=>h.legal _ (Nat.mod_lt _ hn),λi hi=>?_,?_,?_,λi hi=>?_,λi hi=>?_⟩
 ·have:=h.meets ((k+i) % n) (Nat.mod_lt _ hn)
  unfold Fl at this ⊢
  rw [Nat.mod_add_mod] at this
  show AG (ieq (f ((k+i) % n)).dst (f ((k+(i+1) % n) % n)).src) = false
  rw [Nat.add_mod_mod,<- Nat.add_assoc]
  exact this
 ·show 2 <= Al (λi=>(λk=>Ax (f k)) ((k+i) % n)) n
  rw [Ge (λk=>Ax (f k)) hk]
  exact ho
 ·show 2 <= Al (λi=>(λk=>Aw (f k)) ((k+i) % n)) n
  rw [Ge (λk=>Aw (f k)) hk]
  exact hm
 ·show AJ n (A0 (λi=>(λk=>Aw (f k)) ((k+i) % n)) n) (λi=>(λk=>isW (f k)) ((k+i) % n)) 2 i = false
  rw [HG (λk=>Aw (f k)) (λk=>isW (f k)) hk (by omega) 2 hi]
  exact h.writes _ (Nat.mod_lt _ hn)
 ·show AJ n (A0 (λi=>(λk=>Ax (f k)) ((k+i) % n)) n) (λi=>(λ_=>true) ((k+i) % n)) 12 i = false
  rw [HG (λk=>Ax (f k)) (λ_=>true) hk (by omega) 12 hi]
  exact h.crowd _ (Nat.mod_lt _ hn)
theorem IsCycle.may {a:Int} {n:Nat} {f:Nat->E6} (h:IsCycle a n f):CJ n f = true:=F4.2 λi hi=>by
 have h1:=h.legal i hi
 unfold C3 at h1
 cases c:ieq (DT a (f i)) 0 with
 | false=>rw [c] at h1; cases h1
 | true =>
  have c:=BB c
  rcases h.arch with ha | ha
  ·rw [BB ha] at c; exact c
  ·rw [BB ha] at c; exact c
end Go.Proofs.Ytjhnfomefcngfaa.Ed
