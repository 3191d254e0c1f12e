/-
  The law CycleChecks as a function. No conditions.
-/
import Derived.Test.YtjhnfomefcngfaaCyT
import Derived.Test.YtjhnfomefcngfaaCyS
import Derived.Test.YtjhnfomefcngfaaCyUa
namespace Go.Proofs.Ytjhnfomefcngfaa.Ed
open Go.Sy
def BS (a:Int) (n:Nat) (f:Nat->E6):Int:=(OX a n f).1
def LL (a:Int) (n:Nat) (f:Nat->E6):Int:=(OX a n f).2
end Go.Proofs.Ytjhnfomefcngfaa.Ed
namespace Go.Proofs.Ytjhnfomefcngfaa.Ed
open Go.Sy
open Int (ofNat)
theorem Ab5 {K a b:Nat} (c:Nat) (h:a % K = b % K):(a+c) % K = (b+c) % K:=by rw [Nat.add_mod,h,<- Nat.add_mod]
theorem Ml {K a b c:Nat} (hab:a <= b) (h:(a+c) % K = (b+c) % K):a % K = b % K:=by
 have h1:=Nat.sub_mod_eq_zero_of_mod_eq h.symm
 rw [show b+c - (a+c) = b - a by omega] at h1
 have h2:(a+(b - a)) % K = a % K:=by rw [Nat.add_mod,h1,Nat.add_zero,Nat.mod_mod]
 rw [show a+(b - a) = b by omega] at h2
 exact h2.symm
theorem Us {K a b c:Nat} (h:(a+c) % K = (b+c) % K):a % K = b % K:=by
 rcases Nat.le_total a b with h1 | h1
 ·exact Ml h1 h
 ·exact (Ml h1 h.symm).symm
theorem KN (p:Nat->Bool) (a:Nat):∀ b,Ak p (a+b) = Ak p a+Ak (λi=>p (a+i)) b
 | 0=>rfl
 | b+1=>by
  rw [show a+(b+1) = a+b+1 by omega,Ak,Ak,KN p a b]
  cases p (a+b) <;> rfl
theorem PQ (p:Nat->Bool) {n k j:Nat} (hk:k < n) (hj:j <= n):Ak p k+Ak (λi=>p ((k+i) % n)) j = if k+j < n then Ak p (k+j) else Ak p n+Ak p (k+j - n):=by
 split
 ·rename_i h
  rw [KN p k j,DN (q:=λi=>p ((k+i) % n)) (p:=λi=>p (k+i)) j λi hi=>by rw [Nat.mod_eq_of_lt (by omega)]]
 ·rename_i h
  have e:j = (n - k)+(k+j - n):=by omega
  have h1:=KN (λi=>p ((k+i) % n)) (n - k) (k+j - n)
  rw [<- e] at h1
  rw [h1,DN (q:=λi=>p ((k+i) % n)) (p:=λi=>p (k+i)) (n - k) λi hi=>by rw [Nat.mod_eq_of_lt (by omega)],
   DN (q:=λi=>p ((k+(n - k+i)) % n)) (p:=p) (k+j - n) λi hi=>by rw [show k+(n - k+i) = i+n by omega,Nat.add_mod_right,Nat.mod_eq_of_lt (by omega)]]
  have h2:=KN p k (n - k)
  rw [show k+(n - k) = n by omega] at h2
  omega
theorem Gx (p:Nat->Bool) {n k:Nat} (hk:k < n):Ak (λi=>p ((k+i) % n)) n = Ak p n:=by
 have h:=PQ p hk (Nat.le_refl n)
 rw [if_neg (by omega),show k+n - n = k by omega] at h
 omega
theorem Jf (p:Nat->Bool) {n i:Nat} (hi:i < n) (hK:0 < Ak p n):Av p n i = ofNat (Ak p i % Ak p n):=by
 unfold Av
 rw [decide_eq_true hi]
 have:=AX p (show i <= n by omega)
 by_cases h:Ak p i = Ak p n
 ·rw [decide_eq_true h,h,Nat.mod_self]
  rfl
 ·rw [decide_eq_false h,Nat.mod_eq_of_lt (by omega)]
  rfl
theorem Sm (p:Nat->Bool) {n k i j:Nat} (hk:k < n) (hK:0 < Ak p n) (hi:i < n) (hj:j < n) :
  Av (λi=>p ((k+i) % n)) n i = Av (λi=>p ((k+i) % n)) n j ↔ Av p n ((k+i) % n) = Av p n ((k+j) % n):=by
 have hn:0 < n:=by omega
 have hT:=Gx p hk
 have key:∀ i,i < n->(Ak p k+Ak (λi=>p ((k+i) % n)) i) % Ak p n = Ak p ((k+i) % n) % Ak p n:=λi hi=>by
  rw [PQ p hk (Nat.le_of_lt hi)]
  split
  ·rename_i h
   rw [Nat.mod_eq_of_lt h]
  ·rename_i h
   rw [Nat.add_mod_left,show (k+i) % n = k+i - n by rw [show k+i = k+i - n+n by omega,Nat.add_mod_right,Nat.mod_eq_of_lt (by omega)]; omega]
 rw [Jf _ hi (by rw [hT]; exact hK),Jf _ hj (by rw [hT]; exact hK),Jf p (Nat.mod_lt _ hn) hK,Jf p (Nat.mod_lt _ hn) hK,hT,<- key i hi,<- key j hj]
 constructor
 ·intro h
  have h:=Int.ofNat.inj h
  have:=Ab5 (Ak p k) h
  rw [Nat.add_comm _ (Ak p k),Nat.add_comm _ (Ak p k)] at this
  rw [this]
 ·intro h
  have h:=Int.ofNat.inj h
  rw [Nat.add_comm (Ak p k),Nat.add_comm (Ak p k)] at h
  rw [Us h]
theorem Ds {q:Nat->Bool}:∀ {d i:Nat},Bc q d i = none ↔ ∀ k,i <= k->k < i+d->q k = false
 | 0,i=>⟨λ_ k h1 h2=>by omega,λ_=>rfl⟩
 | d+1,i=>by
  cases hq:q i with
  | true =>
   rw [Cb hq]
   refine ⟨λh=>(by cases h),λh=>?_⟩
   have:=h i (Nat.le_refl i) (by omega)
   rw [hq] at this
   cases this
  | false =>
   rw [B1 hq,Ds]
   refine ⟨λh k h1 h2=>?_,λh k h1 h2=>h k (by omega) (by omega)⟩
   by_cases e:k = i
   ·rw [e]; exact hq
   ·exact h k (by omega) (by omega)
structure IsCycle (a:Int) (n:Nat) (f:Nat->E6):Prop where
 arch:ieq a 1 = true ∨ ieq a 2 = true
 lo:2 <= n
 hi:n <= 16
 legal:∀ i,i < n->C6 a f i = false
 meets:∀ i,i < n->Fq n f i = false
 outer:2 <= Ak (λk=>As (f k)) n
 moves:2 <= Ak (λk=>Ar (f k)) n
 writes:∀ i,i < n->AH n (Av (λk=>Ar (f k)) n) (λi=>isW (f i)) 2 i = false
 crowd:∀ i,i < n->AH n (Av (λk=>As (f k)) n) (λ_=>true) 12 i = false
theorem To {n:Nat} {l:Nat->Int} {c:Nat->Bool} {q:Int} (h:∀ i,i < n->AH n l c q i = false):crR n l c q = (0,false):=by
 unfold crR
 rw [Ds.2 λk _ h2=>h k (by omega)]
theorem PM {n:Nat} {l:Nat->Int} {c:Nat->Bool} {q:Int} (h:(crR n l c q).2 = false):∀ i,i < n->AH n l c q i = false:=by
 unfold crR at h
 cases hc:Bc (AH n l c q) n 0 with
 | some t=>rw [hc] at h; cases h
 | none=>exact λi hi=>Ds.1 hc i (Nat.zero_le i) (by omega)
theorem IsCycle.ok {a:Int} {n:Nat} {f:Nat->E6} (h:IsCycle a n f):OX a n f = (0,0):=by
 have e1:D2 a n f = (0,0):=by
  unfold D2
  rw [Ds.2 λk _ h2=>h.legal k (by omega)]
  show (match Bc (Fq n f) n 0 with | some t=>((41:Int),ofNat t) | none=>(0,0)) = (0,0)
  rw [Ds.2 λk _ h2=>h.meets k (by omega)]
 have c1:ilt (ofNat n) 2 = false:=by rw [show (2:Int) = ofNat 2 from rfl,CN,decide_eq_false (by have:=h.lo; omega)]
 have c2:ilt 16 (ofNat n) = false:=by rw [show (16:Int) = ofNat 16 from rfl,CN,decide_eq_false (by have:=h.hi; omega)]
 have c3:ilt (En n f) 2 = false:=by unfold En; rw [show (2:Int) = ofNat 2 from rfl,CN,decide_eq_false (by have:=h.outer; omega)]
 have c4:ilt (Fn n f) 2 = false:=by unfold Fn; rw [show (2:Int) = ofNat 2 from rfl,CN,decide_eq_false (by have:=h.moves; omega)]
 rw [Wl h.arch]
 unfold J9
 rw [c1,c2,e1]
 show EX n f = (0,0)
 unfold EX
 rw [c3,c4]
 show II n f = (0,0)
 unfold II
 rw [To h.writes,To h.crowd]
theorem E9 {a:Int} {n:Nat} {f:Nat->E6} (h:ieq (BS a n f) 0 = true):IsCycle a n f:=by
 have h:=CZ h
 unfold BS at h
 have ha:ieq a 1 = true ∨ ieq a 2 = true:=by
  cases ca:ieq a 1 with
  | true=>exact .inl rfl
  | false =>
   cases cb:ieq a 2 with
   | true=>exact .inr rfl
   | false =>
    unfold OX at h
    rw [ca,cb] at h
    cases h
 rw [Wl ha] at h
 unfold J9 at h
 cases c1:ilt (ofNat n) 2 with
 | true=>rw [c1] at h; cases h
 | false =>
  cases c2:ilt 16 (ofNat n) with
  | true=>rw [c1,c2] at h; cases h
  | false =>
   rw [c1,c2] at h
   have h:(match D2 a n f,ieq (D2 a n f).1 0 with | r,false=>r | _,true=>EX n f).1 = 0:=h
   cases c3:ieq (D2 a n f).1 0 with
   | false =>
    rw [c3] at h
    have h:(D2 a n f).1 = 0:=h
    rw [h] at c3
    cases c3
   | true =>
    rw [c3] at h
    have h:(EX n f).1 = 0:=h
    have c3:=CZ c3
    unfold EX at h
    cases c4:ilt (En n f) 2 with
    | true=>rw [c4] at h; cases h
    | false =>
     cases c5:ilt (Fn n f) 2 with
     | true=>rw [c4,c5] at h; cases h
     | false =>
      rw [c4,c5] at h
      have h:(II n f).1 = 0:=h
      unfold II at h
      cases c6:(crR n (Av (λk=>Ar (f k)) n) (λi=>isW (f i)) 2).2 with
      | true =>
       rw [show crR n (Av (λk=>Ar (f k)) n) (λi=>isW (f i)) 2 = ((crR n (Av (λk=>Ar (f k)) n) (λi=>isW (f i)) 2).1,true) from Prod.ext rfl c6] at h
       cases h
      | false =>
       rw [show crR n (Av (λk=>Ar (f k)) n) (λi=>isW (f i)) 2 = ((crR n (Av (λk=>Ar (f k)) n) (λi=>isW (f i)) 2).1,false) from Prod.ext rfl c6] at h
       cases c7:(crR n (Av (λk=>As (f k)) n) (λ_=>true) 12).2 with
       | true =>
        rw [show crR n (Av (λk=>As (f k)) n) (λ_=>true) 12 = ((crR n (Av (λk=>As (f k)) n) (λ_=>true) 12).1,true) from Prod.ext rfl c7] at h
        cases h
       | false =>
        have e1:Bc (C6 a f) n 0 = none ∧ Bc (Fq n f) n 0 = none:=by
         unfold D2 at c3
         cases d1:Bc (C6 a f) n 0 with
         | some t =>
          rw [d1] at c3
          cases d2:ieq (DC a (f t)) 0 with
          | true=>simp only [d2] at c3; cases c3
          | false=>simp only [d2] at c3; cases c3
         | none =>
          rw [d1] at c3
          cases d2:Bc (Fq n f) n 0 with
          | some t=>rw [d2] at c3; cases c3
          | none=>exact ⟨rfl,rfl⟩
        rw [show (2:Int) = ofNat 2 from rfl,CN] at c1
        rw [show (16:Int) = ofNat 16 from rfl,CN] at c2
        unfold En at c4
        rw [show (2:Int) = ofNat 2 from rfl,CN] at c4
        unfold Fn at c5
        rw [show (2:Int) = ofNat 2 from rfl,CN] at c5
        have c1:=of_decide_eq_false c1
        have c2:=of_decide_eq_false c2
        have c4:=of_decide_eq_false c4
        have c5:=of_decide_eq_false c5
        exact ⟨ha,by omega,by omega,λi hi=>Ds.1 e1.1 i (Nat.zero_le i) (by omega),λi hi=>Ds.1 e1.2 i (Nat.zero_le i) (by omega),by omega,by omega,PM c6,PM c7⟩
theorem Ij (p c:Nat->Bool) {n k:Nat} (hk:k < n) (hK:0 < Ak p n) (q:Int) {i:Nat} (hi:i < n) :
  AH n (Av (λi=>p ((k+i) % n)) n) (λi=>c ((k+i) % n)) q i = AH n (Av p n) c q ((k+i) % n):=by
 unfold AH Eo
 rw [DN (q:=Cq (Av (λi=>p ((k+i) % n)) n) (λi=>c ((k+i) % n)) (Av (λi=>p ((k+i) % n)) n i)) (p:=λj=>Cq (Av p n) c (Av p n ((k+i) % n)) ((k+j) % n)) n λj hj=>by
  unfold Cq
  have h1:=Sm p hk hK hj hi
  by_cases e:Av (λi=>p ((k+i) % n)) n j = Av (λi=>p ((k+i) % n)) n i
  ·rw [e,h1.1 e,Gr,Gr]
  ·rw [show ieq (Av (λi=>p ((k+i) % n)) n j) (Av (λi=>p ((k+i) % n)) n i) = false by simp [ieq,e],show ieq (Av p n ((k+j) % n)) (Av p n ((k+i) % n)) = false by
    have:¬ Av p n ((k+j) % n) = Av p n ((k+i) % n):=λh=>e (h1.2 h)
    simp [ieq,this]]]
 rw [Gx (Cq (Av p n) c (Av p n ((k+i) % n))) hk]
theorem IsCycle.turned {a:Int} {n:Nat} {f:Nat->E6} (h:IsCycle a n f) {k:Nat} (hk:k < n):IsCycle a n λi=>f ((k+i) % n):=by
 have hn:0 < n:=by omega
 have ho:=h.outer
 have hm:=h.moves
 refine ⟨h.arch,h.lo,h.hi,λi hi=>h.legal _ (Nat.mod_lt _ hn),λi hi=>?_,?_,?_,λi hi=>?_,λi hi=>?_⟩
 ·have:=h.meets ((k+i) % n) (Nat.mod_lt _ hn)
  unfold Fq at this ⊢
  rw [Nat.mod_add_mod] at this
  show Ah (ieq (f ((k+i) % n)).dst (f ((k+(i+1) % n) % n)).src) = false
  rw [Nat.add_mod_mod,<- Nat.add_assoc]
  exact this
 ·show 2 <= Ak (λi=>(λk=>As (f k)) ((k+i) % n)) n
  rw [Gx (λk=>As (f k)) hk]
  exact ho
 ·show 2 <= Ak (λi=>(λk=>Ar (f k)) ((k+i) % n)) n
  rw [Gx (λk=>Ar (f k)) hk]
  exact hm
 ·show AH n (Av (λi=>(λk=>Ar (f k)) ((k+i) % n)) n) (λi=>(λk=>isW (f k)) ((k+i) % n)) 2 i = false
  rw [Ij (λk=>Ar (f k)) (λk=>isW (f k)) hk (by omega) 2 hi]
  exact h.writes _ (Nat.mod_lt _ hn)
 ·show AH n (Av (λi=>(λk=>As (f k)) ((k+i) % n)) n) (λi=>(λ_=>true) ((k+i) % n)) 12 i = false
  rw [Ij (λk=>As (f k)) (λ_=>true) hk (by omega) 12 hi]
  exact h.crowd _ (Nat.mod_lt _ hn)
theorem IsCycle.may {a:Int} {n:Nat} {f:Nat->E6} (h:IsCycle a n f):BN n f = true:=DA.2 λi hi=>by
 have h1:=h.legal i hi
 unfold C6 at h1
 cases c:ieq (DC a (f i)) 0 with
 | false=>rw [c] at h1; cases h1
 | true =>
  have c:=CZ c
  rcases h.arch with ha | ha
  ·rw [CZ ha] at c; exact c
  ·rw [CZ ha] at c; exact c
theorem IsCycle.chk {a:Int} {n:Nat} {f:Nat->E6} (h:IsCycle a n f):ieq (BS a n f) 0 = true ∧ ieq (LL a n f) 0 = true:=by
 unfold BS LL
 rw [h.ok]
 exact ⟨rfl,rfl⟩
theorem Mz {n:Nat} {f:Nat->E6} {k:Nat} (hn:0 < n) (hk:k < n) (hf:BN n f = true) {i:Nat} (hi:i < n):Bl n (λi=>f ((k+i) % n)) i = Bl n f i:=by
 have hg:BN n (λi=>f ((k+i) % n)) = true:=DA.2 λi _=>DA.1 hf _ (Nat.mod_lt _ hn)
 have h:=QH (n:=n) (h:=λi=>Bx (f i)) (g:=λi=>Bx (f ((k+i) % n))) (k:=k) hn (λi _=>rfl) i hi
 exact Wm (Ts hg hi) (Ts hf hi) h
theorem Aac {n:Nat} {f:Nat->E6} (hn:0 < n) (hf:BN n f = true) {i:Nat} (hi:i < n):Bl n (λi=>Bl n f i) i = Bl n f i:=by
 have hl:=Jp n (λi=>Bx (f i))
 exact Mz (k:=BZ n (λi=>Bx (f i))) hn (by omega) hf hi
end Go.Proofs.Ytjhnfomefcngfaa.Ed
