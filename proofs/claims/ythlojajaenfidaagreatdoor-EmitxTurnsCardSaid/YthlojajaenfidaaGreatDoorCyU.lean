/-
  The law CycleChecks as a function. No conditions.
-/
import Derived.Test.YthlojajaenfidaaGreatDoorCyT
import Derived.Test.YthlojajaenfidaaGreatDoorCyS
import Derived.Test.YthlojajaenfidaaGreatDoorCyUa
namespace Go.Proofs.YthlojajaenfidaaGreatDoor.Ed
open Go.Sy
def BN (a:Int) (n:Nat) (f:Nat->E6):Int:=(Pb a n f).1
def KT (a:Int) (n:Nat) (f:Nat->E6):Int:=(Pb a n f).2
end Go.Proofs.YthlojajaenfidaaGreatDoor.Ed
namespace Go.Proofs.YthlojajaenfidaaGreatDoor.Ed
open Go.Sy
open Int (ofNat)
theorem Adm {K a b:Nat} (c:Nat) (h:a % K = b % K):(a+c) % K = (b+c) % K:=by rw [Nat.add_mod,h,<- Nat.add_mod]
theorem Mq {K a b c:Nat} (hab:a <= b) (h:(a+c) % K = (b+c) % K):a % K = b % K:=by
 have h1:=Nat.sub_mod_eq_zero_of_mod_eq h.symm
 rw [show b+c - (a+c) = b - a by omega] at h1
 have h2:(a+(b - a)) % K = a % K:=by rw [Nat.add_mod,h1,Nat.add_zero,Nat.mod_mod]
 rw [show a+(b - a) = b by omega] at h2
 exact h2.symm
theorem UY {K a b c:Nat} (h:(a+c) % K = (b+c) % K):a % K = b % K:=by
 rcases Nat.le_total a b with h1 | h1
 ·exact Mq h1 h
 ·exact (Mq h1 h.symm).symm
theorem KS (p:Nat->Bool) (a:Nat):∀ b,Aj p (a+b) = Aj p a+Aj (λi=>p (a+i)) b
 | 0=>rfl
 | b+1=>by
  rw [show a+(b+1) = a+b+1 by omega,Aj,Aj,KS p a b]
  cases p (a+b) <;> rfl
theorem Qg (p:Nat->Bool) {n k j:Nat} (hk:k < n) (hj:j <= n):Aj p k+Aj (λi=>p ((k+i) % n)) j = if k+j < n then Aj p (k+j) else Aj p n+Aj p (k+j - n):=by
 split
 ·rename_i h
  rw [KS p k j,D3 (q:=λi=>p ((k+i) % n)) (p:=λi=>p (k+i)) j λi hi=>by rw [Nat.mod_eq_of_lt (by omega)]]
 ·rename_i h
  have e:j = (n - k)+(k+j - n):=by omega
  have h1:=KS (λi=>p ((k+i) % n)) (n - k) (k+j - n)
  rw [<- e] at h1
  rw [h1,D3 (q:=λi=>p ((k+i) % n)) (p:=λi=>p (k+i)) (n - k) λi hi=>by rw [Nat.mod_eq_of_lt (by omega)],
   D3 (q:=λi=>p ((k+(n - k+i)) % n)) (p:=p) (k+j - n) λi hi=>by rw [show k+(n - k+i) = i+n by omega,Nat.add_mod_right,Nat.mod_eq_of_lt (by omega)]]
  have h2:=KS p k (n - k)
  rw [show k+(n - k) = n by omega] at h2
  omega
theorem FX (p:Nat->Bool) {n k:Nat} (hk:k < n):Aj (λi=>p ((k+i) % n)) n = Aj p n:=by
 have h:=Qg p hk (Nat.le_refl n)
 rw [if_neg (by omega),show k+n - n = k by omega] at h
 omega
theorem I9 (p:Nat->Bool) {n i:Nat} (hi:i < n) (hK:0 < Aj p n):Ay p n i = ofNat (Aj p i % Aj p n):=by
 unfold Ay
 rw [decide_eq_true hi]
 have:=AW p (show i <= n by omega)
 by_cases h:Aj p i = Aj p n
 ·rw [decide_eq_true h,h,Nat.mod_self]
  rfl
 ·rw [decide_eq_false h,Nat.mod_eq_of_lt (by omega)]
  rfl
theorem SF (p:Nat->Bool) {n k i j:Nat} (hk:k < n) (hK:0 < Aj p n) (hi:i < n) (hj:j < n) :
  Ay (λi=>p ((k+i) % n)) n i = Ay (λi=>p ((k+i) % n)) n j ↔ Ay p n ((k+i) % n) = Ay p n ((k+j) % n):=by
 have hn:0 < n:=by omega
 have hT:=FX p hk
 have key:∀ i,i < n->(Aj p k+Aj (λi=>p ((k+i) % n)) i) % Aj p n = Aj p ((k+i) % n) % Aj p n:=λi hi=>by
  rw [Qg p hk (Nat.le_of_lt hi)]
  split
  ·rename_i h
   rw [Nat.mod_eq_of_lt h]
  ·rename_i h
   rw [Nat.add_mod_left,show (k+i) % n = k+i - n by rw [show k+i = k+i - n+n by omega,Nat.add_mod_right,Nat.mod_eq_of_lt (by omega)]; omega]
 rw [I9 _ hi (by rw [hT]; exact hK),I9 _ hj (by rw [hT]; exact hK),I9 p (Nat.mod_lt _ hn) hK,I9 p (Nat.mod_lt _ hn) hK,hT,<- key i hi,<- key j hj]
 constructor
 ·intro h
  have h:=Int.ofNat.inj h
  have:=Adm (Aj p k) h
  rw [Nat.add_comm _ (Aj p k),Nat.add_comm _ (Aj p k)] at this
  rw [this]
 ·intro h
  have h:=Int.ofNat.inj h
  rw [Nat.add_comm (Aj p k),Nat.add_comm (Aj p k)] at h
  rw [UY h]
theorem CU {q:Nat->Bool}:∀ {d i:Nat},Ba q d i = none ↔ ∀ k,i <= k->k < i+d->q k = false
 | 0,i=>⟨λ_ k h1 h2=>by omega,λ_=>rfl⟩
 | d+1,i=>by
  cases hq:q i with
  | true =>
   rw [BQ hq]
   refine ⟨λh=>(by cases h),λh=>?_⟩
   have:=h i (Nat.le_refl i) (by omega)
   rw [hq] at this
   cases this
  | false =>
   rw [By hq,CU]
   refine ⟨λh k h1 h2=>?_,λh k h1 h2=>h k (by omega) (by omega)⟩
   by_cases e:k = i
   ·rw [e]; exact hq
   ·exact h k (by omega) (by omega)
structure IsCycle (a:Int) (n:Nat) (f:Nat->E6):Prop where
 arch:ieq a 1 = true ∨ ieq a 2 = true
 lo:2 <= n
 hi:n <= 16
 legal:∀ i,i < n->Ct a f i = false
 meets:∀ i,i < n->ES n f i = false
 outer:2 <= Aj (λk=>Ax (f k)) n
 moves:2 <= Aj (λk=>Aw (f k)) n
 writes:∀ i,i < n->AH n (Ay (λk=>Aw (f k)) n) (λi=>isW (f i)) 2 i = false
 crowd:∀ i,i < n->AH n (Ay (λk=>Ax (f k)) n) (λ_=>true) 12 i = false
theorem Qb {n:Nat} {l:Nat->Int} {c:Nat->Bool} {q:Int} (h:(crR n l c q).2 = false):∀ i,i < n->AH n l c q i = false:=by
 unfold crR at h
 cases hc:Ba (AH n l c q) n 0 with
 | some t=>rw [hc] at h; cases h
 | none=>exact λi hi=>CU.1 hc i (Nat.zero_le i) (by omega)
theorem D2 {a:Int} {n:Nat} {f:Nat->E6} (h:ieq (BN a n f) 0 = true):IsCycle a n f:=by
 have h:=CC h
 unfold BN at h
 have ha:ieq a 1 = true ∨ ieq a 2 = true:=by
  cases ca:ieq a 1 with
  | true=>exact .inl rfl
  | false =>
   cases cb:ieq a 2 with
   | true=>exact .inr rfl
   | false =>
    unfold Pb at h
    rw [ca,cb] at h
    cases h
 rw [Xr ha] at h
 unfold Jg at h
 cases c1:ilt (ofNat n) 2 with
 | true=>rw [c1] at h; cases h
 | false =>
  cases c2:ilt 16 (ofNat n) with
  | true=>rw [c1,c2] at h; cases h
  | false =>
   rw [c1,c2] at h
   have h:(match Dg a n f,ieq (Dg a n f).1 0 with | r,false=>r | _,true=>E8 n f).1 = 0:=h
   cases c3:ieq (Dg a n f).1 0 with
   | false =>
    rw [c3] at h
    have h:(Dg a n f).1 = 0:=h
    rw [h] at c3
    cases c3
   | true =>
    rw [c3] at h
    have h:(E8 n f).1 = 0:=h
    have c3:=CC c3
    unfold E8 at h
    cases c4:ilt (Hy n f) 2 with
    | true=>rw [c4] at h; cases h
    | false =>
     cases c5:ilt (Ii n f) 2 with
     | true=>rw [c4,c5] at h; cases h
     | false =>
      rw [c4,c5] at h
      have h:(Ij n f).1 = 0:=h
      unfold Ij at h
      cases c6:(crR n (Ay (λk=>Aw (f k)) n) (λi=>isW (f i)) 2).2 with
      | true =>
       rw [show crR n (Ay (λk=>Aw (f k)) n) (λi=>isW (f i)) 2 = ((crR n (Ay (λk=>Aw (f k)) n) (λi=>isW (f i)) 2).1,true) from Prod.ext rfl c6] at h
       cases h
      | false =>
       rw [show crR n (Ay (λk=>Aw (f k)) n) (λi=>isW (f i)) 2 = ((crR n (Ay (λk=>Aw (f k)) n) (λi=>isW (f i)) 2).1,false) from Prod.ext rfl c6] at h
       cases c7:(crR n (Ay (λk=>Ax (f k)) n) (λ_=>true) 12).2 with
       | true =>
        rw [show crR n (Ay (λk=>Ax (f k)) n) (λ_=>true) 12 = ((crR n (Ay (λk=>Ax (f k)) n) (λ_=>true) 12).1,true) from Prod.ext rfl c7] at h
        cases h
       | false =>
        have e1:Ba (Ct a f) n 0 = none ∧ Ba (ES n f) n 0 = none:=by
         unfold Dg at c3
         cases d1:Ba (Ct a f) n 0 with
         | some t =>
          rw [d1] at c3
          cases d2:ieq (DL a (f t)) 0 with
          | true=>simp only [d2] at c3; cases c3
          | false=>simp only [d2] at c3; cases c3
         | none =>
          rw [d1] at c3
          cases d2:Ba (ES n f) n 0 with
          | some t=>rw [d2] at c3; cases c3
          | none=>exact ⟨rfl,rfl⟩
        rw [show (2:Int) = ofNat 2 from rfl,Cf] at c1
        rw [show (16:Int) = ofNat 16 from rfl,Cf] at c2
        unfold Hy at c4
        rw [show (2:Int) = ofNat 2 from rfl,Cf] at c4
        unfold Ii at c5
        rw [show (2:Int) = ofNat 2 from rfl,Cf] at c5
        have c1:=of_decide_eq_false c1
        have c2:=of_decide_eq_false c2
        have c4:=of_decide_eq_false c4
        have c5:=of_decide_eq_false c5
        exact ⟨ha,by omega,by omega,λi hi=>CU.1 e1.1 i (Nat.zero_le i) (by omega),λi hi=>CU.1 e1.2 i (Nat.zero_le i) (by omega),by omega,by omega,Qb c6,Qb c7⟩
theorem HI (p c:Nat->Bool) {n k:Nat} (hk:k < n) (hK:0 < Aj p n) (q:Int) {i:Nat} (hi:i < n) :
  AH n (Ay (λi=>p ((k+i) % n)) n) (λi=>c ((k+i) % n)) q i = AH n (Ay p n) c q ((k+i) % n):=by
 unfold AH Gp
 rw [D3 (q:=Cq (Ay (λi=>p ((k+i) % n)) n) (λi=>c ((k+i) % n)) (Ay (λi=>p ((k+i) % n)) n i)) (p:=λj=>Cq (Ay p n) c (Ay p n ((k+i) % n)) ((k+j) % n)) n λj hj=>by
  unfold Cq
  have h1:=SF p hk hK hj hi
  by_cases e:Ay (λi=>p ((k+i) % n)) n j = Ay (λi=>p ((k+i) % n)) n i
  ·rw [e,h1.1 e,ML,ML]
  ·rw [show ieq (Ay (λi=>p ((k+i) % n)) n j) (Ay (λi=>p ((k+i) % n)) n i) = false by simp [ieq,e],show ieq (Ay p n ((k+j) % n)) (Ay p n ((k+i) % n)) = false by
    have:¬ Ay p n ((k+j) % n) = Ay p n ((k+i) % n):=λh=>e (h1.2 h)
    simp [ieq,this]]]
 rw [FX (Cq (Ay p n) c (Ay p n ((k+i) % n))) hk]
theorem IsCycle.turned {a:Int} {n:Nat} {f:Nat->E6} (h:IsCycle a n f) {k:Nat} (hk:k < n):IsCycle a n λi=>f ((k+i) % n):=by
 have hn:0 < n:=by omega
 have ho:=h.outer
 have hm:=h.moves
 refine ⟨h.arch,h.lo,h.hi,λi hi=>h.legal _ (Nat.mod_lt _ hn),λi hi=>?_,?_,?_,λi hi=>?_,λi hi=>?_⟩
 ·have:=h.meets ((k+i) % n) (Nat.mod_lt _ hn)
  unfold ES at this ⊢
  rw [Nat.mod_add_mod] at this
  show AG (ieq (f ((k+i) % n)).dst (f ((k+(i+1) % n) % n)).src) = false
  rw [Nat.add_mod_mod,<- Nat.add_assoc]
  exact this
 ·show 2 <= Aj (λi=>(λk=>Ax (f k)) ((k+i) % n)) n
  rw [FX (λk=>Ax (f k)) hk]
  exact ho
 ·show 2 <= Aj (λi=>(λk=>Aw (f k)) ((k+i) % n)) n
  rw [FX (λk=>Aw (f k)) hk]
  exact hm
 ·show AH n (Ay (λi=>(λk=>Aw (f k)) ((k+i) % n)) n) (λi=>(λk=>isW (f k)) ((k+i) % n)) 2 i = false
  rw [HI (λk=>Aw (f k)) (λk=>isW (f k)) hk (by omega) 2 hi]
  exact h.writes _ (Nat.mod_lt _ hn)
 ·show AH n (Ay (λi=>(λk=>Ax (f k)) ((k+i) % n)) n) (λi=>(λ_=>true) ((k+i) % n)) 12 i = false
  rw [HI (λk=>Ax (f k)) (λ_=>true) hk (by omega) 12 hi]
  exact h.crowd _ (Nat.mod_lt _ hn)
theorem IsCycle.may {a:Int} {n:Nat} {f:Nat->E6} (h:IsCycle a n f):BR n f = true:=Ds.2 λi hi=>by
 have h1:=h.legal i hi
 unfold Ct at h1
 cases c:ieq (DL a (f i)) 0 with
 | false=>rw [c] at h1; cases h1
 | true =>
  have c:=CC c
  rcases h.arch with ha | ha
  ·rw [CC ha] at c; exact c
  ·rw [CC ha] at c; exact c
theorem TG {n:Nat} {f:Nat->E6} {k:Nat} (hn:0 < n) (hk:k < n) (hf:BR n f = true) {i:Nat} (hi:i < n):Bc n (λi=>f ((k+i) % n)) i = Bc n f i:=by
 have hg:BR n (λi=>f ((k+i) % n)) = true:=Ds.2 λi _=>Ds.1 hf _ (Nat.mod_lt _ hn)
 have h:=Rp (n:=n) (h:=λi=>B2 (f i)) (g:=λi=>B2 (f ((k+i) % n))) (k:=k) hn (λi _=>rfl) i hi
 exact Xt (TH hg hi) (TH hf hi) h
end Go.Proofs.YthlojajaenfidaaGreatDoor.Ed
