/-
  The law CycleChecks as a function. No conditions.
-/
import Derived.Test.YtjhnfomefcngfaaCyT
import Derived.Test.YtjhnfomefcngfaaCyS
import Derived.Test.YtjhnfomefcngfaaCyUa
namespace Go.Proofs.Ytjhnfomefcngfaa.Ed
open Go.Sy
def B6 (a:Int) (n:Nat) (f:Nat->E6):Int:=(OF a n f).1
def Gt (a:Int) (n:Nat) (f:Nat->E6):Int:=(OF a n f).2
end Go.Proofs.Ytjhnfomefcngfaa.Ed
namespace Go.Proofs.Ytjhnfomefcngfaa.Ed
open Go.Sy
open Int (ofNat)
theorem Abj {K a b:Nat} (c:Nat) (h:a % K = b % K):(a+c) % K = (b+c) % K:=by rw [Nat.add_mod,h,<- Nat.add_mod]
theorem LN {K a b c:Nat} (hab:a <= b) (h:(a+c) % K = (b+c) % K):a % K = b % K:=by
  have h1:=Nat.sub_mod_eq_zero_of_mod_eq h.symm
  rw [show b+c - (a+c) = b - a by omega] at h1
  have h2:(a+(b - a)) % K = a % K:=by rw [Nat.add_mod,h1,Nat.add_zero,Nat.mod_mod]
  rw [show a+(b - a) = b by omega] at h2
  exact h2.symm
theorem TK {K a b c:Nat} (h:(a+c) % K = (b+c) % K):a % K = b % K:=by
  rcases Nat.le_total a b with h1 | h1
  · exact LN h1 h
  · exact (LN h1 h.symm).symm
theorem K3 (p:Nat->Bool) (a:Nat):∀ b,Aj p (a+b) = Aj p a+Aj (fun i=>p (a+i)) b
  | 0=>rfl
  | b+1=>by
    rw [show a+(b+1) = a+b+1 by omega,Aj,Aj,K3 p a b]
    cases p (a+b) <;> rfl
theorem P4 (p:Nat->Bool) {n k j:Nat} (hk:k < n) (hj:j <= n):Aj p k+Aj (fun i=>p ((k+i) % n)) j = if k+j < n then Aj p (k+j) else Aj p n+Aj p (k+j - n):=by
  split
  · rename_i h
    rw [K3 p k j,D9 (q:=fun i=>p ((k+i) % n)) (p:=fun i=>p (k+i)) j fun i hi=>by rw [Nat.mod_eq_of_lt (by omega)]]
  · rename_i h
    have e:j = (n - k)+(k+j - n):=by omega
    have h1:=K3 (fun i=>p ((k+i) % n)) (n - k) (k+j - n)
    rw [<- e] at h1
    rw [h1,D9 (q:=fun i=>p ((k+i) % n)) (p:=fun i=>p (k+i)) (n - k) fun i hi=>by rw [Nat.mod_eq_of_lt (by omega)],
      D9 (q:=fun i=>p ((k+(n - k+i)) % n)) (p:=p) (k+j - n) fun i hi=>by rw [show k+(n - k+i) = i+n by omega,Nat.add_mod_right,Nat.mod_eq_of_lt (by omega)]]
    have h2:=K3 p k (n - k)
    rw [show k+(n - k) = n by omega] at h2
    omega
theorem Ga (p:Nat->Bool) {n k:Nat} (hk:k < n):Aj (fun i=>p ((k+i) % n)) n = Aj p n:=by
  have h:=P4 p hk (Nat.le_refl n)
  rw [if_neg (by omega),show k+n - n = k by omega] at h
  omega
theorem IF (p:Nat->Bool) {n i:Nat} (hi:i < n) (hK:0 < Aj p n):A0 p n i = ofNat (Aj p i % Aj p n):=by
  unfold A0
  rw [decide_eq_true hi]
  have:=AY p (show i <= n by omega)
  by_cases h:Aj p i = Aj p n
  · rw [decide_eq_true h,h,Nat.mod_self]
    rfl
  · rw [decide_eq_false h,Nat.mod_eq_of_lt (by omega)]
    rfl
theorem RB (p:Nat->Bool) {n k i j:Nat} (hk:k < n) (hK:0 < Aj p n) (hi:i < n) (hj:j < n) :
    A0 (fun i=>p ((k+i) % n)) n i = A0 (fun i=>p ((k+i) % n)) n j ↔ A0 p n ((k+i) % n) = A0 p n ((k+j) % n):=by
  have hn:0 < n:=by omega
  have hT:=Ga p hk
  have key:∀ i,i < n->(Aj p k+Aj (fun i=>p ((k+i) % n)) i) % Aj p n = Aj p ((k+i) % n) % Aj p n:=fun i hi=>by
    rw [P4 p hk (Nat.le_of_lt hi)]
    split
    · rename_i h
      rw [Nat.mod_eq_of_lt h]
    · rename_i h
      rw [Nat.add_mod_left,show (k+i) % n = k+i - n by rw [show k+i = k+i - n+n by omega,Nat.add_mod_right,Nat.mod_eq_of_lt (by omega)]; omega]
  rw [IF _ hi (by rw [hT]; exact hK),IF _ hj (by rw [hT]; exact hK),IF p (Nat.mod_lt _ hn) hK,IF p (Nat.mod_lt _ hn) hK,hT,<- key i hi,<- key j hj]
  constructor
  · intro h
    have h:=Int.ofNat.inj h
    have:=Abj (Aj p k) h
    rw [Nat.add_comm _ (Aj p k),Nat.add_comm _ (Aj p k)] at this
    rw [this]
  · intro h
    have h:=Int.ofNat.inj h
    rw [Nat.add_comm (Aj p k),Nat.add_comm (Aj p k)] at h
    rw [TK h]
theorem Df {q:Nat->Bool}:∀ {d i:Nat},Bb q d i = none ↔ ∀ k,i <= k->k < i+d->q k = false
  | 0,i=>⟨fun _ k h1 h2=>by omega,fun _=>rfl⟩
  | d+1,i=>by
    cases hq:q i with
    | true =>
      rw [BT hq]
      refine ⟨fun h=>(by cases h),fun h=>?_⟩
      have:=h i (Nat.le_refl i) (by omega)
      rw [hq] at this
      cases this
    | false =>
      rw [Bz hq,Df]
      refine ⟨fun h k h1 h2=>?_,fun h k h1 h2=>h k (by omega) (by omega)⟩
      by_cases e:k = i
      · rw [e]; exact hq
      · exact h k (by omega) (by omega)
structure IsCycle (a:Int) (n:Nat) (f:Nat->E6):Prop where
  arch:ieq a 1 = true ∨ ieq a 2 = true
  lo:2 <= n
  hi:n <= 16
  legal:∀ i,i < n->Cu a f i = false
  meets:∀ i,i < n->EX n f i = false
  outer:2 <= Aj (fun k=>Az (f k)) n
  moves:2 <= Aj (fun k=>Au (f k)) n
  writes:∀ i,i < n->AG n (A0 (fun k=>Au (f k)) n) (fun i=>isW (f i)) 2 i = false
  crowd:∀ i,i < n->AG n (A0 (fun k=>Az (f k)) n) (fun _=>true) 12 i = false
theorem SL {n:Nat} {l:Nat->Int} {c:Nat->Bool} {q:Int} (h:∀ i,i < n->AG n l c q i = false):crR n l c q = (0,false):=by
  unfold crR
  rw [Df.2 fun k _ h2=>h k (by omega)]
theorem P0 {n:Nat} {l:Nat->Int} {c:Nat->Bool} {q:Int} (h:(crR n l c q).2 = false):∀ i,i < n->AG n l c q i = false:=by
  unfold crR at h
  cases hc:Bb (AG n l c q) n 0 with
  | some t=>rw [hc] at h; cases h
  | none=>exact fun i hi=>Df.1 hc i (Nat.zero_le i) (by omega)
theorem IsCycle.ok {a:Int} {n:Nat} {f:Nat->E6} (h:IsCycle a n f):OF a n f = (0,0):=by
  have e1:Dn a n f = (0,0):=by
    unfold Dn
    rw [Df.2 fun k _ h2=>h.legal k (by omega)]
    show (match Bb (EX n f) n 0 with | some t=>((41:Int),ofNat t) | none=>(0,0)) = (0,0)
    rw [Df.2 fun k _ h2=>h.meets k (by omega)]
  have c1:ilt (ofNat n) 2 = false:=by rw [show (2:Int) = ofNat 2 from rfl,Cz,decide_eq_false (by have:=h.lo; omega)]
  have c2:ilt 16 (ofNat n) = false:=by rw [show (16:Int) = ofNat 16 from rfl,Cz,decide_eq_false (by have:=h.hi; omega)]
  have c3:ilt (DZ n f) 2 = false:=by unfold DZ; rw [show (2:Int) = ofNat 2 from rfl,Cz,decide_eq_false (by have:=h.outer; omega)]
  have c4:ilt (EV n f) 2 = false:=by unfold EV; rw [show (2:Int) = ofNat 2 from rfl,Cz,decide_eq_false (by have:=h.moves; omega)]
  rw [VQ h.arch]
  unfold Jr
  rw [c1,c2,e1]
  show EG n f = (0,0)
  unfold EG
  rw [c3,c4]
  show Is n f = (0,0)
  unfold Is
  rw [SL h.writes,SL h.crowd]
theorem Es {a:Int} {n:Nat} {f:Nat->E6} (h:ieq (B6 a n f) 0 = true):IsCycle a n f:=by
  have h:=Gr h
  unfold B6 at h
  have ha:ieq a 1 = true ∨ ieq a 2 = true:=by
    cases ca:ieq a 1 with
    | true=>exact .inl rfl
    | false =>
      cases cb:ieq a 2 with
      | true=>exact .inr rfl
      | false =>
        unfold OF at h
        rw [ca,cb] at h
        cases h
  rw [VQ ha] at h
  unfold Jr at h
  cases c1:ilt (ofNat n) 2 with
  | true=>rw [c1] at h; cases h
  | false =>
    cases c2:ilt 16 (ofNat n) with
    | true=>rw [c1,c2] at h; cases h
    | false =>
      rw [c1,c2] at h
      have h:(match Dn a n f,ieq (Dn a n f).1 0 with | r,false=>r | _,true=>EG n f).1 = 0:=h
      cases c3:ieq (Dn a n f).1 0 with
      | false =>
        rw [c3] at h
        have h:(Dn a n f).1 = 0:=h
        rw [h] at c3
        cases c3
      | true =>
        rw [c3] at h
        have h:(EG n f).1 = 0:=h
        have c3:=Gr c3
        unfold EG at h
        cases c4:ilt (DZ n f) 2 with
        | true=>rw [c4] at h; cases h
        | false =>
          cases c5:ilt (EV n f) 2 with
          | true=>rw [c4,c5] at h; cases h
          | false =>
            rw [c4,c5] at h
            have h:(Is n f).1 = 0:=h
            unfold Is at h
            cases c6:(crR n (A0 (fun k=>Au (f k)) n) (fun i=>isW (f i)) 2).2 with
            | true =>
              rw [show crR n (A0 (fun k=>Au (f k)) n) (fun i=>isW (f i)) 2 = ((crR n (A0 (fun k=>Au (f k)) n) (fun i=>isW (f i)) 2).1,true) from Prod.ext rfl c6] at h
              cases h
            | false =>
              rw [show crR n (A0 (fun k=>Au (f k)) n) (fun i=>isW (f i)) 2 = ((crR n (A0 (fun k=>Au (f k)) n) (fun i=>isW (f i)) 2).1,false) from Prod.ext rfl c6] at h
              cases c7:(crR n (A0 (fun k=>Az (f k)) n) (fun _=>true) 12).2 with
              | true =>
                rw [show crR n (A0 (fun k=>Az (f k)) n) (fun _=>true) 12 = ((crR n (A0 (fun k=>Az (f k)) n) (fun _=>true) 12).1,true) from Prod.ext rfl c7] at h
                cases h
              | false =>
                have e1:Bb (Cu a f) n 0 = none ∧ Bb (EX n f) n 0 = none:=by
                  unfold Dn at c3
                  cases d1:Bb (Cu a f) n 0 with
                  | some t =>
                    rw [d1] at c3
                    cases d2:ieq (Dw a (f t)) 0 with
                    | true=>simp only [d2] at c3; cases c3
                    | false=>simp only [d2] at c3; cases c3
                  | none =>
                    rw [d1] at c3
                    cases d2:Bb (EX n f) n 0 with
                    | some t=>rw [d2] at c3; cases c3
                    | none=>exact ⟨rfl,rfl⟩
                rw [show (2:Int) = ofNat 2 from rfl,Cz] at c1
                rw [show (16:Int) = ofNat 16 from rfl,Cz] at c2
                unfold DZ at c4
                rw [show (2:Int) = ofNat 2 from rfl,Cz] at c4
                unfold EV at c5
                rw [show (2:Int) = ofNat 2 from rfl,Cz] at c5
                have c1:=of_decide_eq_false c1
                have c2:=of_decide_eq_false c2
                have c4:=of_decide_eq_false c4
                have c5:=of_decide_eq_false c5
                exact ⟨ha,by omega,by omega,fun i hi=>Df.1 e1.1 i (Nat.zero_le i) (by omega),fun i hi=>Df.1 e1.2 i (Nat.zero_le i) (by omega),by omega,by omega,P0 c6,P0 c7⟩
theorem HM (p c:Nat->Bool) {n k:Nat} (hk:k < n) (hK:0 < Aj p n) (q:Int) {i:Nat} (hi:i < n) :
    AG n (A0 (fun i=>p ((k+i) % n)) n) (fun i=>c ((k+i) % n)) q i = AG n (A0 p n) c q ((k+i) % n):=by
  unfold AG Ea
  rw [D9 (q:=Cs (A0 (fun i=>p ((k+i) % n)) n) (fun i=>c ((k+i) % n)) (A0 (fun i=>p ((k+i) % n)) n i)) (p:=fun j=>Cs (A0 p n) c (A0 p n ((k+i) % n)) ((k+j) % n)) n fun j hj=>by
    unfold Cs
    have h1:=RB p hk hK hj hi
    by_cases e:A0 (fun i=>p ((k+i) % n)) n j = A0 (fun i=>p ((k+i) % n)) n i
    · rw [e,h1.1 e,IV,IV]
    · rw [show ieq (A0 (fun i=>p ((k+i) % n)) n j) (A0 (fun i=>p ((k+i) % n)) n i) = false by simp [ieq,e],show ieq (A0 p n ((k+j) % n)) (A0 p n ((k+i) % n)) = false by
        have:¬ A0 p n ((k+j) % n) = A0 p n ((k+i) % n):=fun h=>e (h1.2 h)
        simp [ieq,this]]]
  rw [Ga (Cs (A0 p n) c (A0 p n ((k+i) % n))) hk]
theorem IsCycle.turned {a:Int} {n:Nat} {f:Nat->E6} (h:IsCycle a n f) {k:Nat} (hk:k < n):IsCycle a n fun i=>f ((k+i) % n):=by
  have hn:0 < n:=by omega
  have ho:=h.outer
  have hm:=h.moves
  refine ⟨h.arch,h.lo,h.hi,fun i hi=>h.legal _ (Nat.mod_lt _ hn),fun i hi=>?_,?_,?_,fun i hi=>?_,fun i hi=>?_⟩
  · have:=h.meets ((k+i) % n) (Nat.mod_lt _ hn)
    unfold EX at this ⊢
    rw [Nat.mod_add_mod] at this
    show Am (ieq (f ((k+i) % n)).dst (f ((k+(i+1) % n) % n)).src) = false
    rw [Nat.add_mod_mod,<- Nat.add_assoc]
    exact this
  · show 2 <= Aj (fun i=>(fun k=>Az (f k)) ((k+i) % n)) n
    rw [Ga (fun k=>Az (f k)) hk]
    exact ho
  · show 2 <= Aj (fun i=>(fun k=>Au (f k)) ((k+i) % n)) n
    rw [Ga (fun k=>Au (f k)) hk]
    exact hm
  · show AG n (A0 (fun i=>(fun k=>Au (f k)) ((k+i) % n)) n) (fun i=>(fun k=>isW (f k)) ((k+i) % n)) 2 i = false
    rw [HM (fun k=>Au (f k)) (fun k=>isW (f k)) hk (by omega) 2 hi]
    exact h.writes _ (Nat.mod_lt _ hn)
  · show AG n (A0 (fun i=>(fun k=>Az (f k)) ((k+i) % n)) n) (fun i=>(fun _=>true) ((k+i) % n)) 12 i = false
    rw [HM (fun k=>Az (f k)) (fun _=>true) hk (by omega) 12 hi]
    exact h.crowd _ (Nat.mod_lt _ hn)
theorem IsCycle.may {a:Int} {n:Nat} {f:Nat->E6} (h:IsCycle a n f):BI n f = true:=DV.2 fun i hi=>by
  have h1:=h.legal i hi
  unfold Cu at h1
  cases c:ieq (Dw a (f i)) 0 with
  | false=>rw [c] at h1; cases h1
  | true =>
    have c:=Gr c
    rcases h.arch with ha | ha
    · rw [Gr ha] at c; exact c
    · rw [Gr ha] at c; exact c
theorem IsCycle.chk {a:Int} {n:Nat} {f:Nat->E6} (h:IsCycle a n f):ieq (B6 a n f) 0 = true ∧ ieq (Gt a n f) 0 = true:=by
  unfold B6 Gt
  rw [h.ok]
  exact ⟨rfl,rfl⟩
theorem Mc {n:Nat} {f:Nat->E6} {k:Nat} (hn:0 < n) (hk:k < n) (hf:BI n f = true) {i:Nat} (hi:i < n):Bk n (fun i=>f ((k+i) % n)) i = Bk n f i:=by
  have hg:BI n (fun i=>f ((k+i) % n)) = true:=DV.2 fun i _=>DV.1 hf _ (Nat.mod_lt _ hn)
  have h:=Qo (n:=n) (h:=fun i=>Bv (f i)) (g:=fun i=>Bv (f ((k+i) % n))) (k:=k) hn (fun i _=>rfl) i hi
  exact VS (SO hg hi) (SO hf hi) h
theorem ZG {n:Nat} {f:Nat->E6} (hn:0 < n) (hf:BI n f = true) {i:Nat} (hi:i < n):Bk n (fun i=>Bk n f i) i = Bk n f i:=by
  have hl:=IP n (fun i=>Bv (f i))
  exact Mc (k:=BR n (fun i=>Bv (f i))) hn (by omega) hf hi
end Go.Proofs.Ytjhnfomefcngfaa.Ed
