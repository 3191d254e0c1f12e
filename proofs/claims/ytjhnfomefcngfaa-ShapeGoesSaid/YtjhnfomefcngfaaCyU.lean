/-
  The law CycleChecks as a function. No conditions.
-/
import Derived.Test.YtjhnfomefcngfaaCyUa
import Derived.Test.YtjhnfomefcngfaaCyS
namespace Go.Proofs.Ytjhnfomefcngfaa.Ed
open Go.Sy
def chkE (a:Int) (n:Nat) (f:Nat->E6):Int:=(chkR a n f).1
def chkI (a:Int) (n:Nat) (f:Nat->E6):Int:=(chkR a n f).2
end Go.Proofs.Ytjhnfomefcngfaa.Ed
namespace Go.Proofs.Ytjhnfomefcngfaa.Ed
open Go.Sy
open Int (ofNat)
theorem mod_add {K a b:Nat} (c:Nat) (h:a % K = b % K):(a+c) % K = (b+c) % K:=by rw [Nat.add_mod,h,<- Nat.add_mod]
theorem mod_cancel0 {K a b c:Nat} (hab:a <= b) (h:(a+c) % K = (b+c) % K):a % K = b % K:=by
  have h1:=Nat.sub_mod_eq_zero_of_mod_eq h.symm
  rw [show b+c - (a+c) = b - a by omega] at h1
  have h2:(a+(b - a)) % K = a % K:=by rw [Nat.add_mod,h1,Nat.add_zero,Nat.mod_mod]
  rw [show a+(b - a) = b by omega] at h2
  exact h2.symm
theorem mod_cancel {K a b c:Nat} (h:(a+c) % K = (b+c) % K):a % K = b % K:=by
  rcases Nat.le_total a b with h1 | h1
  · exact mod_cancel0 h1 h
  · exact (mod_cancel0 h1 h.symm).symm
theorem cntB_add (p:Nat->Bool) (a:Nat):∀ b,cntB p (a+b) = cntB p a+cntB (fun i=>p (a+i)) b
  | 0=>rfl
  | b+1=>by
    rw [show a+(b+1) = a+b+1 by omega,cntB,cntB,cntB_add p a b]
    cases p (a+b) <;> rfl
theorem cntB_turn (p:Nat->Bool) {n k j:Nat} (hk:k < n) (hj:j <= n):cntB p k+cntB (fun i=>p ((k+i) % n)) j = if k+j < n then cntB p (k+j) else cntB p n+cntB p (k+j - n):=by
  split
  · rename_i h
    rw [cntB_add p k j,cntB_congr (q:=fun i=>p ((k+i) % n)) (p:=fun i=>p (k+i)) j fun i hi=>by rw [Nat.mod_eq_of_lt (by omega)]]
  · rename_i h
    have e:j = (n - k)+(k+j - n):=by omega
    have h1:=cntB_add (fun i=>p ((k+i) % n)) (n - k) (k+j - n)
    rw [<- e] at h1
    rw [h1,cntB_congr (q:=fun i=>p ((k+i) % n)) (p:=fun i=>p (k+i)) (n - k) fun i hi=>by rw [Nat.mod_eq_of_lt (by omega)],
      cntB_congr (q:=fun i=>p ((k+(n - k+i)) % n)) (p:=p) (k+j - n) fun i hi=>by rw [show k+(n - k+i) = i+n by omega,Nat.add_mod_right,Nat.mod_eq_of_lt (by omega)]]
    have h2:=cntB_add p k (n - k)
    rw [show k+(n - k) = n by omega] at h2
    omega
theorem cntB_turned (p:Nat->Bool) {n k:Nat} (hk:k < n):cntB (fun i=>p ((k+i) % n)) n = cntB p n:=by
  have h:=cntB_turn p hk (Nat.le_refl n)
  rw [if_neg (by omega),show k+n - n = k by omega] at h
  omega
theorem partF_mod (p:Nat->Bool) {n i:Nat} (hi:i < n) (hK:0 < cntB p n):partF p n i = ofNat (cntB p i % cntB p n):=by
  unfold partF
  rw [decide_eq_true hi]
  have:=cntB_mono p (show i <= n by omega)
  by_cases h:cntB p i = cntB p n
  · rw [decide_eq_true h,h,Nat.mod_self]
    rfl
  · rw [decide_eq_false h,Nat.mod_eq_of_lt (by omega)]
    rfl
theorem part_turned (p:Nat->Bool) {n k i j:Nat} (hk:k < n) (hK:0 < cntB p n) (hi:i < n) (hj:j < n) :
    partF (fun i=>p ((k+i) % n)) n i = partF (fun i=>p ((k+i) % n)) n j ↔ partF p n ((k+i) % n) = partF p n ((k+j) % n):=by
  have hn:0 < n:=by omega
  have hT:=cntB_turned p hk
  have key:∀ i,i < n->(cntB p k+cntB (fun i=>p ((k+i) % n)) i) % cntB p n = cntB p ((k+i) % n) % cntB p n:=fun i hi=>by
    rw [cntB_turn p hk (Nat.le_of_lt hi)]
    split
    · rename_i h
      rw [Nat.mod_eq_of_lt h]
    · rename_i h
      rw [Nat.add_mod_left,show (k+i) % n = k+i - n by rw [show k+i = k+i - n+n by omega,Nat.add_mod_right,Nat.mod_eq_of_lt (by omega)]; omega]
  rw [partF_mod _ hi (by rw [hT]; exact hK),partF_mod _ hj (by rw [hT]; exact hK),partF_mod p (Nat.mod_lt _ hn) hK,partF_mod p (Nat.mod_lt _ hn) hK,hT,<- key i hi,<- key j hj]
  constructor
  · intro h
    have h:=Int.ofNat.inj h
    have:=mod_add (cntB p k) h
    rw [Nat.add_comm _ (cntB p k),Nat.add_comm _ (cntB p k)] at this
    rw [this]
  · intro h
    have h:=Int.ofNat.inj h
    rw [Nat.add_comm (cntB p k),Nat.add_comm (cntB p k)] at h
    rw [mod_cancel h]
theorem firstQ_none {q:Nat->Bool}:∀ {d i:Nat},firstQ q d i = none ↔ ∀ k,i <= k->k < i+d->q k = false
  | 0,i=>⟨fun _ k h1 h2=>by omega,fun _=>rfl⟩
  | d+1,i=>by
    cases hq:q i with
    | true =>
      rw [firstQ_t hq]
      refine ⟨fun h=>(by cases h),fun h=>?_⟩
      have:=h i (Nat.le_refl i) (by omega)
      rw [hq] at this
      cases this
    | false =>
      rw [firstQ_f hq,firstQ_none]
      refine ⟨fun h k h1 h2=>?_,fun h k h1 h2=>h k (by omega) (by omega)⟩
      by_cases e:k = i
      · rw [e]; exact hq
      · exact h k (by omega) (by omega)
structure IsCycle (a:Int) (n:Nat) (f:Nat->E6):Prop where
  arch:ieq a 1 = true ∨ ieq a 2 = true
  lo:2 <= n
  hi:n <= 16
  legal:∀ i,i < n->badL a f i = false
  meets:∀ i,i < n->badM n f i = false
  outer:2 <= cntB (fun k=>outB (f k)) n
  moves:2 <= cntB (fun k=>movB (f k)) n
  writes:∀ i,i < n->tooMany n (partF (fun k=>movB (f k)) n) (fun i=>isW (f i)) 2 i = false
  crowd:∀ i,i < n->tooMany n (partF (fun k=>outB (f k)) n) (fun _=>true) 12 i = false
theorem crR_false {n:Nat} {l:Nat->Int} {c:Nat->Bool} {q:Int} (h:(crR n l c q).2 = false):∀ i,i < n->tooMany n l c q i = false:=by
  unfold crR at h
  cases hc:firstQ (tooMany n l c q) n 0 with
  | some t=>rw [hc] at h; cases h
  | none=>exact fun i hi=>firstQ_none.1 hc i (Nat.zero_le i) (by omega)
theorem isCycle_of {a:Int} {n:Nat} {f:Nat->E6} (h:ieq (chkE a n f) 0 = true):IsCycle a n f:=by
  have h:=ieq_eq h
  unfold chkE at h
  have ha:ieq a 1 = true ∨ ieq a 2 = true:=by
    cases ca:ieq a 1 with
    | true=>exact .inl rfl
    | false =>
      cases cb:ieq a 2 with
      | true=>exact .inr rfl
      | false =>
        unfold chkR at h
        rw [ca,cb] at h
        cases h
  rw [chkR_eq ha] at h
  unfold chkK at h
  cases c1:ilt (ofNat n) 2 with
  | true=>rw [c1] at h; cases h
  | false =>
    cases c2:ilt 16 (ofNat n) with
    | true=>rw [c1,c2] at h; cases h
    | false =>
      rw [c1,c2] at h
      have h:(match edgR a n f,ieq (edgR a n f).1 0 with | r,false=>r | _,true=>chkS n f).1 = 0:=h
      cases c3:ieq (edgR a n f).1 0 with
      | false =>
        rw [c3] at h
        have h:(edgR a n f).1 = 0:=h
        rw [h] at c3
        cases c3
      | true =>
        rw [c3] at h
        have h:(chkS n f).1 = 0:=h
        have c3:=ieq_eq c3
        unfold chkS at h
        cases c4:ilt (cntO n f) 2 with
        | true=>rw [c4] at h; cases h
        | false =>
          cases c5:ilt (cntM n f) 2 with
          | true=>rw [c4,c5] at h; cases h
          | false =>
            rw [c4,c5] at h
            have h:(chkU n f).1 = 0:=h
            unfold chkU at h
            cases c6:(crR n (partF (fun k=>movB (f k)) n) (fun i=>isW (f i)) 2).2 with
            | true =>
              rw [show crR n (partF (fun k=>movB (f k)) n) (fun i=>isW (f i)) 2 = ((crR n (partF (fun k=>movB (f k)) n) (fun i=>isW (f i)) 2).1,true) from Prod.ext rfl c6] at h
              cases h
            | false =>
              rw [show crR n (partF (fun k=>movB (f k)) n) (fun i=>isW (f i)) 2 = ((crR n (partF (fun k=>movB (f k)) n) (fun i=>isW (f i)) 2).1,false) from Prod.ext rfl c6] at h
              cases c7:(crR n (partF (fun k=>outB (f k)) n) (fun _=>true) 12).2 with
              | true =>
                rw [show crR n (partF (fun k=>outB (f k)) n) (fun _=>true) 12 = ((crR n (partF (fun k=>outB (f k)) n) (fun _=>true) 12).1,true) from Prod.ext rfl c7] at h
                cases h
              | false =>
                have e1:firstQ (badL a f) n 0 = none ∧ firstQ (badM n f) n 0 = none:=by
                  unfold edgR at c3
                  cases d1:firstQ (badL a f) n 0 with
                  | some t =>
                    rw [d1] at c3
                    cases d2:ieq (legF a (f t)) 0 with
                    | true=>simp only [d2] at c3; cases c3
                    | false=>simp only [d2] at c3; cases c3
                  | none =>
                    rw [d1] at c3
                    cases d2:firstQ (badM n f) n 0 with
                    | some t=>rw [d2] at c3; cases c3
                    | none=>exact ⟨rfl,rfl⟩
                rw [show (2:Int) = ofNat 2 from rfl,ilt_nat] at c1
                rw [show (16:Int) = ofNat 16 from rfl,ilt_nat] at c2
                unfold cntO at c4
                rw [show (2:Int) = ofNat 2 from rfl,ilt_nat] at c4
                unfold cntM at c5
                rw [show (2:Int) = ofNat 2 from rfl,ilt_nat] at c5
                have c1:=of_decide_eq_false c1
                have c2:=of_decide_eq_false c2
                have c4:=of_decide_eq_false c4
                have c5:=of_decide_eq_false c5
                exact ⟨ha,by omega,by omega,fun i hi=>firstQ_none.1 e1.1 i (Nat.zero_le i) (by omega),fun i hi=>firstQ_none.1 e1.2 i (Nat.zero_le i) (by omega),by omega,by omega,crR_false c6,crR_false c7⟩
theorem tooMany_turned (p c:Nat->Bool) {n k:Nat} (hk:k < n) (hK:0 < cntB p n) (q:Int) {i:Nat} (hi:i < n) :
    tooMany n (partF (fun i=>p ((k+i) % n)) n) (fun i=>c ((k+i) % n)) q i = tooMany n (partF p n) c q ((k+i) % n):=by
  unfold tooMany cntK
  rw [cntB_congr (q:=cntP (partF (fun i=>p ((k+i) % n)) n) (fun i=>c ((k+i) % n)) (partF (fun i=>p ((k+i) % n)) n i)) (p:=fun j=>cntP (partF p n) c (partF p n ((k+i) % n)) ((k+j) % n)) n fun j hj=>by
    unfold cntP
    have h1:=part_turned p hk hK hj hi
    by_cases e:partF (fun i=>p ((k+i) % n)) n j = partF (fun i=>p ((k+i) % n)) n i
    · rw [e,h1.1 e,ieq_rfl,ieq_rfl]
    · rw [show ieq (partF (fun i=>p ((k+i) % n)) n j) (partF (fun i=>p ((k+i) % n)) n i) = false by simp [ieq,e],show ieq (partF p n ((k+j) % n)) (partF p n ((k+i) % n)) = false by
        have:¬ partF p n ((k+j) % n) = partF p n ((k+i) % n):=fun h=>e (h1.2 h)
        simp [ieq,this]]]
  rw [cntB_turned (cntP (partF p n) c (partF p n ((k+i) % n))) hk]
theorem IsCycle.turned {a:Int} {n:Nat} {f:Nat->E6} (h:IsCycle a n f) {k:Nat} (hk:k < n):IsCycle a n fun i=>f ((k+i) % n):=by
  have hn:0 < n:=by omega
  have ho:=h.outer
  have hm:=h.moves
  refine ⟨h.arch,h.lo,h.hi,fun i hi=>h.legal _ (Nat.mod_lt _ hn),fun i hi=>?_,?_,?_,fun i hi=>?_,fun i hi=>?_⟩
  · have:=h.meets ((k+i) % n) (Nat.mod_lt _ hn)
    unfold badM at this ⊢
    rw [Nat.mod_add_mod] at this
    show bnot (ieq (f ((k+i) % n)).dst (f ((k+(i+1) % n) % n)).src) = false
    rw [Nat.add_mod_mod,<- Nat.add_assoc]
    exact this
  · show 2 <= cntB (fun i=>(fun k=>outB (f k)) ((k+i) % n)) n
    rw [cntB_turned (fun k=>outB (f k)) hk]
    exact ho
  · show 2 <= cntB (fun i=>(fun k=>movB (f k)) ((k+i) % n)) n
    rw [cntB_turned (fun k=>movB (f k)) hk]
    exact hm
  · show tooMany n (partF (fun i=>(fun k=>movB (f k)) ((k+i) % n)) n) (fun i=>(fun k=>isW (f k)) ((k+i) % n)) 2 i = false
    rw [tooMany_turned (fun k=>movB (f k)) (fun k=>isW (f k)) hk (by omega) 2 hi]
    exact h.writes _ (Nat.mod_lt _ hn)
  · show tooMany n (partF (fun i=>(fun k=>outB (f k)) ((k+i) % n)) n) (fun i=>(fun _=>true) ((k+i) % n)) 12 i = false
    rw [tooMany_turned (fun k=>outB (f k)) (fun _=>true) hk (by omega) 12 hi]
    exact h.crowd _ (Nat.mod_lt _ hn)
theorem IsCycle.may {a:Int} {n:Nat} {f:Nat->E6} (h:IsCycle a n f):mayN n f = true:=mayN_iff.2 fun i hi=>by
  have h1:=h.legal i hi
  unfold badL at h1
  cases c:ieq (legF a (f i)) 0 with
  | false=>rw [c] at h1; cases h1
  | true =>
    have c:=ieq_eq c
    rcases h.arch with ha | ha
    · rw [ieq_eq ha] at c; exact c
    · rw [ieq_eq ha] at c; exact c
end Go.Proofs.Ytjhnfomefcngfaa.Ed
