/-
  A cycle's turned ones are cycles with one least list: the law CycleTurns as a function. No conditions.
-/
import Derived.Test.YtkgdhhieomndeaaGreatDoorEdY
import Derived.Test.YtkgdhhieomndeaaGreatDoorCyTc
namespace Go.Proofs.YtkgdhhieomndeaaGreatDoor.Ed
open Go.Sy
open Int (ofNat)
theorem Afn {K a b:Nat} (c:Nat) (h:a % K=b % K):(a+c) % K=(b+c) % K:=by rw [Nat.add_mod,h,<- Nat.add_mod]
theorem MO {K a b c:Nat} (hab:a <= b) (h:(a+c) % K=(b+c) % K):a % K=b % K:=by
 have h1:=Nat.sub_mod_eq_zero_of_mod_eq h.symm;rw [show b+c-(a+c)=b-a by omega] at h1;have h2:(a+(b-a)) % K=a % K:=by rw [Nat.add_mod,h1,Nat.add_zero,Nat.mod_mod]
 rw [show a+(b-a)=b by omega] at h2;exact h2.symm
theorem W1 {K a b c:Nat} (h:(a+c) % K=(b+c) % K):a % K=b % K:=by
 rcases Nat.le_total a b with h1 | h1
 ·exact MO h1 h
 ·exact (MO h1 h.symm).symm
theorem Ls (p:Nat->Bool) (a:Nat):∀ b,An p (a+b)=An p a+An (λi=>p (a+i)) b
 | 0=>rfl
 | b+1=>by
  rw [show a+(b+1)=a+b+1 by omega,An,An,Ls p a b];cases p (a+b) <;> rfl
theorem QR (p:Nat->Bool) {n k j:Nat} (hk:k<n) (hj:j <= n):An p k+An (λi=>p ((k+i) % n)) j=if k+j<n then An p (k+j) else An p n+An p (k+j-n):=by
 split
 ·rename_i h
  rw [Ls p k j,D3 (q:=λi=>p ((k+i) % n)) (p:=λi=>p (k+i)) j λi hi=>by rw [Nat.mod_eq_of_lt (by omega)]]
 ·rename_i h
  have e:j=(n-k)+(k+j-n):=by omega
  have h1:=Ls (λi=>p ((k+i) % n)) (n-k) (k+j-n);rw [<- e] at h1;rw [h1,D3 (q:=λi=>p ((k+i) % n)) (p:=λi=>p (k+i)) (n-k) λi hi=>by rw [Nat.mod_eq_of_lt (by omega)],
   D3 (q:=λi=>p ((k+(n-k+i)) % n)) (p:=p) (k+j-n) λi hi=>by rw [show k+(n-k+i)=i+n by omega,Nat.add_mod_right,Nat.mod_eq_of_lt (by omega)]]
  have h2:=Ls p k (n-k);rw [show k+(n-k)=n by omega] at h2;omega
theorem GB (p:Nat->Bool) {n k:Nat} (hk:k<n):An (λi=>p ((k+i) % n)) n=An p n:=by
 have h:=QR p hk (Nat.le_refl n);rw [if_neg (by omega),show k+n-n=k by omega] at h;omega
theorem Jo (p:Nat->Bool) {n i:Nat} (hi:i<n) (hK:0<An p n):AG p n i=ofNat (An p i % An p n):=by
 unfold AG;rw [decide_eq_true hi];have:=Bg p (show i <= n by omega);by_cases h:An p i=An p n
 ·rw [decide_eq_true h,h,Nat.mod_self]
  rfl
 ·rw [decide_eq_false h,Nat.mod_eq_of_lt (by omega)]
  rfl
theorem Ui (p:Nat->Bool) {n k i j:Nat} (hk:k<n) (hK:0<An p n) (hi:i<n) (hj:j<n) :
  AG (λi=>p ((k+i) % n)) n i=AG (λi=>p ((k+i) % n)) n j↔AG p n ((k+i) % n)=AG p n ((k+j) % n):=by
 have hn:0<n:=by omega
 have hT:=GB p hk;have key:∀ i,i<n->(An p k+An (λi=>p ((k+i) % n)) i) % An p n=An p ((k+i) % n) % An p n:=λi hi=>by
  rw [QR p hk (Nat.le_of_lt hi)];split
  ·rename_i h
   rw [Nat.mod_eq_of_lt h]
  ·rename_i h
   rw [Nat.add_mod_left,show (k+i) % n=k+i-n by rw [show k+i=k+i-n+n by omega,Nat.add_mod_right,Nat.mod_eq_of_lt (by omega)]; omega]
 rw [Jo _ hi (by rw [hT]; exact hK),Jo _ hj (by rw [hT]; exact hK),Jo p (Nat.mod_lt _ hn) hK,Jo p (Nat.mod_lt _ hn) hK,hT,<- key i hi,<- key j hj];constructor
 ·intro h
  have h:=Int.ofNat.inj h;have:=Afn (An p k) h;rw [Nat.add_comm _ (An p k),Nat.add_comm _ (An p k)] at this;rw [this]
 ·intro h
  have h:=Int.ofNat.inj h;rw [Nat.add_comm (An p k),Nat.add_comm (An p k)] at h;rw [W1 h]
theorem Cv {q:Nat->Bool}:∀ {d i:Nat},Bh q d i=none↔∀ k,i <= k->k<i+d->q k=false
 | 0,i=>⟨λ_ k h1 h2=>by omega,λ_=>rfl⟩
 | d+1,i=>by
  cases hq:q i with
  | true =>rw [Dz hq];refine ⟨λh=>(by cases h),λh=>?_⟩;have:=h i (Nat.le_refl i) (by omega);rw [hq] at this;cases this
  | false =>
   rw [D1 hq,Cv];refine ⟨λh k h1 h2=>?_,λh k h1 h2=>h k (by omega) (by omega)⟩;by_cases e:k=i
   ·rw [e]; exact hq
   ·exact h k (by omega) (by omega)
structure IsCycle (a:Int) (n:Nat) (f:Nat->E6):Prop where
 arch:ieq a 1=true ∨ ieq a 2=true
 lo:2 <= n
 hi:n <= 16
 legal:∀ i,i<n->DF a f i=false
 meets:∀ i,i<n->Gr n f i=false
 outer:2 <= An (λk=>AB (f k)) n
 moves:2 <= An (λk=>AN (f k)) n
 writes:∀ i,i<n->Bi n (AG (λk=>AN (f k)) n) (λi=>isW (f i)) 2 i=false
 crowd:∀ i,i<n->Bi n (AG (λk=>AB (f k)) n) (λ_=>true) 12 i=false
theorem crR_none {n:Nat} {l:Nat->Int} {c:Nat->Bool} {q:Int} (h:∀ i,i<n->Bi n l c q i=false):crR n l c q=(0,false):=by
 unfold crR;rw [Cv.2 λk _ h2=>h k (by omega)]
theorem QN {n:Nat} {l:Nat->Int} {c:Nat->Bool} {q:Int} (h:(crR n l c q).2=false):∀ i,i<n->Bi n l c q i=false:=by
 unfold crR at h;cases hc:Bh (Bi n l c q) n 0 with
 | some t=>rw [hc] at h; cases h
 | none=>exact λi hi=>Cv.1 hc i (Nat.zero_le i) (by omega)
theorem IsCycle.ok {a:Int} {n:Nat} {f:Nat->E6} (h:IsCycle a n f):Ns a n f=(0,0):=by
 have e1:HY a n f=(0,0):=by
  unfold HY;rw [Cv.2 λk _ h2=>h.legal k (by omega)];show (match Bh (Gr n f) n 0 with | some t=>((41:Int),ofNat t) | none=>(0,0))=(0,0)
  rw [Cv.2 λk _ h2=>h.meets k (by omega)]
 have c1:ilt (ofNat n) 2=false:=by rw [show (2:Int)=ofNat 2 from rfl,BP,decide_eq_false (by have:=h.lo; omega)]
 have c2:ilt 16 (ofNat n)=false:=by rw [show (16:Int)=ofNat 16 from rfl,BP,decide_eq_false (by have:=h.hi; omega)]
 have c3:ilt (Ia n f) 2=false:=by unfold Ia; rw [show (2:Int)=ofNat 2 from rfl,BP,decide_eq_false (by have:=h.outer; omega)]
 have c4:ilt (IL n f) 2=false:=by unfold IL; rw [show (2:Int)=ofNat 2 from rfl,BP,decide_eq_false (by have:=h.moves; omega)]
 rw [SU h.arch];unfold My;rw [c1,c2,e1];show PW n f=(0,0);unfold PW;rw [c3,c4];show SS n f=(0,0);unfold SS;rw [crR_none h.writes,crR_none h.crowd]
theorem Bl {a:Int} {n:Nat} {f:Nat->E6} (h:ieq (BK a n f) 0=true):IsCycle a n f:=by
 have h:=BX h;unfold BK at h;have ha:ieq a 1=true ∨ ieq a 2=true:=by
  cases ca:ieq a 1 with
  | true=>exact .inl rfl
  | false =>
   cases cb:ieq a 2 with
   | true=>exact .inr rfl
   | false =>unfold Ns at h;rw [ca,cb] at h;cases h
 rw [SU ha] at h;unfold My at h;cases c1:ilt (ofNat n) 2 with
 | true=>rw [c1] at h; cases h
 | false =>
  cases c2:ilt 16 (ofNat n) with
  | true=>rw [c1,c2] at h; cases h
  | false =>
   rw [c1,c2] at h;have h:(match HY a n f,ieq (HY a n f).1 0 with | r,false=>r | _,true=>PW n f).1=0:=h
   cases c3:ieq (HY a n f).1 0 with
   | false =>rw [c3] at h;have h:(HY a n f).1=0:=h;rw [h] at c3;cases c3
   | true =>
    rw [c3] at h;have h:(PW n f).1=0:=h;have c3:=BX c3;unfold PW at h;cases c4:ilt (Ia n f) 2 with
    | true=>rw [c4] at h; cases h
    | false =>
     cases c5:ilt (IL n f) 2 with
     | true=>rw [c4,c5] at h; cases h
     | false =>
      rw [c4,c5] at h;have h:(SS n f).1=0:=h;unfold SS at h;cases c6:(crR n (AG (λk=>AN (f k)) n) (λi=>isW (f i)) 2).2 with
      | true =>rw [show crR n (AG (λk=>AN (f k)) n) (λi=>isW (f i)) 2=((crR n (AG (λk=>AN (f k)) n) (λi=>isW (f i)) 2).1,true) from Prod.ext rfl c6] at h;cases h
      | false =>
       rw [show crR n (AG (λk=>AN (f k)) n) (λi=>isW (f i)) 2=((crR n (AG (λk=>AN (f k)) n) (λi=>isW (f i)) 2).1,false) from Prod.ext rfl c6] at h;cases c7:(crR n (AG (λk=>AB (f k)) n) (λ_=>true) 12).2 with
       | true =>rw [show crR n (AG (λk=>AB (f k)) n) (λ_=>true) 12=((crR n (AG (λk=>AB (f k)) n) (λ_=>true) 12).1,true) from Prod.ext rfl c7] at h;cases h
       | false =>
        have e1:Bh (DF a f) n 0=none∧Bh (Gr n f) n 0=none:=by
         unfold HY at c3;cases d1:Bh (DF a f) n 0 with
         | some t =>
          rw [d1] at c3;cases d2:ieq (GU a (f t)) 0 with
          | true=>simp only [d2] at c3; cases c3
          | false=>simp only [d2] at c3; cases c3
         | none =>
          rw [d1] at c3;cases d2:Bh (Gr n f) n 0 with
          | some t=>rw [d2] at c3; cases c3
          | none=>exact ⟨rfl,rfl⟩
        rw [show (2:Int)=ofNat 2 from rfl,BP] at c1;rw [show (16:Int)=ofNat 16 from rfl,BP] at c2;unfold Ia at c4;rw [show (2:Int)=ofNat 2 from rfl,BP] at c4;unfold IL at c5;rw [show (2:Int)=ofNat 2 from rfl,BP] at c5;have c1:=of_decide_eq_false c1;have c2:=of_decide_eq_false c2;have c4:=of_decide_eq_false c4;have c5:=of_decide_eq_false c5;exact ⟨ha,by omega,by omega,λi hi=>Cv.1 e1.1 i (Nat.zero_le i) (by omega),λi hi=>Cv.1 e1.2 i (Nat.zero_le i) (by omega),by omega,by omega,QN c6,QN c7⟩
theorem Iv (p c:Nat->Bool) {n k:Nat} (hk:k<n) (hK:0<An p n) (q:Int) {i:Nat} (hi:i<n) :
  Bi n (AG (λi=>p ((k+i) % n)) n) (λi=>c ((k+i) % n)) q i=Bi n (AG p n) c q ((k+i) % n):=by
 unfold Bi Pu;rw [D3 (q:=CJ (AG (λi=>p ((k+i) % n)) n) (λi=>c ((k+i) % n)) (AG (λi=>p ((k+i) % n)) n i)) (p:=λj=>CJ (AG p n) c (AG p n ((k+i) % n)) ((k+j) % n)) n λj hj=>by
  unfold CJ;have h1:=Ui p hk hK hj hi;by_cases e:AG (λi=>p ((k+i) % n)) n j=AG (λi=>p ((k+i) % n)) n i
  ·rw [e,h1.1 e,HQ,HQ]
  ·rw [show ieq (AG (λi=>p ((k+i) % n)) n j) (AG (λi=>p ((k+i) % n)) n i)=false by simp [ieq,e],show ieq (AG p n ((k+j) % n)) (AG p n ((k+i) % n))=false by
    have:¬ AG p n ((k+j) % n)=AG p n ((k+i) % n):=λh=>e (h1.2 h);simp [ieq,this]]]
 rw [GB (CJ (AG p n) c (AG p n ((k+i) % n))) hk]
theorem IsCycle.turned {a:Int} {n:Nat} {f:Nat->E6} (h:IsCycle a n f) {k:Nat} (hk:k<n):IsCycle a n λi=>f ((k+i) % n):=by
 have hn:0<n:=by omega
 have ho:=h.outer;have hm:=h.moves;refine ⟨h.arch,h.lo,h.hi,λi hi=>h.legal _ (Nat.mod_lt _ hn),λi hi=>?_,?_,?_,λi hi=>?_,λi hi=>?_⟩
 ·have:=h.meets ((k+i) % n) (Nat.mod_lt _ hn)
  unfold Gr at this ⊢;rw [Nat.mod_add_mod] at this;show A5 (ieq (f ((k+i) % n)).dst (f ((k+(i+1) % n) % n)).src)=false;rw [Nat.add_mod_mod,<- Nat.add_assoc];exact this
 ·show 2 <= An (λi=>(λk=>AB (f k)) ((k+i) % n)) n
  rw [GB (λk=>AB (f k)) hk];exact ho
 ·show 2 <= An (λi=>(λk=>AN (f k)) ((k+i) % n)) n
  rw [GB (λk=>AN (f k)) hk];exact hm
 ·show Bi n (AG (λi=>(λk=>AN (f k)) ((k+i) % n)) n) (λi=>(λk=>isW (f k)) ((k+i) % n)) 2 i=false
  rw [Iv (λk=>AN (f k)) (λk=>isW (f k)) hk (by omega) 2 hi];exact h.writes _ (Nat.mod_lt _ hn)
 ·show Bi n (AG (λi=>(λk=>AB (f k)) ((k+i) % n)) n) (λi=>(λ_=>true) ((k+i) % n)) 12 i=false
  rw [Iv (λk=>AB (f k)) (λ_=>true) hk (by omega) 12 hi];exact h.crowd _ (Nat.mod_lt _ hn)
theorem IsCycle.may {a:Int} {n:Nat} {f:Nat->E6} (h:IsCycle a n f):Cp n f=true:=Dt.2 λi hi=>by
 have h1:=h.legal i hi;unfold DF at h1;cases c:ieq (GU a (f i)) 0 with
 | false=>rw [c] at h1; cases h1
 | true =>
  have c:=BX c;rcases h.arch with ha | ha
  ·rw [BX ha] at c; exact c
  ·rw [BX ha] at c; exact c
theorem IsCycle.chk {a:Int} {n:Nat} {f:Nat->E6} (h:IsCycle a n f):ieq (BK a n f) 0=true∧ieq (D4 a n f) 0=true:=by
 unfold BK D4;rw [h.ok];exact ⟨rfl,rfl⟩
theorem IM {n:Nat} {f:Nat->E6} {k:Nat} (hn:0<n) (hk:k<n) (hf:Cp n f=true) {i:Nat} (hi:i<n):AY n (λi=>f ((k+i) % n)) i=AY n f i:=by
 have hg:Cp n (λi=>f ((k+i) % n))=true:=Dt.2 λi _=>Dt.1 hf _ (Nat.mod_lt _ hn);have h:=Sq (n:=n) (h:=λi=>BD (f i)) (g:=λi=>BD (f ((k+i) % n))) (k:=k) hn (λi _=>rfl) i hi;exact YP (Vp hg hi) (Vp hf hi) h
theorem AdD {n:Nat} {f:Nat->E6} (hn:0<n) (hf:Cp n f=true) {i:Nat} (hi:i<n):AY n (λi=>AY n f i) i=AY n f i:=by
 have hl:=Js n (λi=>BD (f i));exact IM (k:=Cs n (λi=>BD (f i))) hn (by omega) hf hi
noncomputable def tb18:AK:=(84,Nr)::(52,Nr)::(69,Jc)::(17,Ib)::(29,XF)::[]
theorem tb18_ok:Aq Tryz.prog Gl tb18:=.cons p48 <| .cons p49 <| .cons p69 <| .cons p65 <| .cons p42 .nil
def lp18 (a:Int) (n:Nat) (f:Nat->E6) (b:Int):Lp:=⟨bmK 139 0 [1,6,14,24],4,bmK 139 0 [6],0,n+1⟩
def st18 (a:Int) (n:Nat) (f:Nat->E6) (b:Int) (u v w z:Nat->E6) (m:Nat) (j:Nat->V):St:=⟨jsV 139 0 j [(1,.sl 6 n (λi=>eV (f i))),(6,bV false),(14,.ref 1),(24,nV m)],[.row 92 6 n (λi=>eV (u i)),.row 92 6 n (λi=>eV (v i)),.row 92 6 n (λi=>eV (w i)),.row 92 6 n (λi=>eV (z i))]⟩
def ent18 (a:Int) (n:Nat) (f:Nat->E6) (b:Int) :St:=⟨jsV 139 0 (λ_=>A9) [(0,iV a),(1,.sl 6 n (λi=>eV (f i))),(2,iV b),(6,bV false),(7,iV (BK a n f)),(8,iV (D4 a n f)),(9,iV (BK a n f)),(10,iV (D4 a n f)),(11,.ref 0),(12,iV (BK a n (λi=>AT n f b i))),(13,iV (D4 a n (λi=>AT n f b i))),(14,.ref 1),(15,iV 0),(16,.ref 2),(17,iV 0),(18,bV (MJ n f n (λi=>AT n f b i))),(19,iV 0),(20,iV (BK a n (λi=>AY n f i))),(21,iV (D4 a n (λi=>AY n f i))),(22,.ref 3),(23,iV 0),(24,iV 0),(25,.tup [iV (BK a n f),iV (D4 a n f)]),(26,iV a),(27,.sl 6 n (λi=>eV (f i))),(28,.tup [iV (BK a n f),iV (D4 a n f)]),(29,iV (BK a n f)),(30,iV (D4 a n f)),(31,.tup [iV (BK a n f),iV (D4 a n f)]),(32,iV a),(33,.sl 6 n (λi=>eV (f i))),(34,.tup [iV (BK a n f),iV (D4 a n f)]),(35,iV (BK a n f)),(36,iV (D4 a n f)),(37,iV (BK a n f)),(38,iV (BK a n f)),(39,bV (A5 (ieq (BK a n f) (BK a n f)))),(40,bV (A5 (ieq (BK a n f) (BK a n f)))),(41,bV true),(42,bV (A5 true)),(43,bV (A5 true)),(44,iV (BK a n f)),(45,bV (A5 (ieq (BK a n f) 0))),(46,.sl 6 n (λi=>eV (f i))),(47,iV b),(48,.ref 0),(49,.tup [iV (BK a n (λi=>AT n f b i)),iV (D4 a n (λi=>AT n f b i))]),(50,iV a),(51,.ref 0),(52,.tup [iV (BK a n (λi=>AT n f b i)),iV (D4 a n (λi=>AT n f b i))]),(53,iV (BK a n (λi=>AT n f b i))),(54,iV (D4 a n (λi=>AT n f b i))),(55,.tup [.ref 1,iV 0]),(56,.sl 6 n (λi=>eV (f i))),(57,.tup [.ref 1,iV 0]),(58,.ref 1),(59,iV 0),(60,.tup [.ref 2,iV 0]),(61,.ref 0),(62,.tup [.ref 2,iV 0]),(63,.ref 2),(64,iV 0),(65,.tup [bV (MJ n f n (λi=>AT n f b i)),iV 0]),(66,.sl 6 n (λi=>eV (f i))),(67,.ref 0),(68,.tup [bV (MJ n f n (λi=>AT n f b i)),iV 0]),(69,bV (MJ n f n (λi=>AT n f b i))),(70,iV 0),(71,.tup [iV (BK a n (λi=>AY n f i)),iV (D4 a n (λi=>AY n f i))]),(72,iV a),(73,.ref 1),(74,.tup [iV (BK a n (λi=>AY n f i)),iV (D4 a n (λi=>AY n f i))]),(75,iV (BK a n (λi=>AY n f i))),(76,iV (D4 a n (λi=>AY n f i))),(77,.tup [.ref 3,iV 0]),(78,.ref 1),(79,.tup [.ref 3,iV 0]),(80,.ref 3),(81,iV 0),(82,iV (BK a n (λi=>AT n f b i))),(83,bV (A5 (ieq (BK a n (λi=>AT n f b i)) 0))),(84,bV (A5 (ieq (BK a n (λi=>AT n f b i)) 0))),(85,iV (D4 a n (λi=>AT n f b i))),(86,bV (A5 (ieq (D4 a n (λi=>AT n f b i)) 0))),(87,bV (A5 (ieq (D4 a n (λi=>AT n f b i)) 0))),(88,bV (A5 (ieq (D4 a n (λi=>AT n f b i)) 0))),(89,iV 0),(90,bV (A5 (ieq 0 0))),(91,bV (A5 (ieq 0 0))),(92,bV (A5 (ieq 0 0))),(93,iV 0),(94,bV (A5 (ieq 0 0))),(95,bV (A5 (ieq 0 0))),(96,bV (A5 (ieq 0 0))),(97,iV 0),(98,bV (A5 (ieq 0 0))),(99,bV (A5 (ieq 0 0))),(100,bV (A5 (ieq 0 0))),(101,iV (BK a n (λi=>AY n f i))),(102,bV (A5 (ieq (BK a n (λi=>AY n f i)) 0))),(103,bV (A5 (ieq (BK a n (λi=>AY n f i)) 0))),(104,bV (A5 (ieq (BK a n (λi=>AY n f i)) 0))),(105,iV (D4 a n (λi=>AY n f i))),(106,bV (A5 (ieq (D4 a n (λi=>AY n f i)) 0))),(107,bV (A5 (ieq (D4 a n (λi=>AY n f i)) 0))),(108,bV (A5 (ieq (D4 a n (λi=>AY n f i)) 0))),(109,iV 0),(110,bV (A5 (ieq 0 0))),(111,bV (A5 (ieq 0 0))),(112,bV (A5 (ieq 0 0))),(113,bV (MJ n f n (λi=>AT n f b i))),(114,bV (A5 (MJ n f n (λi=>AT n f b i)))),(115,bV (A5 (MJ n f n (λi=>AT n f b i)))),(116,bV (A5 (MJ n f n (λi=>AT n f b i)))),(117,.ref 1),(118,.ref 2),(119,bV (CB n (λi=>AY n f i) n (λi=>AY n (λi=>AT n f b i) i))),(120,bV (A5 (CB n (λi=>AY n f i) n (λi=>AY n (λi=>AT n f b i) i)))),(121,bV (A5 (CB n (λi=>AY n f i) n (λi=>AY n (λi=>AT n f b i) i)))),(122,bV (A5 (CB n (λi=>AY n f i) n (λi=>AY n (λi=>AT n f b i) i)))),(123,.ref 3),(124,.ref 1),(125,bV (CB n (λi=>AY n (λi=>AY n f i) i) n (λi=>AY n f i))),(126,bV (A5 (CB n (λi=>AY n (λi=>AY n f i) i) n (λi=>AY n f i)))),(127,bV (A5 (CB n (λi=>AY n (λi=>AY n f i) i) n (λi=>AY n f i))))],[.row 92 6 n (λi=>eV (AT n f b i)),.row 92 6 n (λi=>eV (AY n f i)),.row 92 6 n (λi=>eV (AY n (λi=>AT n f b i) i)),.row 92 6 n (λi=>eV (AY n (λi=>AY n f i) i))]⟩
theorem ent18_eq (a:Int) (n:Nat) (f:Nat->E6) (b:Int):ent18 a n f b=st18 a n f b (AT n f b) (AY n f) (AY n λi=>AT n f b i) (AY n λi=>AY n f i) 0 (λi=>nth (ent18 a n f b).t i):=by kernel_rfl
end Go.Proofs.YtkgdhhieomndeaaGreatDoor.Ed
