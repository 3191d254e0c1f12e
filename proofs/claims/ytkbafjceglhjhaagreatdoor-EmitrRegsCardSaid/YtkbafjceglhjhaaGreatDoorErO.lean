/-
  Layer 12: the branches of a shape's code lead on. No conditions.
-/
import Derived.Test.YtkbafjceglhjhaaGreatDoorErQ
import Derived.Test.YtkbafjceglhjhaaGreatDoorSyZ
import Derived.Test.YtkbafjceglhjhaaGreatDoorErW
namespace Go.Proofs.YtkbafjceglhjhaaGreatDoor.Er
open Go.Sy Go Go.Proofs.YtkbafjceglhjhaaGreatDoor.Ed Go.Proofs.YtkbafjceglhjhaaGreatDoor.Sh
set_option maxRecDepth 100000
set_option maxHeartbeats 1000000
def nxB (I:In8):List In8->Bool
 | J::_=>ieq J.op 12 && seq J.lab I.lab
 | []=>false
def bnB:List In8->Bool
 | []=>true
 | I::l=>(!ieq I.op 11 || nxB I l) && bnB l
theorem Kw:∀ {l m:List In8},bnB l=true->bnB m=true->bnB (l++m)=true
 | [],_,_,hm=>hm
 | [I],m,hl,hm=>by
  unfold bnB nxB at hl;simp only [Bool.or_false,Bool.and_eq_true] at hl;show ((!ieq I.op 11 || nxB I m) && bnB m)=true
  rw [hl.1,hm];rfl
 | I::J::l,m,hl,hm=>by
  have h1:(!ieq I.op 11 || nxB I (J::l))=true∧bnB (J::l)=true:=by
   unfold bnB at hl;simpa only [Bool.and_eq_true] using hl
  have h2:=Kw (l:=J::l) h1.2 hm;show ((!ieq I.op 11 || nxB I (J::l)) && bnB (J::l++m))=true
  rw [h1.1,h2];rfl
theorem Ah1 (I:In8) (l:List In8):JW (I::l) 0=I:=rfl
theorem Ah0 (I:In8) (l:List In8) (k:Nat):JW (I::l) (k+1)=JW l k:=rfl
theorem AaB:∀ {l:List In8},bnB l=true->∀ i,i<CS l->ieq (JW l i).op 11=true->i+1<CS l∧ieq (JW l (i+1)).op 12=true∧seq (JW l (i+1)).lab (JW l i).lab=true
 | [],_,_,hi,_=>absurd hi (Nat.not_lt_zero _)
 | I::l,hl,i,hi,h11=>by
  unfold bnB at hl;simp only [Bool.and_eq_true] at hl;cases i with
  | zero =>
   rw [Ah1] at h11;rw [h11] at hl;have:=hl.1;cases l with
   | nil=>cases this
   | cons J l =>have:(ieq J.op 12 && seq J.lab I.lab)=true:=this;simp only [Bool.and_eq_true] at this;exact ⟨by unfold CS; simp,this.1,this.2⟩
  | succ i =>have:=AaB hl.2 i (by unfold CS at hi ⊢; simp at hi; exact hi) h11;refine ⟨?_,this.2⟩;have h1:=this.1;unfold CS at h1 ⊢;simp only [List.length_cons];omega
theorem AcM:(List.range 32).all (λi=>(List.range 32).all λj=>Nat.beq i j || !seq (Gr i) (Gr j))=true:=by kernel_rfl
theorem Ahs {i j:Nat} (hi:i<32) (hj:j<32) (h:i ≠ j):seq (Gr i) (Gr j)=false:=by
 have:=List.all_eq_true.1 (List.all_eq_true.1 AcM i (by simpa using hi)) j (by simpa using hj);rw [show Nat.beq i j=false by cases hb:Nat.beq i j with
  | false=>rfl
  | true=>exact absurd (Nat.eq_of_beq_eq_true hb) h] at this
 simpa using this
def Ap (I J:In8):Prop:=ieq I.op 12=true->ieq J.op 12=true->seq I.lab J.lab=false
theorem AeS:∀ {l:List In8},l.Pairwise Ap->∀ i,i<CS l->∀ k,k<i->Ap (JW l k) (JW l i)
 | [],_,_,hi,_,_=>absurd hi (Nat.not_lt_zero _)
 | I::l,hl,0,_,k,hk=>absurd hk (Nat.not_lt_zero _)
 | I::l,hl,i+1,hi,k,hk=>by
  obtain ⟨h1,h2⟩:=List.pairwise_cons.1 hl;have hi:i<CS l:=by unfold CS at hi ⊢; simpa using hi
  cases k with
  | zero =>refine h1 _ ?_;rw [Ah0];unfold JW;rw [List.getD_eq_getElem?_getD,List.getElem?_eq_getElem hi];exact List.getElem_mem hi
  | succ k=>exact AeS h2 i hi k (by omega)
section
variable {s:Sh7}
theorem Vh (i:Nat) (a:Int):bnB (tl9 s i a).flatten=true:=by
 unfold tl9;cases ieq (s.X i).dir 1 <;> cases ieq (ed9 s i).kind 7 <;> rfl
theorem Aga (i:Nat):bnB (D2 s i).flatten=true:=by
 rw [PH];cases ilt 0 (s.X i).pl with
 | false=>cases ieq (s.X i).dir 1 <;> rfl
 | true =>
  cases ieq (ed9 s i).kind 5 with
  | true=>exact Kw (l:=[fcI s i]) rfl (Vh i _)
  | false =>
   cases ieq (ed9 s i).kind 8 with
   | true =>refine Kw (l:=[bnI s i (Gr (lbN s i)),lbI (Gr (lbN s i))]) ?_ (Vh i _);show ((ieq 12 12 && seq (Gr (lbN s i)) (Gr (lbN s i))) && true)=true;rw [eSq];rfl
   | false =>
    cases ieq (ed9 s i).kind 6 with
    | true=>exact Kw (l:=[xr6 s i,ad6 s i]) rfl (Vh i _)
    | false=>exact Vh i _
theorem Aa5 (u:Nat):∀ m,bnB (cdL s m u)=true
 | 0=>rfl
 | m+1=>by
  rw [cdL];cases Nat.beq u (toN (s.X m).th) with
  | true=>exact Kw (Aa5 u m) (Aga m)
  | false=>exact Aa5 u m
theorem Yg (i:Nat) (a:Int):∀ I,I ∈ (tl9 s i a).flatten->ieq I.op 12=false:=by
 intro I;unfold tl9;cases ieq (s.X i).dir 1 <;> cases ieq (ed9 s i).kind 7 <;> intro h <;> simp at h
 ·rcases h with rfl | rfl <;> rfl
 ·rcases h with rfl | rfl | rfl <;> rfl
 ·subst h; rfl
 ·subst h; rfl
theorem AeR {l:List In8} (h:∀ I,I ∈ l->ieq I.op 12=false):l.Pairwise Ap:=by
 induction l with
 | nil=>exact .nil
 | cons I l ih =>refine .cons (λJ _ h1 _=>?_) (ih λJ hJ=>h J (List.mem_cons_of_mem _ hJ));rw [h I List.mem_cons_self] at h1;cases h1
theorem Agb (i:Nat):(D2 s i).flatten.Pairwise Ap∧lbN s i <= lbN s (i+1)∧∀ I,I ∈ (D2 s i).flatten->ieq I.op 12=true->I.lab=Gr (lbN s i)∧lbN s (i+1)=lbN s i+1:=by
 have no:∀ (l:List In8) (q:Nat),lbN s i <= q->(∀ I,I ∈ l->ieq I.op 12=false)->l.Pairwise Ap∧lbN s i <= q∧∀ I,I ∈ l->ieq I.op 12=true->I.lab=Gr (lbN s i)∧q=lbN s i+1 :=
  λl q hl h=>⟨AeR h,hl,λI hI h12=>by rw [h I hI] at h12; cases h12⟩
 have two:∀ (x:List In8) (a:Int),(∀ I,I ∈ x->ieq I.op 12=false)->∀ I,I ∈ (x::tl9 s i a).flatten->ieq I.op 12=false:=λx a h I hI=>by
  rw [List.flatten_cons] at hI;rcases List.mem_append.1 hI with h1 | h1
  ·exact h I h1
  ·exact Yg i a I h1
 rw [PH];rw [lbN];cases ilt 0 (s.X i).pl with
 | false =>
  refine no _ _ (Nat.le_refl _) ?_;intro I;cases ieq (s.X i).dir 1 <;> intro h <;> simp at h
  ·rcases h with rfl | rfl <;> rfl
  ·subst h; rfl
 | true =>
  rw [cond_true,cond_true];cases ieq (ed9 s i).kind 5 with
  | true =>refine no _ _ (Nat.le_refl _) (two _ _ λI h=>?_);simp at h;subst h;rfl
  | false =>
   rw [cond_false,cond_false];cases ieq (ed9 s i).kind 8 with
   | true =>
    rw [cond_true,cond_true,List.flatten_cons];have h2:=Yg (s:=s) i (at9 s i);refine ⟨.cons (λJ _ h1 _=>by cases h1) (.cons (λJ hJ _ h12=>?_) (AeR h2)),Nat.le_succ _,λI hI h12=>?_⟩
    ·have hJ:J ∈ (tl9 s i (at9 s i)).flatten:=hJ
     rw [h2 J hJ] at h12;cases h12
    ·rcases List.mem_append.1 hI with h | h
     ·simp at h
      rcases h with rfl | rfl
      ·cases h12
      ·exact ⟨rfl,rfl⟩
     ·rw [h2 I h] at h12
      cases h12
   | false =>
    rw [cond_false,cond_false];cases ieq (ed9 s i).kind 6 with
    | true =>refine no _ _ (Nat.le_refl _) (two _ _ λI h=>?_);simp at h;rcases h with rfl | rfl <;> rfl
    | false=>exact no _ _ (Nat.le_refl _) (Yg i _)
theorem AeO (u:Nat):∀ m,m <= 16->(cdL s m u).Pairwise Ap∧∀ I,I ∈ cdL s m u->ieq I.op 12=true->∃ k,k<lbN s m∧I.lab=Gr k
 | 0,_=>⟨.nil,λI h=>by cases h⟩
 | m+1,hm=>by
  obtain ⟨h1,h2⟩:=AeO u m (by omega);obtain ⟨h3,h4,h5⟩:=Agb (s:=s) m;have hl:=Sk s m;rw [cdL];cases Nat.beq u (toN (s.X m).th) with
  | true =>
   rw [cond_true];refine ⟨List.pairwise_append.2 ⟨h1,h3,λI hI J hJ hI2 hJ2=>?_⟩,λI hI h12=>?_⟩
   ·obtain ⟨k,hk,he⟩:=h2 I hI hI2
    rw [he,(h5 J hJ hJ2).1];exact Ahs (by omega) (by omega) (by omega)
   ·rcases List.mem_append.1 hI with h | h
    ·obtain ⟨k,hk,he⟩:=h2 I h h12
     exact ⟨k,by omega,he⟩
    ·obtain ⟨he,hk⟩:=h5 I h h12
     exact ⟨lbN s m,by omega,he⟩
  | false =>
   rw [cond_false];exact ⟨h1,λI hI h12=>by
    obtain ⟨k,hk,he⟩:=h2 I hI h12;exact ⟨k,by omega,he⟩⟩
theorem ZQ {l:List In8} {i:Nat} (hi:i<CS l):JW l i ∈ l:=by
 unfold JW;rw [List.getD_eq_getElem?_getD,List.getElem?_eq_getElem hi];exact List.getElem_mem hi
theorem AjT (hg:Gs s) (hx:Gx s) (u:Nat):LkOK (CS (cdL s s.nx u)) (I6 s u):=by
 obtain ⟨h1,h2⟩:=AeO (s:=s) u s.nx hg.hi;refine ⟨?_,λi hi=>Aa3 hg hx u s.nx (Nat.le_refl _) _ (ZQ hi),λi hi h12 k hk hk12=>?_,λi hi h11=>AaB (Aa5 u s.nx) i hi h11⟩
 ·have:=NP s u s.nx
  have:=hg.hi;omega
 ·exact AeS h1 i hi k hk hk12 h12
end
end Go.Proofs.YtkbafjceglhjhaaGreatDoor.Er
namespace Go.Proofs.YtkbafjceglhjhaaGreatDoor.Er
open Go.Sy Go Go.Proofs.YtkbafjceglhjhaaGreatDoor.Ed Go.Proofs.YtkbafjceglhjhaaGreatDoor.Sh
open Int (ofNat)
set_option maxRecDepth 100000
set_option maxHeartbeats 1000000
theorem NL {α:Type} (q:α->Bool) (z:α):∀ l:List α,Ai (λi=>q (l.getD i z)) l.length=l.countP q
 | []=>rfl
 | a::l=>by
  have h:=HW (λi=>q ((a::l).getD i z)) 1 l.length;rw [List.length_cons,Nat.add_comm,h,List.countP_cons,<- NL q z l];have e:(λi=>q ((a::l).getD (1+i) z))=λi=>q (l.getD i z):=by
   funext i;rw [Nat.add_comm];rfl
  rw [e,Nat.add_comm];congr 1;show Ai (λi=>q ((a::l).getD i z)) (0+1)=_;cases hq:q a with
  | true=>rw [Bp (show q ((a::l).getD 0 z)=true from hq)]; rfl
  | false=>rw [B6 (show q ((a::l).getD 0 z)=false from hq)]; rfl
theorem Pk (p:Nat->Bool):∀ k,(List.range k).countP p=Ai p k
 | 0=>rfl
 | k+1=>by
  rw [List.range_succ,List.countP_append,Pk p k];cases hp:p k with
  | true=>rw [Bp hp,List.countP_cons,hp]; rfl
  | false=>rw [B6 hp,List.countP_cons,hp]; rfl
theorem QM {p:Nat->Bool}:∀ n,(∀ i j,i<j->j<n->p i=true->p j=true->False)->Ai p n <= 1
 | 0,_=>Nat.zero_le _
 | n+1,h=>by
  cases hp:p n with
  | true =>
   rw [Bp hp,Dc λi hi=>by
    cases hq:p i with
    | false=>rfl
    | true=>exact (h i n hi (Nat.lt_succ_self _) hq hp).elim]
   omega
  | false =>rw [B6 hp];exact QM n λi j h1 h2=>h i j h1 (by omega)
theorem Adp {p:Nat->Bool} {i n:Nat} (hi:i<n) (h:p i=true):1 <= Ai p n:=by
 have h1:=AO p (show i+1 <= n by omega);rw [Bp h] at h1;omega
section
variable (s:Sh7) (u r:Nat)
def qT (e:Nt):Bool:=Aj (ieq e.th (ofNat u)) (ieq e.rg (ofNat r))
theorem Uj (a b:Nat):ieq (ofNat a) (ofNat b)=Nat.beq a b:=by
 cases h:Nat.beq a b with
 | true=>rw [Nat.eq_of_beq_eq_true h]; exact eI _
 | false=>exact decide_eq_false λe=>Nat.ne_of_beq_eq_false h (Int.ofNat.inj e)
theorem AcX (t k:Nat):(inT s t k).countP (qT u r)=if t=u then Ai (λj=>Nat.beq (7+j) r) k else 0:=by
 unfold inT;rw [List.countP_map,Pk];have e:∀ j,(qT u r ∘ ntI s t) j=(Nat.beq t u && Nat.beq (7+j) r):=λj=>by
  show Aj (ieq (ofNat t) (ofNat u)) (ieq (ofNat (7+j)) (ofNat r))=_;rw [Uj,Uj];rfl
 by_cases h:t=u
 ·subst h
  rw [if_pos rfl];exact BZ k λj _=>by rw [e,Nat.beq_refl]; rfl
 ·rw [if_neg h]
  exact Dc λj _=>by
   rw [e];cases hb:Nat.beq t u with
   | true=>exact absurd (Nat.eq_of_beq_eq_true hb) h
   | false=>rfl
theorem VT:∀ t,(inL s t).countP (qT u r)=if u<t then Ai (λj=>Nat.beq (7+j) r) (Bn (locL s s.nx u)) else 0
 | 0=>rfl
 | t+1=>by
  rw [inL,List.countP_append,VT t,AcX];by_cases h1:t=u
  ·subst h1
   rw [if_pos rfl,if_neg (by omega),if_pos (by omega),Nat.zero_add]
  ·rw [if_neg h1]
   by_cases h2:u<t
   ·rw [if_pos h2,if_pos (by omega)]
    rfl
   ·rw [if_neg h2,if_neg (by omega)]
theorem AlS (hu:u<toN s.tt):bI s u r=Ai (λj=>Nat.beq (7+j) r) (Bn (locL s s.nx u)):=by
 unfold bI;rw [Nat.zero_add];exact (NL (qT u r) zT _).trans ((VT s u r _).trans (if_pos hu))
def qC (I:In8):Bool:=Aj (ile 7 (dsI I)) (ieq (dsI I) (ofNat r))
def wR (k:Nat):Bool:=isT s u k && (isR s k && Nat.beq (7+Bn (locL s s.nx u)+nrF s k u) r)
end
section
variable {s:Sh7} {u r:Nat}
theorem P4 (i:Nat) (a:Int):(tl9 s i a).flatten.countP (qC r)=(if isR s i && qC r (lwI s i a) then 1 else 0):=by
 unfold tl9 isR;cases ieq (s.X i).dir 1 with
 | true =>show [lwI s i a].countP (qC r)=_;rw [List.countP_cons];cases qC r (lwI s i a) <;> rfl
 | false=>cases ieq (ed9 s i).kind 7 <;> rfl
theorem qlw (i:Nat) (a b:Int):qC r (lwI s i a)=qC r (lwI s i b):=rfl
theorem AbE (i:Nat):(D2 s i).flatten.countP (qC r)=(if isR s i && qC r (lwI s i 0) then 1 else 0):=by
 rw [PH];cases ilt 0 (s.X i).pl with
 | false =>
  unfold isR;cases ieq (s.X i).dir 1 with
  | true =>show [lwI s i (at9 s i)].countP (qC r)=_;rw [List.countP_cons,qlw i (at9 s i) 0];cases qC r (lwI s i 0) <;> rfl
  | false=>rfl
 | true =>
  rw [cond_true];cases ieq (ed9 s i).kind 5 with
  | true =>rw [cond_true,List.flatten_cons,List.countP_append,P4,show [fcI s i].countP (qC r)=0 from rfl,Nat.zero_add,qlw i (at9 s i) 0]
  | false =>
   rw [cond_false];cases ieq (ed9 s i).kind 8 with
   | true =>rw [cond_true,List.flatten_cons,List.countP_append,P4,show [bnI s i (Gr (lbN s i)),lbI (Gr (lbN s i))].countP (qC r)=0 from rfl,Nat.zero_add,qlw i (at9 s i) 0]
   | false =>
    rw [cond_false];cases ieq (ed9 s i).kind 6 with
    | true =>rw [cond_true,List.flatten_cons,List.countP_append,P4,show [xr6 s i,ad6 s i].countP (qC r)=0 from rfl,Nat.zero_add,qlw i 6 0]
    | false =>rw [cond_false,P4,qlw i (at9 s i) 0]
theorem AdX {k:Nat} (hk:k<s.nx) (hT:isT s u k=true) (hR:isR s k=true):rI9 s k=ofNat (7+Bn (locL s s.nx u)+nrF s k u)∧hsF s s.nx u (ofNat k)=true:=by
 have hu:u=toN (s.X k).th:=Nat.eq_of_beq_eq_true hT;have hh:hsF s s.nx u (ofNat k)=true:=by
  rw [Hh];unfold hsX;rw [show toN (ofNat k)=k from rfl,hT,hR,show ilt (ofNat k) (ofNat s.nx)=true from ofNat_lt hk];simp [ile]
 refine ⟨?_,hh⟩;unfold rI9;rw [<- hu];unfold gtF;rw [hh];rfl
theorem Aa4:∀ m,m <= s.nx->(cdL s m u).countP (qC r)=Ai (wR s u r) m
 | 0,_=>rfl
 | m+1,hm=>by
  have ih:=Aa4 m (by omega);rw [cdL];cases hT:Nat.beq u (toN (s.X m).th) with
  | false=>rw [cond_false,B6 (by unfold wR isT; rw [hT]; rfl),ih]
  | true =>
   have hT:isT s u m=true:=hT;rw [cond_true,List.countP_append,AbE,ih];cases hR:isR s m with
   | false=>rw [B6 (by unfold wR; rw [hR,hT]; rfl)]; rfl
   | true =>
    have hq:qC r (lwI s m 0)=Nat.beq (7+Bn (locL s s.nx u)+nrF s m u) r:=by
     have e:=(AdX (show m<s.nx by omega) hT hR).1;show Aj (ile 7 (rI9 s m)) (ieq (rI9 s m) (ofNat r))=_;rw [e,Uj,show ile 7 (ofNat (7+Bn (locL s s.nx u)+nrF s m u))=true from decide_eq_true (by show (7:Int) <= ((_:Nat):Int); omega)];rfl
    rw [hq];cases hb:Nat.beq (7+Bn (locL s s.nx u)+nrF s m u) r with
    | true=>rw [Bp (by unfold wR; rw [hR,hT,hb]; rfl)]; rfl
    | false=>rw [B6 (by unfold wR; rw [hR,hT,hb]; rfl)]; rfl
theorem Aiq (hu:u<toN s.tt):wE s u r=ofNat (Ai (λj=>Nat.beq (7+j) r) (Bn (locL s s.nx u))+Ai (wR s u r) s.nx):=by
 unfold wE wC wW;rw [AlS s u r hu];have:Ai (cP s u r) (CS (cdL s s.nx u))=Ai (wR s u r) s.nx:=(NL (qC r) zI _).trans (Aa4 s.nx (Nat.le_refl _));rw [this]
theorem XX:Ai (wR s u r) s.nx <= 1:=QM _ λi j hij _ h1 h2=>by
 unfold wR at h1 h2;simp only [Bool.and_eq_true] at h1 h2;have e1:=Nat.eq_of_beq_eq_true h1.2.2;have e2:=Nat.eq_of_beq_eq_true h2.2.2;have h3:=AO (λk=>isT s u k && isR s k) (show i+1 <= j by omega);rw [Bp (by rw [h1.1,h1.2.1]; rfl)] at h3;unfold nrF at e1 e2;omega
theorem Ahx (n:Nat):Ai (λj=>Nat.beq (7+j) r) n <= 1:=QM _ λi j hij _ h1 h2=>by
 have e1:=Nat.eq_of_beq_eq_true h1;have e2:=Nat.eq_of_beq_eq_true h2;omega
theorem VQ {n:Nat} (h:7+n <= r):Ai (λj=>Nat.beq (7+j) r) n=0:=Dc λi hi=>by
 cases hb:Nat.beq (7+i) r with
 | false=>rfl
 | true=>have:=Nat.eq_of_beq_eq_true hb; omega
theorem AaZ (h:r<7+Bn (locL s s.nx u)):Ai (wR s u r) s.nx=0:=Dc λi _=>by
 cases hb:wR s u r i with
 | false=>rfl
 | true =>unfold wR at hb;simp only [Bool.and_eq_true] at hb;have:=Nat.eq_of_beq_eq_true hb.2.2;omega
theorem AfL (hu:u<toN s.tt):ilt 1 (wE s u r)=false:=by
 rw [Aiq hu];refine decide_eq_false ?_;show ¬ ((1:Int)<((_:Nat):Int));have h1:=XX (s:=s) (u:=u) (r:=r);have h2:=Ahx (r:=r) (Bn (locL s s.nx u));rcases Nat.lt_or_ge r (7+Bn (locL s s.nx u)) with h | h
 ·have:=AaZ h
  omega
 ·have:=VQ h
  omega
end
end Go.Proofs.YtkbafjceglhjhaaGreatDoor.Er
namespace Go.Proofs.YtkbafjceglhjhaaGreatDoor.Er
open Go.Sy Go Go.Proofs.YtkbafjceglhjhaaGreatDoor.Ed Go.Proofs.YtkbafjceglhjhaaGreatDoor.Sh
set_option maxRecDepth 100000
set_option maxHeartbeats 1000000
theorem Ac2:(List.range 16).all (λk=>!seq (E1 (Int.ofNat k)) [])=true:=by kernel_rfl
theorem Ac3 {k:Nat} (h:k<16):seq (E1 (Int.ofNat k)) []=false:=by
 have:=List.all_eq_true.1 Ac2 k (by simpa using h);simpa using this
section
variable {s:Sh7}
theorem Qm (hx:Gx s) (u:Nat):∀ m,m <= s.nx->∀ x,x ∈ locL s m u->∃ k,k<16∧x=Int.ofNat k
 | 0,_,x,h=>by cases h
 | m+1,hm,x,h=>by
  rw [locL] at h;cases hc:Nat.beq u (toN (s.X m).th) && ieq (Hu (Bn (locL s m u)) (E3 (locL s m u)) (s.X m).loc) 0 with
  | true =>
   rw [hc,cond_true] at h;rcases List.mem_append.1 h with h | h
   ·exact Qm hx u m (by omega) x h
   ·simp at h
    subst h;exact hx.loc m (by omega)
  | false =>rw [hc,cond_false] at h;exact Qm hx u m (by omega) x h
theorem VS:∀ t,∀ e,e ∈ inL s t->∃ u j,j<Bn (locL s s.nx u)∧e=ntI s u j
 | 0,e,h=>by cases h
 | t+1,e,h=>by
  rw [inL] at h;rcases List.mem_append.1 h with h | h
  ·exact VS t e h
  ·unfold inT at h
   obtain ⟨j,hj,rfl⟩:=List.mem_map.1 h;exact ⟨t,j,by simpa using hj,rfl⟩
theorem AiG (hg:Gs s) (hx:Gx s) {u:Nat} (hu:u<toN s.tt):RgOK s u:=by
 have hp:=B0 (JV hg);refine ⟨?_,λi hi=>?_,AjT hg hx u,λi hi hth hd=>?_,λr _=>AfL hu⟩
 ·have h1:=Qu s (toN s.tt)
  have h2:toN s.tt * s.nx <= 16 * 16:=Nat.mul_le_mul hp.2.1 hp.1;unfold Dy;omega
 ·have hm:ID (inL s (toN s.tt)) i ∈ inL s (toN s.tt):=by
   unfold Dy at hi;unfold ID;rw [List.getD_eq_getElem?_getD,List.getElem?_eq_getElem hi];exact List.getElem_mem hi
  obtain ⟨v,j,hj,e⟩:=VS _ _ hm;rw [e];have h12:=Nh hg hx v;have hl:E3 (locL s s.nx v) j ∈ locL s s.nx v:=by
   unfold Bn at hj;unfold E3;rw [List.getD_eq_getElem?_getD,List.getElem?_eq_getElem hj];exact List.getElem_mem hj
  obtain ⟨k,hk,hv⟩:=Qm hx v s.nx (Nat.le_refl _) _ hl;refine ⟨decide_eq_false (by show ¬ (((7+j:Nat):Int)<7); omega),decide_eq_false (by show ¬ ((31:Int)<((7+j:Nat):Int)); omega),?_⟩;show seq (E1 (E3 (locL s s.nx v) j)) []=false;rw [hv];exact Ac3 hk
 ·have hT:isT s u i=true:=by
   unfold isT;rw [show toN (s.X i).th=u by rw [Cc hth]; rfl];exact Nat.beq_refl u
  obtain ⟨e1,e2⟩:=AdX hi hT hd;have e3:rg9 s i=Int.ofNat (7+Bn (locL s s.nx u)+nrF s i u):=by
   unfold rg9;rw [<- show u=toN (s.X i).th from Nat.eq_of_beq_eq_true hT,e2,cond_true,e1]
  have h1:=Nh hg hx u;have h2:=Aei hg hx hi hT;rw [e3];refine ⟨decide_eq_false (by show ¬ (((_:Nat):Int)<7); omega),decide_eq_false (by show ¬ ((31:Int)<((_:Nat):Int)); omega),?_⟩;show ieq (wE s u (7+Bn (locL s s.nx u)+nrF s i u)) 1=true;rw [Aiq hu,VQ (by omega)];have h3:=XX (s:=s) (u:=u) (r:=7+Bn (locL s s.nx u)+nrF s i u);have h4:=Adp (p:=wR s u (7+Bn (locL s s.nx u)+nrF s i u)) hi (by
   unfold wR;rw [hT,show isR s i=true from hd,Nat.beq_refl];rfl)
  rw [show Ai (wR s u (7+Bn (locL s s.nx u)+nrF s i u)) s.nx=1 by omega];rfl
end
end Go.Proofs.YtkbafjceglhjhaaGreatDoor.Er
namespace Go.Proofs.YtkbafjceglhjhaaGreatDoor.Er
open Go.Sy Go Go.Proofs.YtkbafjceglhjhaaGreatDoor.Ed Go.Proofs.YtkbafjceglhjhaaGreatDoor.Sh
set_option maxRecDepth 100000
set_option maxHeartbeats 1000000
section
variable {s:Sh7} (hg:Gs s) {i:Nat} (hi:i<s.nx)
theorem m1:ile 0 (-1)=false:=rfl
include hg hi
end
section
variable {s:Sh7} (hg:Gs s)
def ltT (s:Sh7) (u k:Nat):Bool:=Nat.blt (tN s k) u
def q0 (s:Sh7) (u:Nat):Nat:=Ai (ltT s u) s.nx
include hg
end
end Go.Proofs.YtkbafjceglhjhaaGreatDoor.Er
namespace Go.Proofs.YtkbafjceglhjhaaGreatDoor.Er
open Go.Sy Go Go.Proofs.YtkbafjceglhjhaaGreatDoor.Ed Go.Proofs.YtkbafjceglhjhaaGreatDoor.Sh
set_option maxRecDepth 100000
set_option maxHeartbeats 1000000
section
variable (s:Sh7)
def g6 (_:Nat) (_:Unit):T (Unit ⊕ (Ex×St)):=.leaf (.inl ())
end
theorem tb6_ok:Ar Tryz.prog Gl tb6:=.cons p9 <| .cons p11 <| .cons p10 <| .cons p18 .nil
def Xt (s:Sh7):A9:=.br (CJ s.ne) (.br (Aj (Ao s.ne) (Aj (Ao s.nx) (Aj (Ao s.nr) (Aj (Ao s.nc) (Be s.nc (λi=>Ao (s.C i).1)))))) (.br (ieq (G2 s) 0) (.leaf (bV true,[])) (.leaf (bV true,[]))) .fail) .fail
end Go.Proofs.YtkbafjceglhjhaaGreatDoor.Er
namespace Go.Proofs.YtkbafjceglhjhaaGreatDoor.Sh
open Go.Sy Go Go.Proofs.YtkbafjceglhjhaaGreatDoor.Ed
theorem Mm {α β:Type} (c:Cod α) (n:Nat) (f:Nat->α) (F:Nat->(Nat->α)->T β) (h1:∀ x,c.ok (c.enc x)=true) (h2:∀ x,c.ed (c.enc x)=x):(apG c (HI c n f) F).sem=(F n f).sem:=by
 have h0:U2 c.size (HI c n f)=some (n,λi=>c.enc (f i)):=by
  show (match Nat.beq c.size c.size with
   | true=>some (n,λi=>c.enc (f i))
   | false=>match n with
    | 0=>some (0,λi=>c.enc (f i))
    | _=>none)=_
  rw [show Nat.beq c.size c.size=true from Nat.beq_refl _]
 unfold apG;rw [h0];show sel (Be n λi=>c.ok (c.enc (f i))) (F n λi=>c.ed (c.enc (f i))).sem none=_;rw [show (Be n λi=>c.ok (c.enc (f i)))=true from AE.2 λi _=>h1 _];rw [show (λi=>c.ed (c.enc (f i)))=f from funext λi=>h2 _];rfl
theorem apS_sem {β:Type} (s:Sh7) (F:Sh7->T β):(apS (GQ s) F).sem=(F s).sem:=by
 obtain ⟨a,n,g,m,x,t,k,p,r,q,C⟩:=s;show (apG codE (HI codE n g) λne E=>apG QK (HI QK m x) λnx X=>apG QL (HI QL p r) λnr R=>apG codJ (HI codJ q C) λnc C=>F ⟨a,ne,E,nx,X,t,k,nr,R,nc,C⟩).sem=_;rw [Mm codE n g _ (λ_=>rfl) (λ_=>rfl),Mm QK m x _ (λ_=>rfl) (λ_=>rfl),Mm QL p r _ (λ_=>rfl) (λ_=>rfl),Mm codJ q C _ (λx=>?_) (λ_=>rfl)];show (match U2 1 (.sl 1 x.1 λi=>iV (x.2 i)) with
  | some (n,g)=>Be n λi=>okI (g i)
  | none=>false)=true
 exact AE.2 λ_ _=>rfl
end Go.Proofs.YtkbafjceglhjhaaGreatDoor.Sh
namespace Go.Proofs.YtkbafjceglhjhaaGreatDoor.Er
open Go.Sy Go Go.Proofs.YtkbafjceglhjhaaGreatDoor.Ed Go.Proofs.YtkbafjceglhjhaaGreatDoor.Sh
theorem AcK {s:Sh7} (h1:s.ne * 40 <= 140737488355328) (h2:s.nx * 40 <= 140737488355328) (h3:s.nr * 8 <= 140737488355328) (h4:s.nc * 24 <= 140737488355328) (h5:∀ i,i<s.nc->(s.C i).1 * 8 <= 140737488355328):(shT Xt [GQ s]).sem=some (bV true,[]):=by
 show (Sh.apS (GQ s) Xt).sem=_;rw [Sh.apS_sem];have hs:∀ n:Nat,n * 8 <= 140737488355328->Ao n=true:=λn h=>decide_eq_true (by omega);have hb:Aj (Ao s.ne) (Aj (Ao s.nx) (Aj (Ao s.nr) (Aj (Ao s.nc) (Be s.nc (λi=>Ao (s.C i).1)))))=true :=
  (Js (hs _ (by omega))).trans<|(Js (hs _ (by omega))).trans<|(Js (hs _ (by omega))).trans<|(Js (hs _ (by omega))).trans<|AE.2 λi hi=>hs _ (h5 i hi)
 unfold Xt;rw [show CJ s.ne=true from decide_eq_true h1,hb];cases ieq (G2 s) 0 <;> rfl
end Go.Proofs.YtkbafjceglhjhaaGreatDoor.Er
namespace Go.Proofs.YtkbafjceglhjhaaGreatDoor.Er
open Go.Sy Go Go.Proofs.YtkbafjceglhjhaaGreatDoor.Ed Go.Proofs.YtkbafjceglhjhaaGreatDoor.Sh
set_option maxRecDepth 100000
set_option maxHeartbeats 1000000
theorem Aix {s:Sh7} (hg:Gs s):ieq (Int.ofNat (toN s.tt)) s.tt=true:=by
 have:=hg.tt;exact decide_eq_true (by rw [this]; rfl)
theorem Ajs (hR:∀ s:Sh7,ieq (G2 s) 0=true->∀ u,u<toN s.tt->RgOK s u):As Tryz.prog Gl 5 (shT Xt):=MD Tryz.func5 (by kernel_rfl) (by kernel_rfl) (Γ:=λ_=>cxA Gl tb5 ls5) (λ_=>rfl) (λ_=>Bs tb5_ok ls5)
 λs r h=>DK.of h (.k (eL s.ne) <| .k (eL s.nx) <| .k (eL s.nr) <| .k (eL2 s.nc s.C) <| .g λh1=>.k h1 <| .g λh2=>.k h2 <|
  .c (λh3=>.k h3 <| .k (AcY (good h3)) <| .k (eL s.ne) <| .k (eL s.nx) <| .k (eL s.nr) <| .k (eL2 s.nc s.C) <| .k h1 <| .k h2 <| .k h3 <| .k (JV (good h3)) <| .k (eL s.ne) <| .k (eL s.nx) <| .k (eL s.nr) <| .k (eL2 s.nc s.C) <| .k h1 <| .k h2 <| .k h3 <| .k (JV (good h3)) <| .r 10 (eN (eI 0)) <| .r 7 (eN (Aix (good h3))) <| .k (eN (eI (Int.ofNat s.nx))) <| .a (r5 (JV (good h3)) (hR s h3)) <| .l)
   λh3=>.k h3 <| .k (eL s.ne) <| .k (eL s.nx) <| .k (eL s.nr) <| .k (eL2 s.nc s.C) <| .k h1 <| .k h2 <| .k h3 <| .k (eL s.ne) <| .k (eL s.nx) <| .k (eL s.nr) <| .k (eL2 s.nc s.C) <| .k h1 <| .k h2 <| .k h3 <| .k (eN h3) <| .k (eL s.ne) <| .k (eL s.nx) <| .k (eL s.nr) <| .k (eL2 s.nc s.C) <| .k h1 <| .k h2 <| .k h3 <| .r 12 (eI (G2 s)) <| .r 2 (eI 0) <| .l) (by kernel_rfl)
theorem p5:As Tryz.prog Gl 5 (shT Xt):=Ajs λs h u hu=>AiG (good h) (Akl h) hu
end Go.Proofs.YtkbafjceglhjhaaGreatDoor.Er
