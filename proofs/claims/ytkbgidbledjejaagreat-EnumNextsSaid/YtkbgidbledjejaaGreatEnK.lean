/-
  Layer 6: where the search goes on to, told by lists. Conditions: its lists are short, their places in the vocabulary.
-/
import Derived.Test.YtkbgidbledjejaaGreatEnH
import Derived.Test.YtkbgidbledjejaaGreatCyU
namespace Go.Proofs.YtkbgidbledjejaaGreat.En
open Go.Sy Go Go.Proofs.YtkbgidbledjejaaGreat.Ed
open Int (ofNat)
theorem G2 {n:Nat} {h g:Nat->Int} (e:∀ i,i<n->g i=h i):∀ q i t s,E8 n g q i t s=E8 n h q i t s
 | 0,_,_,_=>rfl
 | q+1,i,t,s=>by
  unfold E8;by_cases hc:n <= i ∨ n <= t ∨ n <= s
  ·rw [if_pos hc,if_pos hc]
  ·have hn:0<n:=by omega
   rw [if_neg hc,if_neg hc,e _ (Nat.mod_lt _ hn),e _ (Nat.mod_lt _ hn),G2 e,G2 e,G2 e]
theorem IS {n:Nat} {f g:Nat->E6} (e:∀ i,i<n->g i=f i) {i:Nat} (hi:i<n):JB n g i=JB n f i:=by
 unfold JB;rw [show DI n (λi=>Al (g i))=DI n (λi=>Al (f i)) from G2 (λi hi=>congrArg Al (e i hi)) _ _ _ _];exact e _ (Nat.mod_lt _ (by omega))
theorem Nx {a:Int} {n:Nat} {f g:Nat->E6} (e:∀ i,i<n->g i=f i):isB a n g=isB a n f:=by
 unfold isB;rw [QS e];have hm:By n g=By n f:=by
  rw [Bool.eq_iff_iff,Bw,Bw];exact ⟨λh i hi=>by rw [<- e i hi]; exact h i hi,λh i hi=>by rw [e i hi]; exact h i hi⟩
 have hs:EB n (JB n g) n g=EB n (JB n f) n f:=by
  rw [Bool.eq_iff_iff,CM,CM];exact ⟨λh=>⟨rfl,λi hi=>by rw [<- IS e hi,h.2 i hi,e i hi]⟩,λh=>⟨rfl,λi hi=>by rw [IS e hi,h.2 i hi,e i hi]⟩⟩
 rw [hm,hs]
theorem Yl {n:Nat} {x y x' y':Nat->Int} (h:∀ i,i<n->x i=x' i) (g:∀ i,i<n->y i=y' i):RJ n x y=RJ n x' y':=by
 have e:A1 (sgQ x y) n 0=A1 (sgQ x' y') n 0:=CP n 0 λk _ hk=>by show AL (ieq (sgI (x k) (y k)) 0)=AL (ieq (sgI (x' k) (y' k)) 0); rw [h k (by omega),g k (by omega)]
 unfold RJ tO;rw [e];cases hq:A1 (sgQ x' y') n 0 with
 | none=>rfl
 | some t =>have:=Eh hq;show sgI (x t) (y t)=sgI (x' t) (y' t);rw [h t (by omega),g t (by omega)]
theorem Xw {n:Int} {m:Nat} {v:Nat->E6} {L:Nat} {x y:Nat->Int} (hL:0<L) (h:∀ i,i<L->x i=y i):PP n m v L x=PP n m v L y:=by
 have e:A1 (Ui L x) (L-1) 1=A1 (Ui L y) (L-1) 1:=CP (L-1) 1 λb h1 h2=>by
  unfold Ui;rw [Yl (x':=λi=>y (Bh b i)) (y':=y) (λi hi=>h _ (by have hi:i<L-b:=hi; show b+i<L; omega)) λi hi=>h i (by have hi:i<L-b:=hi; omega)]
 unfold PP Uj JA;rw [e,h 0 hL,h (L-1) (by omega)]
structure Rep (r:List Nat) (L:Nat) (x:Nat->Int):Prop where
 len:L=r.length
 at_:∀ i,i<L->x i=ofNat (wd r i)
structure Inv (m n:Nat) (r:List Nat):Prop where
 ne:r ≠ []
 lt:∀ e,e ∈ r->e<m
 le:r.length <= n
abbrev wdI (r:List Nat) (i:Nat):Int:=ofNat (wd r i)
def Fy (n:Int) (m:Nat) (v:Nat->E6) (r:List Nat):Bool:=PP n m v r.length (wdI r)
def BW (a:Int) (v:Nat->E6) (r:List Nat):Bool:=isB a r.length (wE v r)
section
variable {a n:Int} {m N:Nat} {v:Nat->E6} {L:Nat} {x:Nat->Int} {r:List Nat}
theorem Inv.pos (h:Inv m N r):0<r.length:=List.length_pos_iff.2 h.ne
theorem Rep.sr (h:Rep r L x) (hi:Inv m N r) (hN:N <= 64) (hm:m <= 128):srG m L x=true:=by
 have h0:=hi.pos;have hl:=hi.le;have he:=h.len;unfold srG nlt Cr;rw [decide_eq_true (show 0<L by omega),decide_eq_true (show L <= 4611686018427387904 by omega),decide_eq_true (show m <= 4611686018427387904 by omega)];exact Bd.2 λi hi'=>by
  rw [h.at_ i hi'];exact Af (hi.lt _ (MM (by omega)))
theorem Rep.opn (h:Rep r L x) (hi:Inv m N r):PP n m v L x=Fy n m v r:=by
 have h0:=hi.pos;unfold Fy;rw [<- h.len];exact Xw (by have:=h.len; omega) h.at_
theorem Rep.good (h:Rep r L x):isB a L (λi=>v (toN (x i)))=BW a v r:=by
 unfold BW;rw [<- h.len];exact Nx λi hi=>by rw [h.at_ i hi]; rfl
theorem An7 (a b:Nat):ile (ofNat a) (ofNat b)=Nat.ble a b:=by
 rw [Bool.eq_iff_iff,Nat.ble_eq];simp only [ile,decide_eq_true_eq,Int.ofNat_eq_natCast];omega
theorem Rep.fit (h:Rep r L x) (hi:Inv m N r):Q8 v L x=Do v r:=by
 match r,hi.ne with
 | [e],_ =>have:=h.len;obtain rfl:L=1:=this;rfl
 | e::y::t,_ =>
  obtain rfl:L=t.length+2:=h.len;unfold Q8;rw [h.at_ _ (by omega),h.at_ _ (by omega),h.at_ 0 (by omega),ZU (by simp),show t.length+2-1=(y::t).length from rfl,Gx,show t.length+2-2=t.length from rfl,show wd (e::y::t) t.length=y by
   rw [show e::y::t=[e]++y::t from rfl,Ir (by simp)];exact Gx,An7]
  show sel (ieq (v y).dst (v e).src) _ false=(ieq (v y).dst (v e).src && _);cases ieq (v y).dst (v e).src <;> rfl
theorem O3 {y e i:Nat} (h:i<r.length):wd (e::r) i=wd r i:=Ir (x:=[e]) h
theorem Rep.push (h:Rep r L x) {e:Nat}:Rep (e::r) (L+1) (K3 L x (ofNat e)) where
 len:=by rw [h.len]; rfl
 at_ i hi:=by
  unfold K3;by_cases hq:i=L
  ·subst hq
   rw [Nat.beq_refl,h.len,Gx];rfl
  ·rw [Gs hq,O3 (y:=0) (by have:=h.len; omega)]
   exact h.at_ i (by omega)
theorem Nf (hm:0<m):∀ {r:List Nat} {L:Nat},Rep r L x->(∀ e,e ∈ r->e<m)->(PG m x L=0∧EA m r=none) ∨ ∃ y t,EA m r=some ((y+1)::t)∧PG m x L=t.length+1∧x t.length=ofNat y∧(∀ i,i<t.length->x i=ofNat (wd t i))∧y+1<m∧(∀ e,e ∈ t->e<m)∧t.length<r.length
 | [],L,h,_=>.inl ⟨by rw [h.len]; rfl,rfl⟩
 | y::t,L,h,hl=>by
  obtain rfl:L=t.length+1:=h.len;have hy:x t.length=ofNat y:=by rw [h.at_ _ (by omega),Gx]
  have ht:∀ i,i<t.length->x i=ofNat (wd t i):=λi hi=>by rw [h.at_ i (by omega),O3 (y:=0) hi]
  unfold PG;rw [hy,FP];by_cases e:y+1=m
  ·rw [decide_eq_true (show y=m-1 by omega),Rf e]
   rcases Nf hm (r:=t) (L:=t.length) ⟨rfl,ht⟩ (λe he=>hl e (List.mem_cons_of_mem _ he)) with h1 | ⟨y',t',q1,q2,q3,q4,q5,q6,q7⟩
   ·exact .inl h1
   ·exact .inr ⟨y',t',q1,q2,q3,q4,q5,q6,by simp; omega⟩
  ·have:=hl y (List.mem_cons_self ..)
   rw [decide_eq_false (show ¬ y=m-1 by omega),Re (by omega)];exact .inr ⟨y,t,rfl,rfl,hy,ht,by omega,λe he=>hl e (List.mem_cons_of_mem _ he),by simp⟩
end
noncomputable abbrev run43 (M:Nat):Ex×St->T (Ex×St):=TD tab Wt 100 L8 Oz 4 M
noncomputable def Lk (M:Nat) (st:St):Option (Ex×St):=((J43 s0 st).bind (run43 M)).sem
section
variable {a n:Int} {m N:Nat} {v:Nat->E6} {L:Nat} {x:Nat->Int} {r:List Nat}
theorem KB {c:Code} {st s:St} {e:Ex} (h:(C43 c st).sem=some (e,s)):∃ p,(J43 c st).sem=some (e,p)∧FK Oz 4 p=s:=by
 obtain ⟨⟨e',p⟩,h1,h2⟩:=Ad h;have:=Aa h2;simp only [Prod.mk.injEq] at this;obtain ⟨rfl,rfl⟩:=this;exact ⟨p,h1,rfl⟩
theorem Jr {M i:Nat} {p s:St} {z:Ex×St} (hp:FK Oz 4 p=s) (h:((J43 (L6 L8 i) s).bind (run43 M)).sem=some z):(run43 (M+1) (.ex (100+i),p)).sem=some z:=by
 subst hp;show (match Nat.ble 100 (100+i) with
  | true=>(Fq tab Wt 100 Oz 4 (L6 L8 (Nat.sub (100+i) 100)) 0 (FK Oz 4 p)).bind (TD tab Wt 100 L8 Oz 4 M)
  | false=>.fail).sem=some z
 rw [show Nat.ble 100 (100+i)=true from Nat.ble_eq_true_of_le (Nat.le_add_right _ _),show Nat.sub (100+i) 100=i by simp];exact h
theorem AeW (hM:wr .i64 (Ay (ofNat m) 1)=ofNat (m-1)) (hn:L <= 4611686018427387904) {q M:Nat} (hp:PG m x L=q+1) {z:Ex×St} (h:Lk M (st43 a n m v (q+1) (Tr x q (wr .i64 (Aj (x q) 1))))=some z):((J43 s2 (st43 a n m v L x)).bind (run43 M)).sem=some z:=by
 obtain ⟨r',h1,h2⟩:=Ad h;exact Be (B6 AnJ (Aht (a:=a) (n:=n) (v:=v) hM hn hp rfl) h1) h2
theorem Abn (hM:wr .i64 (Ay (ofNat m) 1)=ofNat (m-1)) (hn:L <= 4611686018427387904) {M:Nat} (hp:PG m x L=0):((J43 s2 (st43 a n m v L x)).bind (run43 (M+1))).sem=some (.rt,st43 a n m v 0 x):=by
 obtain ⟨p,h1,h2⟩:=KB (Ahs (a:=a) (n:=n) (v:=v) hM hn hp rfl);refine Be (B6 (r':=(.rt,p)) AnJ h1 rfl) ?_;rw [<- h2];rfl
theorem Oo {r':List Nat} (hR:Rep r L x) (hI:Inv m N r) (hN:N <= 64) (hm:m <= 128) (h:EA m r=some r'):Inv m N r'∧∃ L' x',Rep r' L' x'∧∀ M z,Lk M (st43 a n m v L' x')=some z->((J43 s2 (st43 a n m v L x)).bind (run43 M)).sem=some z:=by
 have h0:=hI.pos;have hle:=hI.le;have hlen:=hR.len;have hm0:0<m:=Nat.lt_of_le_of_lt (Nat.zero_le _) (Gn hI.ne hI.lt);have hM:=HJ hm0 (show m <= 4611686018427387904 by omega);have hL4:L <= 4611686018427387904:=by omega
 rcases Nf (x:=x) hm0 hR hI.lt with ⟨_,h2⟩ | ⟨y,t,q1,q2,q3,q4,q5,q6,q7⟩
 ·rw [h2] at h; cases h
 ·rw [q1] at h
  cases h;refine ⟨⟨by simp,λe he=>?_,by simp; omega⟩,_,_,⟨rfl,λi hi=>?_⟩,λM z hz=>AeW hM hL4 q2 hz⟩
  ·rcases List.mem_cons.1 he with rfl | he
   ·exact q5
   ·exact q6 e he
  ·have hi:i<t.length+1:=hi
   unfold Tr;by_cases e:i=t.length
   ·subst e
    rw [Nat.beq_refl,Gx,q3,Cu (by omega)];rfl
   ·rw [Gs e,O3 (y:=0) (by omega)]
    exact q4 i (by omega)
theorem On (hR:Rep r L x) (hI:Inv m N r) (hm:m <= 128) (hL4:L <= 4611686018427387904) (h:EA m r=none) {M:Nat}:((J43 s2 (st43 a n m v L x)).bind (run43 (M+1))).sem=some (.rt,st43 a n m v 0 x):=by
 have hm0:0<m:=Nat.lt_of_le_of_lt (Nat.zero_le _) (Gn hI.ne hI.lt);have hM:=HJ hm0 (show m <= 4611686018427387904 by omega);rcases Nf (x:=x) hm0 hR hI.lt with ⟨h1,_⟩ | ⟨y,t,q1,_⟩
 ·exact Abn hM hL4 h1
 ·rw [q1] at h; cases h
theorem RX {r':List Nat} (hR:Rep r L x) (hI:Inv m N r) (hN:N <= 64) (hm:m <= 128) (hop:∀ r,Fy n m v r=true->r.length<N) (hng:(Do v r && BW a v r)=false) (hn:E7 m (Do v) (Fy n m v) r=some r') :
  Inv m N r'∧∃ L' x',Rep r' L' x'∧∃ k,k <= 2∧∀ M z,Lk M (st43 a n m v L' x')=some z->Lk (M+k) (st43 a n m v L x)=some z:=by
 have hs:=hR.sr hI hN hm;have h0:=hI.pos;have hle:=hI.le;have hlen:=hR.len;have hm0:0<m:=Nat.lt_of_le_of_lt (Nat.zero_le _) (Gn hI.ne hI.lt);have hM:=HJ hm0 (show m <= 4611686018427387904 by omega);have hL4:L <= 4611686018427387904:=by omega
 have hal:=λh=>Oo (a:=a) (n:=n) (v:=v) (r':=r') hR hI hN hm h;unfold E7 at hn;cases hf:Do v r with
 | false =>rw [hf] at hn;obtain ⟨hi,L',x',hr,hz⟩:=hal hn;refine ⟨hi,L',x',hr,1,by omega,λM z h=>?_⟩;obtain ⟨p,h1,h2⟩:=KB (Ad6 (a:=a) (n:=n) hs ((hR.fit hI).trans hf));exact Be h1 (Jr (i:=2) h2 (hz M z h))
 | true =>
  rw [hf] at hn hng;have hg:BW a v r=false:=hng;have hfn:BG L=true:=decide_eq_true (by omega);have hk:F2 40 (ofNat L) (ofNat L)=true:=by
   simp only [F2,Bool.and_eq_true,decide_eq_true_eq,Int.ofNat_eq_natCast];omega
  obtain ⟨p,h1,h2⟩:=KB (Ad7 (a:=a) (n:=n) hs hk hfn ((hR.fit hI).trans hf) (hR.good.trans hg));cases ho:Fy n m v r with
  | true =>
   rw [ho] at hn;cases hn;have hx0:x 0=ofNat (Ch r):=by rw [hR.at_ 0 (by omega),ZU hI.ne]
   refine ⟨⟨by simp,λe he=>?_,by have:=hop r ho; simp; omega⟩,L+1,K3 L x (ofNat (Ch r)),hR.push,2,by omega,λM z h=>?_⟩
   ·rcases List.mem_cons.1 he with rfl | he
    ·exact Gn hI.ne hI.lt
    ·exact hI.lt e he
   ·rw [<- hx0] at h
    obtain ⟨p',h3,h4⟩:=KB (Aez (a:=a) (n:=n) (by omega) hs (decide_eq_true (by omega)) ((hR.opn hI).trans ho));exact Be h1 (Jr (M:=M+1) (i:=1) h2 (Be (B6 (r':=(.ex 100,p')) AaU h3 rfl) (Jr (i:=0) h4 h)))
  | false =>rw [ho] at hn;obtain ⟨hi,L',x',hr,hz⟩:=hal hn;refine ⟨hi,L',x',hr,1,by omega,λM z h=>?_⟩;have h5:=hz M z h;obtain ⟨q,h6,h7⟩:=Ad h5;exact Be h1 (Jr (i:=1) h2 (Be (B6 AaU (Uy (a:=a) (n:=n) hs ((hR.opn hI).trans ho)) h6) h7))
theorem Aaf (hR:Rep r L x) (hI:Inv m N r) (hN:N <= 64) (hm:m <= 128) (hng:(Do v r && BW a v r)=false) (hn:E7 m (Do v) (Fy n m v) r=none) (M:Nat) :
  Lk (M+2) (st43 a n m v L x)=some (.rt,st43 a n m v 0 x):=by
 have hs:=hR.sr hI hN hm;have h0:=hI.pos;have hle:=hI.le;have hlen:=hR.len;have hm0:0<m:=Nat.lt_of_le_of_lt (Nat.zero_le _) (Gn hI.ne hI.lt);have hM:=HJ hm0 (show m <= 4611686018427387904 by omega);have hL4:L <= 4611686018427387904:=by omega
 have hal:=λh=>On (M:=M) (a:=a) (n:=n) (v:=v) hR hI hm (by omega) h;unfold E7 at hn;cases hf:Do v r with
 | false =>rw [hf] at hn;obtain ⟨p,h1,h2⟩:=KB (Ad6 (a:=a) (n:=n) hs ((hR.fit hI).trans hf));exact Be h1 (Jr (i:=2) h2 (hal hn))
 | true =>
  rw [hf] at hn hng;have hg:BW a v r=false:=hng;have hfn:BG L=true:=decide_eq_true (by omega);have hk:F2 40 (ofNat L) (ofNat L)=true:=by
   simp only [F2,Bool.and_eq_true,decide_eq_true_eq,Int.ofNat_eq_natCast];omega
  obtain ⟨p,h1,h2⟩:=KB (Ad7 (a:=a) (n:=n) hs hk hfn ((hR.fit hI).trans hf) (hR.good.trans hg));cases ho:Fy n m v r with
  | true=>rw [ho] at hn; cases hn
  | false =>rw [ho] at hn;obtain ⟨q,h6,h7⟩:=Ad (hal hn);exact Be h1 (Jr (i:=1) h2 (Be (B6 AaU (Uy (a:=a) (n:=n) hs ((hR.opn hI).trans ho)) h6) h7))
theorem Aag (hR:Rep r L x) (hI:Inv m N r) (hN:N <= 64) (hm:m <= 128) (hg:(Do v r && BW a v r)=true) (M:Nat):Lk (M+1) (st43 a n m v L x)=some (.rt,stG a n m v L (λi=>iV (x i)) true):=by
 have hs:=hR.sr hI hN hm;have hle:=hI.le;have hlen:=hR.len;rw [Bool.and_eq_true] at hg;have hfn:BG L=true:=decide_eq_true (by omega);have hk:F2 40 (ofNat L) (ofNat L)=true:=by
  simp only [F2,Bool.and_eq_true,decide_eq_true_eq,Int.ofNat_eq_natCast];omega
 obtain ⟨p,h1,h2⟩:=KB (Akp (a:=a) (n:=n) hs hk hfn ((hR.fit hI).trans hg.1) (hR.good.trans hg.2));refine Be h1 ?_;rw [<- h2];rfl
theorem Um {o:Option (List Nat)} {d:List Nat} {l2:List (List Nat)} (hN:N <= 64) (hm:m <= 128) (hop:∀ r,Fy n m v r=true->r.length<N) (hd:(Do v d && BW a v d)=true):∀ (l1:List (List Nat)) {r:List Nat} {L:Nat} {x:Nat->Int} {M:Nat},GoL m (Do v) (Fy n m v) r (l1++d::l2) o->l1.filter (λd=>Do v d && BW a v d)=[]->Rep r L x->Inv m N r->2 * l1.length<M->Inv m N d∧∃ L' x',Rep d L' x'∧Lk M (st43 a n m v L x)=some (.rt,stG a n m v L' (λi=>iV (x' i)) true)
 | [],r,L,x,M,h,_,hR,hI,hM=>by
  obtain ⟨t,ht⟩:=h.head;injection ht with h1 h2
  subst h1;obtain ⟨M,rfl⟩:∃ q,M=q+1:=⟨M-1,by omega⟩;exact ⟨hI,L,x,hR,Aag hR hI hN hm hd M⟩
 | c::l1,r,L,x,M,h,hf,hR,hI,hM=>by
  obtain ⟨t,ht⟩:=h.head;injection ht with h1 h2
  subst h1;have hg:(Do v c && BW a v c)=false:=by
   cases hc:Do v c && BW a v c with
   | false=>rfl
   | true=>rw [List.filter_cons_of_pos (p:=λd=>Do v d && BW a v d) hc] at hf; cases hf
  rw [List.filter_cons_of_neg (p:=λd=>Do v d && BW a v d) (by rw [hg]; decide)] at hf;rcases h.tail with ⟨h,_⟩ | ⟨r',hn,h⟩
  ·exact absurd h (by simp)
  ·obtain ⟨hi,L',x',hr,k,hk,hz⟩:=RX hR hI hN hm hop hg hn
   have hl:(c::l1).length=l1.length+1:=rfl;obtain ⟨M',rfl⟩:∃ q,M=q+k:=⟨M-k,by omega⟩;obtain ⟨q0,L2,x2,q1,q2⟩:=Um hN hm hop hd l1 (M:=M') h hf hr hi (by omega);exact ⟨q0,L2,x2,q1,hz M' _ q2⟩
theorem Uk (hN:N <= 64) (hm:m <= 128) (hop:∀ r,Fy n m v r=true->r.length<N):∀ (l:List (List Nat)) {r:List Nat} {L:Nat} {x:Nat->Int} {M:Nat},GoL m (Do v) (Fy n m v) r l none->l.filter (λd=>Do v d && BW a v d)=[]->Rep r L x->Inv m N r->2 * l.length<M->∃ x',Lk M (st43 a n m v L x)=some (.rt,st43 a n m v 0 x')
 | [],r,L,x,M,h,_,hR,hI,hM=>by
  obtain ⟨t,ht⟩:=h.head;cases ht
 | c::l,r,L,x,M,h,hf,hR,hI,hM=>by
  obtain ⟨t,ht⟩:=h.head;injection ht with h1 h2
  subst h1;have hg:(Do v c && BW a v c)=false:=by
   cases hc:Do v c && BW a v c with
   | false=>rfl
   | true=>rw [List.filter_cons_of_pos (p:=λd=>Do v d && BW a v d) hc] at hf; cases hf
  rw [List.filter_cons_of_neg (p:=λd=>Do v d && BW a v d) (by rw [hg]; decide)] at hf;have hl:(c::l).length=l.length+1:=rfl;rcases h.tail with ⟨_,hn⟩ | ⟨r',hn,h⟩
  ·obtain ⟨M,rfl⟩:∃ q,M=q+2:=⟨M-2,by omega⟩
   exact ⟨x,Aaf hR hI hN hm hg hn M⟩
  ·obtain ⟨hi,L',x',hr,k,hk,hz⟩:=RX hR hI hN hm hop hg hn
   obtain ⟨M',rfl⟩:∃ q,M=q+k:=⟨M-k,by omega⟩;obtain ⟨x2,q2⟩:=Uk hN hm hop l (M:=M') h hf hr hi (by omega);exact ⟨x2,hz M' _ q2⟩
end
end Go.Proofs.YtkbgidbledjejaaGreat.En
namespace Go.Sy
def Ra (E:List V->List Blk->A2) (vs:List V) (h:List Blk):A2 :=
 .ask ((E vs h).sem.map λr=>(Ex.rt,(⟨[r.1],r.2⟩:St))) λr=>match r.2.t with
  | [v]=>.leaf (v,r.2.h)
  | _=>.fail
theorem AeR {E:List V->List Blk->A2} {vs:List V} {h:List Blk} {r:V×List Blk} (he:(Ra E vs h).sem=some r):(E vs h).sem=some r:=by
 unfold Ra at he;cases hq:(E vs h).sem with
 | none=>rw [hq] at he; cases he
 | some q =>rw [hq] at he;exact he
theorem E4.ask {P:Program} {G:Nat->V} {f:FuncId} {E:List V->List Blk->A2} (h:E4 P G f E):E4 P G f (Ra E):=h.congr λ_ _ _ hr=>AeR hr
end Go.Sy
namespace Go.Proofs.YtkbgidbledjejaaGreat.En
open Go.Sy Go Go.Proofs.YtkbgidbledjejaaGreat.Ed
def F43:Nat:=10000000000000000000000000000000000000000000000000000
noncomputable def E43:List V->List Blk->A2:=QE tab Wt 100 Oz 4 F43 Tryz.f43
theorem p43:E4 Tryz.prog Gl 43 (Ra E43):=by
 have hx:=Ba tb43_ok [(0,lp43,[])] (G:=Gl);exact (AaV (P:=Tryz.prog) Az (Γ:=Wt) mixed hx.1 hx.2 Tryz.func43 (by kernel_rfl) (by kernel_rfl)).ask
noncomputable def AmZ:Code:=match Tryz.f43.body with
 | some (.seq p (.scope _))=>p
 | _=>.skip
theorem body43:Tryz.f43.body=some (.seq AmZ (.scope L8)):=by kernel_rfl
section
variable {a n:Int} {m N:Nat} {v:Nat->E6} {L:Nat} {x:Nat->Int} {r:List Nat}
abbrev HA (a n:Int) (m:Nat) (v:Nat->E6) (L:Nat) (x:Nat->Int):List Blk:=(st43 a n m v L x).h
theorem Agu:(A8 tab Wt AmZ 0 ⟨[.ptr 0 0]++F8 (Nat.sub Tryz.f43.ntmps 1),HA a n m v L x⟩).sem=some (.nm,stB a n m v L x):=by kernel_rfl
theorem Aee {p:Ex×St} {L':Nat} {x':Nat->Int} {b:Bool} (h1:(J43 L8 (stB a n m v L x)).sem=some p) (h2:(run43 F43 p).sem=some (.rt,stG a n m v L' (λi=>iV (x' i)) b)):(E43 [.ptr 0 0] (HA a n m v L x)).sem=some (bV b,HA a n m v L' x'):=XQ (st:=stG a n m v L' (λi=>iV (x' i)) b) body43 Agu h1 h2 (by kernel_rfl)
theorem Adj {k:Nat} (h:0<k):ieq (Int.ofNat k) 0=false:=by
 cases hq:ieq (Int.ofNat k) 0 with
 | false=>rfl
 | true =>have h2:(k:Int)=0:=Cz hq;omega
theorem fuel:F43=(F43-1)+1:=by unfold F43; rfl
theorem X0:(E43 [.ptr 0 0] (HA a n 0 v L x)).sem=some (bV false,HA a n 0 v L x):=by
 obtain ⟨p,h1,h2⟩:=KB (Aoi (a:=a) (n:=n) (m:=0) (v:=v) (L:=L) (x:=x) rfl);exact Aee (B6 (r':=(.rt,p)) AkB h1 rfl) (by rw [show stG a n 0 v L (λi=>iV (x i)) false=FK Oz 4 p from h2.symm,fuel]; rfl)
theorem Td (hm:0<m) {L':Nat} {x':Nat->Int} {b:Bool} (h:Lk (F43-1) (st43 a n m v 1 (K3 0 x 0))=some (.rt,stG a n m v L' (λi=>iV (x' i)) b)):(E43 [.ptr 0 0] (HA a n m v 0 x)).sem=some (bV b,HA a n m v L' x'):=by
 obtain ⟨p,h1,h2⟩:=KB (Aoj (a:=a) (n:=n) (m:=m) (v:=v) (L:=0) (x:=x) rfl (Adj hm) rfl);refine Aee (B6 (r':=(.ex 100,p)) AkB h1 rfl) ?_;rw [fuel];exact Jr (i:=0) h2 h
theorem Yw (hm:0<m) (hL:0<L) {p:Ex×St} {L':Nat} {x':Nat->Int} {b:Bool} (h1:(J43 s1 (st43 a n m v L x)).sem=some p) (h2:(run43 F43 p).sem=some (.rt,stG a n m v L' (λi=>iV (x' i)) b)):(E43 [.ptr 0 0] (HA a n m v L x)).sem=some (bV b,HA a n m v L' x') :=
 Aee (B6 AkB (Aok (Adj hm) (Adj hL)) h1) h2
theorem Ag0 {r':List Nat} (hR:Rep r L x) (hI:Inv m N r) (hN:N <= 64) (hm:m <= 128) (hop:∀ r,Fy n m v r=true->r.length<N) (hf:Do v r=true) (hn:E7 m (Do v) (Fy n m v) r=some r') :
  Inv m N r'∧∃ L' x',Rep r' L' x'∧∃ M,F43-1 <= M∧∀ L2 x2 b,Lk M (st43 a n m v L' x')=some (.rt,stG a n m v L2 (λi=>iV (x2 i)) b)->(E43 [.ptr 0 0] (HA a n m v L x)).sem=some (bV b,HA a n m v L2 x2):=by
 have hs:=hR.sr hI hN hm;have h0:=hI.pos;have hle:=hI.le;have hlen:=hR.len;have hm0:0<m:=Nat.lt_of_le_of_lt (Nat.zero_le _) (Gn hI.ne hI.lt);unfold E7 at hn;rw [hf] at hn;cases ho:Fy n m v r with
 | true =>
  rw [ho] at hn;cases hn;have hx0:x 0=Int.ofNat (Ch r):=by rw [hR.at_ 0 (by omega),ZU hI.ne]
  refine ⟨⟨by simp,λe he=>?_,by have:=hop r ho; simp; omega⟩,L+1,K3 L x (Int.ofNat (Ch r)),hR.push,F43-1,Nat.le_refl _,λL2 x2 b h=>?_⟩
  ·rcases List.mem_cons.1 he with rfl | he
   ·exact Gn hI.ne hI.lt
   ·exact hI.lt e he
  ·rw [<- hx0] at h
   obtain ⟨p',h3,h4⟩:=KB (Aez (a:=a) (n:=n) (by omega) hs (decide_eq_true (by omega)) ((hR.opn hI).trans ho));exact Yw hm0 (by omega) (B6 (r':=(.ex 100,p')) AaU h3 rfl) (by rw [fuel]; exact Jr (i:=0) h4 h)
 | false =>rw [ho] at hn;obtain ⟨hi,L',x',hr,hz⟩:=Oo hR hI hN hm hn;refine ⟨hi,L',x',hr,F43,Nat.sub_le _ _,λL2 x2 b h=>?_⟩;obtain ⟨q,h6,h7⟩:=Ad (hz F43 _ h);exact Yw hm0 (by omega) (B6 AaU (Uy (a:=a) (n:=n) hs ((hR.opn hI).trans ho)) h6) h7
theorem Agz (hR:Rep r L x) (hI:Inv m N r) (hN:N <= 64) (hm:m <= 128) (hf:Do v r=true) (hn:E7 m (Do v) (Fy n m v) r=none):(E43 [.ptr 0 0] (HA a n m v L x)).sem=some (bV false,HA a n m v 0 x):=by
 have hs:=hR.sr hI hN hm;have h0:=hI.pos;have hle:=hI.le;have hlen:=hR.len;have hm0:0<m:=Nat.lt_of_le_of_lt (Nat.zero_le _) (Gn hI.ne hI.lt);unfold E7 at hn;rw [hf] at hn;cases ho:Fy n m v r with
 | true=>rw [ho] at hn; cases hn
 | false =>rw [ho] at hn;obtain ⟨q,h6,h7⟩:=Ad (On (M:=F43-1) (a:=a) (n:=n) (v:=v) hR hI hm (by omega) hn);exact Yw hm0 (by omega) (B6 AaU (Uy (a:=a) (n:=n) hs ((hR.opn hI).trans ho)) h6) h7
end
end Go.Proofs.YtkbgidbledjejaaGreat.En
namespace Go.Proofs.YtkbgidbledjejaaGreat.En
open Go.Sy Go Go.Proofs.YtkbgidbledjejaaGreat.Ed
open Int (ofNat)
set_option maxRecDepth 100000
theorem AjQ (g:Key->E6) (k:Key) (x:E6):R1 (λy=>eV (g y)) k (eV x)=λy=>eV (bif keq y k then x else g y):=by
 funext y;unfold R1;rw [Et];cases keq y k <;> rfl
def hsC (e:Nat->E6):Nat->Key->Bool
 | 0=>λ_=>false
 | i+1=>P0 (hsC e i) (.i (Al (e i)))
def gtC (e:Nat->E6):Nat->Key->E6
 | 0=>λ_=>Bv
 | i+1=>λy=>bif keq y (.i (Al (e i))) then e i else gtC e i y
theorem E4.dep {P:Program} {G:Nat->V} {f:FuncId} {E:List V->List Blk->A2} (he:HI P f) (h:∀ vs hp r,(E vs hp).sem=some r->∃ E',E4 P G f E'∧(E' vs hp).sem=some r):E4 P G f E :=
 ⟨he,λvs cs κ S hp w v h' h1 h2 h3 h4=>by
  obtain ⟨E',q1,q2⟩:=h vs hp _ h4;exact q1.2 vs cs κ S hp w v h' h1 h2 h3 q2⟩
def F7 (hs:Key->Bool):Nat->List Nat
 | 0=>[]
 | c+1=>bif hs (.i (ofNat c)) then F7 hs c++[c] else F7 hs c
def KD (gt:Key->E6) (l:List Nat) (i:Nat):E6:=gt (.i (ofNat (l.getD i 0)))
theorem Tq (hs:Key->Bool):∀ c,(F7 hs c).length <= c
 | 0=>Nat.le_refl 0
 | c+1=>by
  have:=Tq hs c;unfold F7;cases hs (.i (ofNat c)) with
  | true=>simp; omega
  | false=>exact Nat.le_succ_of_le this
theorem Qv {b:Nat} (h:b<112):ilt (ofNat b) 112=true:=decide_eq_true (by show (b:Int)<112; omega)
theorem Ut {b:Nat} (h:b<112):IM (ofNat b)=true:=by
 simp only [IM,Bool.and_eq_true,decide_eq_true_eq,Int.ofNat_eq_natCast];omega
theorem AjS {gt:Key->E6} {hs:Key->Bool} {l:List Nat} {b:Nat} (h:hs (.i (ofNat b))=true):AA l.length (λi=>eV (KD gt l i)) (Cy 1 [Ry (hs (.i (ofNat b))) (eV (gt (.i (ofNat b)))) (eV Bv)] 0)=λi=>eV (KD gt (l++[b]) i):=by
 funext i;rw [BS,h];unfold KD;rcases Nat.lt_trichotomy i l.length with hi | hi | hi
 ·rw [Gs (by omega),List.getD_eq_getElem?_getD,List.getD_eq_getElem?_getD,List.getElem?_append_left hi]
  rfl
 ·subst hi
  rw [Nat.beq_refl];show eV (gt (.i (ofNat b)))=eV (gt (.i (ofNat ((l++[b]).getD l.length 0))));rw [List.getD_eq_getElem?_getD,List.getElem?_append_right (Nat.le_refl _),Nat.sub_self];rfl
 ·rw [Gs (by omega),List.getD_eq_getElem?_getD,List.getD_eq_getElem?_getD,List.getElem?_eq_none (by omega),List.getElem?_eq_none (by simp; omega)]
  rfl
def Aig:Lp:=⟨bmK 58 0 [6,7,8,21,22,23],6,bmK 58 0 [6,7,8],6,4611686018427387905⟩
def YZ:Lp:=⟨bmK 58 0 [6,7,8,36],6,bmK 58 0 [6,7,8],6,4611686018427387905⟩
noncomputable def AlT:AH:=(71,Co KA)::[]
theorem AfM:Ao Tryz.prog Gl AlT:=.cons p24 <| .nil
def Ano (z:E6):List (Nat×Lp×List (Nat×(Nat->V))):=[(0,Aig,[]),(2,YZ,[(2,λ_=>eV z)])]
noncomputable abbrev Ae1 (z:E6):Cx:=cxA Gl AlT (Ano z)
def z42 (e:Nat->E6) (k:Nat):E6:=gtC e k (.i (ofNat 0))
noncomputable def E42 (vs:List V) (h:List Blk):A2:=match h with
 | .row _ _ k g::_=>Ar tab (Ae1 (z42 (λi=>edE (g i)) k)) Tryz.f42 vs h
 | _=>.fail
theorem Anb:E4 Tryz.prog Gl 42 (Ra E42):=by
 have hz:=λz=>by
  have hx:=Ba AfM (Ano z) (G:=Gl);exact (GF (P:=Tryz.prog) Az (Γ:=Ae1 z) mixed hx.1 hx.2 Tryz.func42 (by kernel_rfl) (by kernel_rfl))
 exact (E4.dep (hz Bv).1 (E:=E42) λvs h r hr=>by
  unfold E42 at hr;split at hr
  ·exact ⟨_,hz _,hr⟩
  ·cases hr).ask
def T0 (a n:Int) (k:Nat) (e:Nat->E6) (c:Int) (hs:Key->Bool) (gt:Key->V):St:=⟨jsV 58 0 Ac [(6,.val (.pointer none)),(7,.ptr 4 0),(8,.ref 5),(21,.ref 0),(22,nV k),(23,iV c)],[.row 46 6 k (λi=>eV (e i)),.saved [.und],.row 46 6 0 Ac,.row 3 1 0 Ac,.cells [iV a,iV n,.ref 2,.ref 3],.gmap 86 [] hs gt]⟩
def T2 (a n:Int) (k:Nat) (e:Nat->E6) (hs:Key->Bool) (gt:Key->E6) (c:Int) (q:Nat) (w:Nat->V):St:=⟨jsV 58 0 Ac [(6,.val (.pointer none)),(7,.ptr 4 0),(8,.ref 5),(36,iV c)],[.row 46 6 k (λi=>eV (e i)),.saved [.und],.row 46 6 q w,.row 3 1 0 Ac,.cells [iV a,iV n,.ref 2,.ref 3],.gmap 86 [] hs (λx=>eV (gt x))]⟩
noncomputable def ApW (z:E6):St->T (Ex×St):=λst=>A8 tab (Ae1 z) (A0 Tryz.f42 0) 0 st
noncomputable def Ali (z:E6):St->T (Ex×St):=λst=>A8 tab (Ae1 z) (A0 Tryz.f42 2) 2 st
section
variable {a n:Int} {k:Nat} {e:Nat->E6} {z:E6}
theorem AoU (hk:k <= 4611686018427387904) (hf:∀ i,i<k->IM (Al (e i))=true):(Ax (ApW z) Aig 4611686018427387905 (T0 a n k e 0 (hsC e 0) (λy=>eV (gtC e 0 y)))).sem=some (.ex 0,⟨jsV 58 0 Ac [(6,.val (.pointer none)),(7,.ptr 4 0),(8,.ref 5)],[.row 46 6 k (λi=>eV (e i)),.saved [.und],.row 46 6 0 Ac,.row 3 1 0 Ac,.cells [iV a,iV n,.ref 2,.ref 3],.gmap 86 [] (hsC e k) (λy=>eV (gtC e k y))]⟩) :=
 Cj (S:=λb=>T0 a n k e (ofNat b) (hsC e b) (λy=>eV (gtC e b y))) (by intro h; cases h) (λb hb=>have hf:=hf b hb; DW.rd (.k (ofNat_lt hb) <| .k (Af hb) <| .k (decide_eq_true hb) <| .k hf <| .e (nm3 (f:=λc hs gt=>T0 a n k e c hs gt) (Cu (by omega)) rfl (AjQ (gtC e b) (.i (Al (e b))) (e b)))) (by kernel_rfl)) (DW.rd (.k (A4 (Nat.le_refl k)) <| .l) (by kernel_rfl)) (by omega)
theorem AmU (k:Nat) (e:Nat->E6) (hs:Key->Bool) (gt:Key->E6):∀ d b m,b+d=112->d<m->(Ax (Ali z) YZ m (T2 a n k e hs gt (ofNat b) (F7 hs b).length (λi=>eV (KD gt (F7 hs b) i)))).sem=some (.ex 2,⟨jsV 58 0 Ac [(6,.val (.pointer none)),(7,.ptr 4 0),(8,.ref 5)],[.row 46 6 k (λi=>eV (e i)),.saved [.und],.row 46 6 (F7 hs 112).length (λi=>eV (KD gt (F7 hs 112) i)),.row 3 1 0 Ac,.cells [iV a,iV n,.ref 2,.ref 3],.gmap 86 [] hs (λx=>eV (gt x))]⟩)
 | 0,b,m,h,hm=>by
  obtain ⟨m,rfl⟩:∃ o,m=o+1:=⟨m-1,by omega⟩;obtain rfl:b=112:=by omega
  have hb:ilt (ofNat 112) 112=false:=rfl;generalize hq:(F7 hs 112).length=q;generalize KD gt (F7 hs 112)=w;exact Ae (t:=some (.ex 2,_)) (DW.rd (.k hb .l) (by kernel_rfl))
 | d+1,b,m,h,hm=>by
  obtain ⟨m,rfl⟩:∃ o,m=o+1:=⟨m-1,by omega⟩;have hb:b<112:=by omega
  have hl:=Tq hs b;have ih:=AmU k e hs gt d (b+1) m (by omega) (by omega);cases h1:hs (.i (ofNat b)) with
  | true =>
   have e1:F7 hs (b+1)=F7 hs b++[b]:=by rw [F7,h1]; rfl
   rw [e1] at ih;generalize F7 hs b=l at ih hl;have hr:Ap (Ali z) YZ (T2 a n k e hs gt (ofNat b) l.length (λi=>eV (KD gt l i)))=some (.nm,T2 a n k e hs gt (ofNat (b+1)) (l.length+1) (λi=>eV (KD gt (l++[b]) i))):=by
    have hp:=AjS (gt:=gt) (hs:=hs) (l:=l) h1;have hq:l.length<112:=by omega
    generalize hL:l.length=q at hp hq;generalize hw:KD gt l=w at hp;exact DW.rd (.k (Qv hb) <| .k (Ut hb) <| .k h1 <| .k (show Ci q 1 40=true from decide_eq_true (by omega)) <| .e (nm3 (f:=λc q w=>T2 a n k e hs gt c q w) (Cu (by omega)) rfl hp)) (by kernel_rfl)
   rw [Ae hr];rw [List.length_append] at ih;exact ih
  | false =>
   have e1:F7 hs (b+1)=F7 hs b:=by rw [F7,h1]; rfl
   rw [e1] at ih;generalize F7 hs b=l at ih hl;have hr:Ap (Ali z) YZ (T2 a n k e hs gt (ofNat b) l.length (λi=>eV (KD gt l i)))=some (.nm,T2 a n k e hs gt (ofNat (b+1)) l.length (λi=>eV (KD gt l i))):=by
    generalize l.length=q;generalize KD gt l=w;exact DW.rd (.k (Qv hb) <| .k (Ut hb) <| .k h1 <| .e (nm1 (f:=λc=>T2 a n k e hs gt c q (λi=>eV (w i))) (Cu (by omega)))) (by kernel_rfl)
   rw [Ae hr];exact ih
theorem W3 (hk:k <= 4611686018427387904) (hf:∀ i,i<k->IM (Al (e i))=true):(E42 [iV a,.ref 0,iV n] [.row 46 6 k (λi=>eV (e i)),.saved [.und]]).sem=some (.ptr 4 0,[.row 46 6 k (λi=>eV (e i)),.saved [.und],.row 46 6 (F7 (hsC e k) 112).length (λi=>eV (KD (gtC e k) (F7 (hsC e k) 112) i)),.row 3 1 0 Ac,.cells [iV a,iV n,.ref 2,.ref 3],.gmap 86 [] (hsC e k) (λy=>eV (gtC e k y))]):=by
 have h0:=AoU (z:=z42 e k) (a:=a) (n:=n) hk hf;have h2:=AmU (z:=z42 e k) (a:=a) (n:=n) k e (hsC e k) (gtC e k) 112 0 4611686018427387905 rfl (by omega);generalize hL:(F7 (hsC e k) 112).length=q at h2;generalize hw:KD (gtC e k) (F7 (hsC e k) 112)=w at h2;exact (DW.ok (.a h0 <| .a h2 <| .l) (by kernel_rfl):(Ar tab (Ae1 (z42 e k)) Tryz.f42 [iV a,.ref 0,iV n] [.row 46 6 k (λi=>eV (e i)),.saved [.und]]).sem=some _)
end
end Go.Proofs.YtkbgidbledjejaaGreat.En
