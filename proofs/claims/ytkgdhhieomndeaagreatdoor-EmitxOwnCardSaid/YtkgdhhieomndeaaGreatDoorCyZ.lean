/-
  Layer 7: the program's shape of a cycle, as derivations. No conditions.
-/
import Derived.Test.YtkgdhhieomndeaaGreatDoorCyT
import Derived.Test.YtkgdhhieomndeaaGreatDoorCyU
import Derived.Test.YtkgdhhieomndeaaGreatDoorEdY
import Derived.Test.YtkgdhhieomndeaaGreatDoorEdB
namespace Go.Proofs.YtkgdhhieomndeaaGreatDoor.Sh
open Go.Sy Ed
open Int (ofNat)
set_option maxHeartbeats 1000000
set_option maxRecDepth 4000
noncomputable def AlA:AK:=(84,Nr)::(17,Ib)::(85,BW λe=>bV (AB e))::(86,AjU)::(87,BW λe=>bV (AN e))::[]
theorem AeA:Aq Tryz.prog Gl AlA:=.cons p48 <| .cons p65 <| .cons p52 <| .cons p53 <| .cons p54 .nil
noncomputable def Py:FuncId->List V->St->T (V×Res):=Lx [(88,PS tab (cxA Gl tb55 Afx) Tryz.f88)] (Am AlA)
theorem QT:Bv Tryz.prog ⟨Py,Gl⟩:=Hx mixed (.cons rfl A7 (D2 tb55_ok Afx).1 (D2 tb55_ok Afx).2 Tryz.func88 (by kernel_rfl) (by kernel_rfl) .nil) (D5 rfl AeA)
def zE:E6:=⟨0,false,false,0,0,0⟩
def Aae (n:Nat) (G:Nat->E6) (i:Nat):E6:=bif decide (i<n) then G i else zE
def shQ (n:Nat) (f:Nat->E6):Nat:=(Cq (λi=>AB (AY n f i)) n+1) % n
def shG (n:Nat) (f:Nat->E6):Nat->E6:=Aae n λi=>AY n f ((shQ n f+i) % n)
def upE (b:Nat) (G:Nat->E6) (i:Nat):E6:=bif decide (i<b) then G i else zE
theorem AaA (b:Nat) (G:Nat->E6):As b (λi=>eV (upE b G i)) (eV (G b))=λi=>eV (upE (b+1) G i):=by
 funext k;rw [Bo,show Nat.beq k b=decide (k=b) by rw [Bool.eq_iff_iff]; simp];unfold upE;by_cases h:k=b
 ·subst h; simp
 ·by_cases h2:k<b
  ·have:k<b+1:=by omega
   simp [h,h2,this]
  ·have:¬ k<b+1:=by omega
   simp [h,h2,this]
def upX (n:Nat) (g:Nat->E6) (b i:Nat):Ev5:=bif decide (i<b) then evF n g (λ_=>false) i else ⟨0,0,0,0,0⟩
theorem Tt (n:Nat) (g:Nat->E6) (b:Nat):As b (λi=>evV (upX n g b i)) (evV (evF n g (λ_=>false) b))=λi=>evV (upX n g (b+1) i):=by
 funext k;rw [Bo,show Nat.beq k b=decide (k=b) by rw [Bool.eq_iff_iff]; simp];unfold upX;by_cases h:k=b
 ·subst h; simp
 ·by_cases h2:k<b
  ·have:k<b+1:=by omega
   simp [h,h2,this]
  ·have:¬ k<b+1:=by omega
   simp [h,h2,this]
theorem JU (b:Nat) (v:V):As b (λ_=>v) v=λ_=>v:=by
 funext k;rw [Bo];cases Nat.beq k b <;> rfl
def plM (n:Nat) (g:Nat->E6) (b:Nat) (x:Int):Int:=ofNat (An (λk=>ieq x (thF n g k)) b)
theorem AjK (n:Nat) (g:Nat->E6) {b:Nat} (hb:b<n) (hn:n <= 16):(λi=>sel (ieq i (thF n g b)) (wr .i64 (Ak (plM n g b (thF n g b)) 1)) (plM n g b i))=plM n g (b+1):=by
 funext i;have hc:=Bm (λk=>ieq (thF n g b) (thF n g k)) b;unfold plM;rw [Ap (n:=n) (by omega) (by omega)];cases h:ieq i (thF n g b) with
 | true =>have:=BX h;subst this;rw [B7 h];rfl
 | false =>rw [Cc h];rfl
theorem Ahn {p:Nat->Bool} {n b:Nat} (hb:b<n) (hn:n <= 16):sel (ilt (ofNat (rN p n b)) (wr .i64 (Ak (AG p n b) 1))) (wr .i64 (Ak (AG p n b) 1)) (ofNat (rN p n b))=ofNat (rN p n (b+1)):=by
 have h1:=N2 p n b hb;have h2:=Ua p n b;rw [Ey hb,Ap (n:=n) (by omega) (by omega),BP,rN];by_cases h:AZ p n b<rN p n b
 ·rw [if_pos h,decide_eq_false (by omega)]; rfl
 ·rw [if_neg h,decide_eq_true (by omega)]
  show ofNat (AZ p n b+1)=_;rw [show AZ p n b=rN p n b by omega]
theorem AcR {k:Nat} (h:k <= 100):F6 (ofNat k)=true:=by
 unfold F6;rw [decide_eq_true (by simp only [Int.ofNat_eq_natCast]; omega),decide_eq_true (by simp only [Int.ofNat_eq_natCast]; omega)];rfl
def ttN (n:Nat) (g:Nat->E6):Nat:=An (obF g) n
def Ry (a:Int) (n:Nat) (g:Nat->E6):V:=.agg [iV a,.ref 0,.ref 1,iV (ofNat (ttN n g)),iV (ofNat (kkN n g)),.ref 2,.jref 3]
def Oh (n:Nat) (g:Nat->E6):List Blk:=[.row 92 6 n (λi=>eV (g i)),.row 80 5 n (λi=>evV (evF n g (λ_=>true) i)),.row 3 1 n (λi=>iV (rfF n g (λ_=>true) i)),
 .jag ⟨24,1,kkN n g,λ_=>.und,0,3,1,λ_=>true,lnN (mbF g) (wrF g) n,λk i=>iV (ofNat (coN (mbF g) (wrF g) n k i))⟩]
def noV:V:=.agg [iV 0,.ref 0,.ref 1,iV 0,iV 0,.ref 2,.jref 3]
def noH:List Blk:=[.row 92 6 0 Aa,.row 80 5 0 Aa,.row 3 1 0 Aa,.jag ⟨24,1,0,λ_=>.und,0,3,1,λ_=>true,λ_=>0,λ_ _=>.und⟩]
def ofT:List V->AE
 | [.val (.int .i64 a),v]=>apL v λn f=>.br (BC n) (.br (ieq (BK a n f) 0) (.leaf (.tup [Ry a n (shG n f),iV 0,iV 0],Oh n (shG n f))) (.leaf (.tup [noV,iV (BK a n f),iV (D4 a n f)],noH))) .fail
 | _=>.fail
theorem Fz {n i:Nat} {f:Nat->E6} (h:i<n):shG n f i=AY n f ((shQ n f+i) % n):=by
 unfold shG Aae;rw [decide_eq_true h];rfl
theorem PR {a:Int} {n:Nat} {f g:Nat->E6} (h:IsCycle a n f) (he:∀ i,i<n->g i=f i):IsCycle a n g:=by
 have c1:∀ (p:E6->Bool) k,k <= n->An (λi=>p (g i)) k=An (λi=>p (f i)) k:=λp k hk=>J0 λi hi=>by rw [he i (by omega)]
 have c2:∀ (p:E6->Bool) i,i<n->AG (λk=>p (g k)) n i=AG (λk=>p (f k)) n i:=λp i hi=>by
  rw [Ey hi,Ey hi];unfold AZ;rw [c1 p i (by omega),c1 p n (Nat.le_refl _)]
 have hlo:=h.lo;refine ⟨h.arch,h.lo,h.hi,λi hi=>?_,λi hi=>?_,?_,?_,λi hi=>?_,λi hi=>?_⟩
 ·have:=h.legal i hi
  unfold DF at this ⊢;rw [he i hi];exact this
 ·have:=h.meets i hi
  unfold Gr at this ⊢;rw [he i hi,he _ (Nat.mod_lt _ (by omega))];exact this
 ·rw [c1 AB n (Nat.le_refl _)]; exact h.outer
 ·rw [c1 AN n (Nat.le_refl _)]; exact h.moves
 ·have:=h.writes i hi
  unfold Bi Pu at this ⊢;have e:(λi=>isW (g i)) i=(λi=>isW (f i)) i:=by show isW (g i)=isW (f i); rw [he i hi]
  rw [e,c2 AN i hi,J0 (q:=CJ (AG (λk=>AN (f k)) n) (λi=>isW (f i)) (AG (λk=>AN (f k)) n i)) λk hk=>by
   unfold CJ;rw [c2 AN k hk];show Ao _ (isW (g k))=Ao _ (isW (f k));rw [he k hk]]
  exact this
 ·have:=h.crowd i hi
  unfold Bi Pu at this ⊢;rw [c2 AB i hi,J0 (q:=CJ (AG (λk=>AB (f k)) n) (λ_=>true) (AG (λk=>AB (f k)) n i)) λk hk=>by
   unfold CJ;rw [c2 AB k hk]]
  exact this
theorem Jz {p:Nat->Bool}:∀ {n:Nat},0<An p n->∃ k,k<n∧p k=true
 | 0,h=>by simp [An] at h
 | n+1,h=>by
  cases hp:p n with
  | true=>exact ⟨n,Nat.lt_succ_self n,hp⟩
  | false =>rw [Cc hp] at h;obtain ⟨k,h1,h2⟩:=Jz h;exact ⟨k,by omega,h2⟩
theorem Mv {a:Int} {n:Nat} {f:Nat->E6} (h:IsCycle a n f):IsCycle a n (λi=>AY n f i):=by
 have h1:=Js n (λi=>BD (f i));have h2:=h.lo;exact h.turned (show Cs n (λi=>BD (f i))<n by omega)
theorem HA {a:Int} {n:Nat} {f:Nat->E6} (h:IsCycle a n f):Cq (λi=>AB (AY n f i)) n<n∧AB (AY n f (Cq (λi=>AB (AY n f i)) n))=true∧(∀ i,i<Cq (λi=>AB (AY n f i)) n->AB (AY n f i)=false)∧shQ n f<n:=by
 have h2:=h.lo;have h3:=(Mv h).outer;obtain ⟨k,h4,h5⟩:=Jz (p:=λi=>AB (AY n f i)) (n:=n) (by omega);obtain ⟨h6,h7,h8⟩:=DC (p:=λi=>AB (AY n f i)) h4 h5;exact ⟨by omega,h7,h8,Nat.mod_lt _ (by omega)⟩
theorem Dl {a:Int} {n:Nat} {f:Nat->E6} (h:IsCycle a n f):IsCycle a n (shG n f) :=
 PR ((Mv h).turned (HA h).2.2.2) λi hi=>Fz hi
theorem RJ {p:Nat->Bool} {n:Nat} (h:2 <= An p n):rN p n n=An p n:=by
 have hn:0<n:=by
  rcases Nat.eq_zero_or_pos n with h0 | h0
  ·subst h0; simp [An] at h
  ·exact h0
 have h1:=AbE p n (n-1) (by omega);rw [show n-1+1=n by omega] at h1;rw [h1];have h2:=Mx p (n-1);rw [show n-1+1=n by omega] at h2;split <;> omega
theorem Ads (n:Nat) (g:Nat->E6):dnF n g (Gn (mbF g) n) 0 0=λ_=>false:=by
 funext j;unfold dnF;rw [Adr];simp
theorem X2 (n:Nat) (g:Nat->E6):upX n g n=evF n g (dnF n g (Gn (mbF g) n) 0 0):=by
 rw [Ads];funext i;unfold upX;by_cases hi:i<n
 ·rw [decide_eq_true hi]; rfl
 ·rw [decide_eq_false hi]
  unfold evF;rw [decide_eq_false hi];rfl
theorem Amn (n:Nat) (g:Nat->E6):rfF n g (dnF n g (Gn (mbF g) n) 0 0)=λ_=>-1:=by
 rw [Ads];rfl
def AmG (n:Nat) (g:Nat->E6):List Blk:=[.row 92 6 n (λi=>eV (g i)),.row 80 5 n (λi=>evV (evF n g (dnF n g (Gn (mbF g) n) n 0) i)),.row 3 1 n (λi=>iV (rfF n g (dnF n g (Gn (mbF g) n) n 0) i)),
 .jag ⟨24,1,kkN n g,λ_=>.nilS,0,3,1,λ_=>true,lnP n g n 0,λk i=>coP n g n 0 k i⟩]
theorem AjB {n:Nat} {g:Nat->E6} (hk:0<kkN n g):Av (AmG n g) (Oh n g):=by
 have hn:0<n:=by
  rcases Nat.eq_zero_or_pos n with h0 | h0
  ·subst h0; simp [kkN,An] at hk
  ·exact h0
 obtain ⟨k0,hk0,hm⟩:=Jz hk;have hd:∀ i,i<n->dnF n g (Gn (mbF g) n) n 0 i=true:=λi hi=>by
  unfold dnF;rw [decide_eq_true hi,Vg]
  ·rfl
  ·exact HD hn
 refine .cons (λ_ _=>rfl) (.cons (λi hi=>?_) (.cons (λi hi=>?_) (.consB (.jag (λ_ _=>.inr rfl) (λ_ _=>rfl) (λk hk'=>?_) (λk hk' q hq=>?_)) (.refl []))))
 ·rw [CH hi,CH hi,hd i hi]
 ·unfold rfF
  rw [hd i hi]
 ·have hk':k<kkN n g:=hk'
  have:=(FL hk').1;show lnN _ _ n k=lnP n g n 0 k;unfold lnP;rw [if_pos hk',if_pos this]
 ·have hk':k<kkN n g:=hk'
  have hq:q<lnP n g n 0 k:=hq;show iV _=coP n g n 0 k q;unfold coP;rw [if_pos hq]
section
variable (A:Int) (n:Nat) (f:Nat->E6)
def hp2 (l:List Blk):List Blk:=.cells [iV 0,.nilS,.nilS,iV 0,iV 0,.nilS,.nilS] :: .row 92 6 n (λi=>eV (AY n f i))::l
def j4 (l:List (Nat×V)):List V:=jsV 164 0 Aa l
def S14 (c:Int) (_:Unit):St:=⟨j4 [(0,iV A),(4,.ptr 0 0),(9,.ref 1),(11,nV n),(12,iV 0),(39,nV n),(40,iV c)],hp2 n f []⟩
def E14 (q:V):Ex×St:=(.ex 0,⟨j4 [(0,iV A),(4,.ptr 0 0),(9,.ref 1),(11,nV n),(12,q)],hp2 n f []⟩)
def g14 (i:Nat) (_:Unit):T (Unit ⊕ (Ex×St)):=.br (AB (AY n f i)) (.leaf (.inr (E14 A n f (iV (Ar (wr .i64 (Ak (ofNat i) 1)) (ofNat n)))))) (.leaf (.inl ()))
variable (z:Nat)
def Ah9 (k:Nat) (y:Nat->V):List Blk:=hp2 n f [.cells [iV A,.ref 3,.ref 4,iV 0,iV 0,.ref 5,.jref 6],.row 92 6 k y,.row 80 5 0 Aa,.row 3 1 0 Aa,jE]
def cE (i:Nat):E6:=AY n f ((z+i) % n)
def AhO (c:Int) (k:Nat) (y:Nat->V):St:=⟨j4 [(0,iV A),(4,.ptr 0 0),(9,.ref 1),(11,nV n),(12,nV z),(14,.ptr 2 0),(55,nV n),(56,iV c)],Ah9 A n f k y⟩
def AdT (c:Int) (_:Unit):St:=AhO A n f z c (toN c) λi=>eV (upE (toN c) (cE n f z) i)
def SE:Ex×St:=(.ex 2,⟨j4 [(0,iV A),(4,.ptr 0 0),(11,nV n),(14,.ptr 2 0)],Ah9 A n f n λi=>eV (upE n (cE n f z) i)⟩)
variable (g:Nat->E6)
def Ah8 (tt kk:Int) (k:Nat) (x r:Nat->V):List Blk:=hp2 n f [.cells [iV A,.ref 3,.ref 4,iV tt,iV kk,.ref 5,.jref 6],.row 92 6 n (λi=>eV (g i)),.row 80 5 k x,.row 3 1 k r,jE]
def AhN (c tt kk:Int) (k:Nat) (x r:Nat->V) (pl:Int->Int):St:=⟨j4 [(4,.ptr 0 0),(11,nV n),(14,.ptr 2 0),(16,.ref 7),(17,.ref 8),(18,.ref 9),(80,nV n),(81,iV c)],
 Ah8 A n f g tt kk k x r++[.row 3 1 n (λk=>iV (thF n g k)),.row 3 1 n (λk=>iV (loF n g k)),.imap 139 k pl]⟩
def Zc (c:Int) (_:Unit):St:=AhN A n f g c (ofNat (rN (obF g) n (toN c))) (ofNat (rN (mbF g) n (toN c))) (toN c) (λi=>evV (upX n g (toN c) i)) (λ_=>iV (-1)) (plM n g (toN c))
def SD:Ex×St:=(.ex 4,⟨j4 [(4,.ptr 0 0),(11,nV n),(14,.ptr 2 0)],Ah8 A n f g (ofNat (rN (obF g) n n)) (ofNat (rN (mbF g) n n)) n (λi=>evV (upX n g n i)) λ_=>iV (-1)⟩)
variable (tt:Int)
def V0 (c:Int) (h:List Blk):St:=⟨j4 [(4,.ptr 0 0),(11,nV n),(14,.ptr 2 0),(145,nV n),(146,iV c)],h⟩
def Zb (c:Int) (_:Unit):St:=V0 n c (hpD A n f g tt (toN c) 0)
def Pe:Ex×St:=(.ex 6,⟨j4 [(4,.ptr 0 0),(14,.ptr 2 0)],hpD A n f g tt n 0⟩)
abbrev yB (n i:Nat):Int:=Ar (wr .i64 (AC (wr .i64 (Ak (ofNat i) (ofNat n))) 1)) (ofNat n)
def vs6 (i:Nat):List V:=j4 [(4,.ptr 0 0),(11,nV n),(14,.ptr 2 0),(20,nV i),(145,nV n),(146,nV i),(147,bV (ilt (ofNat i) (ofNat n))),(148,nV i),(149,.ptr 2 1),(150,.ref 3),(151,nV i),(152,nV n),
 (153,iV (wr .i64 (Ak (ofNat i) (ofNat n)))),(154,iV (wr .i64 (AC (wr .i64 (Ak (ofNat i) (ofNat n))) 1))),(155,nV n),(156,iV (yB n i)),(157,.ept 3 6 (toN (yB n i)) 0),(158,eV (g (toN (yB n i)))),(159,bV (AN (g (toN (yB n i))))),(160,nV i)]
def AhB (i:Nat) (_:Unit):T (Unit ⊕ (Ex×St)):=.br (AN (g (toN (yB n i)))) (.leaf (.inl ())) (.leaf (.inl ()))
end
def gGo (_:Nat) (_:Unit):T (Unit ⊕ (Ex×St)):=.leaf (.inl ())
theorem AcN {fin:Unit->Ex×St} (n:Nat):BR gGo fin n 0 ()=some (fin ()):=FZ (acc:=λ_=>()) (λ_ _=>rfl) n 0 (Nat.zero_add n)
def Anl:Lp:=⟨bmK 164 0 [0,4,9,11,12,39,40],2,bmK 164 0 [0,4,9,11,12],2,4611686018427387905⟩
def Ach:Lp:=⟨bmK 164 0 [0,4,9,11,12,14,55,56],7,bmK 164 0 [0,4,11,14],7,4611686018427387905⟩
def Acg:Lp:=⟨bmK 164 0 [4,11,14,16,17,18,80,81],10,bmK 164 0 [4,11,14],7,4611686018427387905⟩
def WC:Lp:=⟨bmK 164 0 [4,11,14,145,146],8,bmK 164 0 [4,14],8,4611686018427387905⟩
def W7 (n:Nat) (f:Nat->E6):List (Nat×Lp×List (Nat×(Nat->V))):=[(0,Anl,[]),(2,Ach,[(3,λi=>eV (upE 0 (cE n f (shQ n f)) i))]),(4,Acg,[(4,λi=>evV (upX n (shG n f) 0 i)),(5,λ_=>iV (-1))]),(6,WC,[])]
noncomputable def B14 (id:Nat) (L:LT):St->T (Ex×St):=λst=>AD tab ⟨Py,L,Gl⟩ (Au Tryz.f57 id) id st
section
variable (L:LT) (A:Int) (n:Nat) (f:Nat->E6)
theorem r14 (hn:n <= 16) (h:Cq (λi=>AB (AY n f i)) n<n∧AB (AY n f (Cq (λi=>AB (AY n f i)) n))=true∧(∀ i,i<Cq (λi=>AB (AY n f i)) n->AB (AY n f i)=false)):(A3 (B14 0 L) Anl 4611686018427387905 (S14 A n f 0 ())).sem=some (E14 A n f (iV (ofNat (shQ n f)))):=by
 obtain ⟨h1,h2,h3⟩:=h;have e:E14 A n f (iV (Ar (wr .i64 (Ak (ofNat (Cq (λi=>AB (AY n f i)) n)) 1)) (ofNat n)))=E14 A n f (iV (ofNat (shQ n f))):=by rw [Ap (n:=n) h1 (by omega),DW]; rfl
 rw [<- e];exact Bq (R:=exR) BZ (S:=λc a _=>S14 A n f c a) (j:=λ_=>.und) (g:=g14 A n f) (fin:=λ_=>E14 A n f (iV 0)) (e:=E14 A n f (iV (Ar (wr .i64 (Ak (ofNat (Cq (λi=>AB (AY n f i)) n)) 1)) (ofNat n)))) (n:=n) (by omega)
  (λi a j r hi he=>DK.ok (L:=goR (λc a _=>S14 A n f c a) exR i) (.k (ofNat_lt hi) <| .k (Ag hi) <| .k (decide_eq_true hi) <| .c (λh1=>.k h1 <| .k (KE hi) <| .l) λh1=>.k h1 <| .l) (by kernel_rfl) he)
  (λa j=>DK.ok (C:=.leaf (E14 A n f (iV 0))) (L:=exR) (.k (Aw (Nat.le_refl n)) .l) (by kernel_rfl) rfl) (Nat.zero_add _).symm (by omega)
  (FB (acc:=λ_=>()) (m:=Cq (λi=>AB (AY n f i)) n) (λi hi=>by unfold g14; rw [h3 i hi]; rfl) (by unfold g14; rw [h2]; rfl) n 0 (by omega) (by omega))
theorem AmN (hn:n <= 16) {z:Nat} (hz:z<n):(A3 (B14 2 L) Ach 4611686018427387905 (AdT A n f z 0 ())).sem=some (SE A n f z) :=
 Bq (R:=exR) BZ (S:=λc a _=>AdT A n f z c a) (j:=λ_=>.und) (g:=gGo) (fin:=λ_=>SE A n f z) (e:=SE A n f z) (n:=n) (by omega)
  (λi a j r hi he=>DK.ok (L:=goR (λc a _=>AdT A n f z c a) exR i) (.k (ofNat_lt hi) <| .k (KE hi) <| .k (He hz hi (by omega)) <| .k (decide_eq_true (Hd hz hi (by omega))) <| .k (show Bn i 1 40=true from C0 (by omega)) <| .e (eq2 (λk y=>(Ex.nm,AhO A n f z (wr .i64 (Ak (ofNat i) 1)) k y)) (show AV i 1=_ by rw [Ap hi (by omega)]; rfl) (show As i (λq=>eV (upE i (cE n f z) q)) (eV (AY n f (toN (Ar (wr .i64 (Ak (ofNat z) (ofNat i))) (ofNat n)))))=_ by rw [To hz hi (by omega),Ap hi (by omega)]; exact AaA i (cE n f z)))) (by kernel_rfl) he)
  (λa j=>DK.ok (C:=.leaf (SE A n f z)) (L:=exR) (.k (Aw (Nat.le_refl n)) .l) (by kernel_rfl) rfl) (Nat.zero_add _).symm (by omega) (AcN n)
variable (g:Nat->E6)
theorem AkU {n i:Nat} {g:Nat->E6} (hi:i<n) (hn:n <= 16):(Ex.nm,AhN A n f g (wr .i64 (Ak (ofNat i) 1)) (sel (ilt (ofNat (rN (obF g) n i)) (wr .i64 (Ak (thF n g i) 1))) (wr .i64 (Ak (thF n g i) 1)) (ofNat (rN (obF g) n i)))
  (sel (ilt (ofNat (rN (mbF g) n i)) (wr .i64 (Ak (loF n g i) 1))) (wr .i64 (Ak (loF n g i) 1)) (ofNat (rN (mbF g) n i))) (AV i 1) (As i (λq=>evV (upX n g i q)) (.agg [iV (thF n g i),iV (plM n g i (thF n g i)),iV (g i).src,iV (loF n g i),iV 0])) (As i (λ_=>iV (-1)) (iV (-1)))
  (λx=>sel (ieq x (thF n g i)) (wr .i64 (Ak (plM n g i (thF n g i)) 1)) (plM n g i x)))=(Ex.nm,Zc A n f g (wr .i64 (Ak (ofNat i) 1)) ()):=by
 have hx:=Tt n g i;rw [show evV (evF n g (λ_=>false) i) = .agg [iV (thF n g i),iV (plM n g i (thF n g i)),iV (g i).src,iV (loF n g i),iV 0] by rw [CH hi]; rfl] at hx;have m1:=Ahn (p:=obF g) hi hn;have m2:=Ahn (p:=mbF g) hi hn;have m1:sel (ilt (ofNat (rN (obF g) n i)) (wr .i64 (Ak (thF n g i) 1))) (wr .i64 (Ak (thF n g i) 1)) (ofNat (rN (obF g) n i))=ofNat (rN (obF g) n (i+1)):=m1;have m2:sel (ilt (ofNat (rN (mbF g) n i)) (wr .i64 (Ak (loF n g i) 1))) (wr .i64 (Ak (loF n g i) 1)) (ofNat (rN (mbF g) n i))=ofNat (rN (mbF g) n (i+1)):=m2;rw [hx,JU,AjK n g hi hn,m1,m2,Ap hi (by omega)];rfl
theorem Y3 {n i:Nat} {g:Nat->E6} (hi:i<n) (hn:n <= 16):F6 (thF n g i)=true∧F6 (wr .i64 (Ak (plM n g i (thF n g i)) 1))=true:=by
 have hth:thF n g i=ofNat (AZ (obF g) n i):=Ey hi;have hpn:=Ox (p:=obF g) (n:=n) (k:=i) (by omega);have hcn:=Bm (obF g) n;have hc:=Bm (λk=>ieq (thF n g i) (thF n g k)) i;refine ⟨by rw [hth]; exact AcR (by omega),?_⟩;unfold plM;rw [Ap (n:=n) (by omega) (by omega)];exact AcR (by omega)
theorem AmM (hn:n <= 16):(A3 (B14 4 L) Acg 4611686018427387905 (Zc A n f g 0 ())).sem=some (SD A n f g) :=
 Bq (R:=exR) BZ (S:=λc a _=>Zc A n f g c a) (j:=λ_=>.und) (g:=gGo) (fin:=λ_=>SD A n f g) (e:=SD A n f g) (n:=n) (by omega)
  (λi a j r hi he=>DK.ok (L:=goR (λc a _=>Zc A n f g c a) exR i) (.k (ofNat_lt hi) <| .k (Ag hi) <| .k (decide_eq_true hi) <| .k (Ag hi) <| .k (decide_eq_true hi) <| .k (Y3 (g:=g) hi hn).1 <| .k (Ag hi) <| .k (decide_eq_true hi) <| .k (Ag hi) <| .k (decide_eq_true hi) <| .k (show Bn i 1 40=true from C0 (by omega)) <| .k (Ag hi) <| .k (decide_eq_true hi) <| .k (Y3 (g:=g) hi hn).1 <| .k (show nlt i 4611686018427387904=true from decide_eq_true (by omega)) <| .k (Y3 (g:=g) hi hn).1 <| .k (Y3 (g:=g) hi hn).2 <| .k (Ag hi) <| .k (decide_eq_true hi) <| .k (Ag hi) <| .k (decide_eq_true hi) <| .k (show Bn i 1 8=true from C0 (by omega)) <| .e (AkU A f (g:=g) hi hn)) (by kernel_rfl) he)
  (λa j=>DK.ok (C:=.leaf (SD A n f g)) (L:=exR) (.k (Aw (Nat.le_refl n)) .l) (by kernel_rfl) rfl) (Nat.zero_add _).symm (by omega) (AcN n)
variable (tt:Int)
theorem AlC {n b:Nat} {g:Nat->E6} (hk:∃ k,k<n∧mbF g k=true) (h:Dy (mbF g) n b=false):hpD A n f g tt b 0=hpD A n f g tt (b+1) 0:=by
 have hd:dS n g b 0=dS n g (b+1) 0:=by
  funext i;show dnF n g _ b 0 i=dnF n g _ (b+1) 0 i;unfold dnF;by_cases hi:i<n
  ·rw [Aaa hi hk h]
  ·rw [decide_eq_false hi]; rfl
 unfold hpD;rw [hd,Ut h,Ad6 (Ut h)]
theorem AmL (hn:n <= 16) (hk:∃ k,k<n∧mbF g k=true):(A3 (B14 6 L) WC 4611686018427387905 (Zb A n f g tt 0 ())).sem=some (Pe A n f g tt):=by
 have hB:∀ {i:Nat},i<n->yB n i=ofNat ((i+(n-1)) % n):=fun {i} hi=>L8 (a:=i) (n:=n) (by omega) (by omega);have nx:∀ {i:Nat},i<n->toN (wr .i64 (Ak (ofNat i) 1))=i+1:=fun {i} hi=>by rw [Ap hi (by omega)]; rfl
 exact Bq (R:=exR) BZ (S:=λc a _=>Zb A n f g tt c a) (j:=λ_=>.und) (g:=AhB n g) (fin:=λ_=>Pe A n f g tt) (e:=Pe A n f g tt) (n:=n) (by omega)
  (λi a j r hi he=>DK.ok (L:=goR (λc a _=>Zb A n f g tt c a) exR i) (.k (ofNat_lt hi) <| .k (KE hi) <| .k (Vt hi (by omega)) <| .k (show nlt (toN (yB n i)) n=true by rw [hB hi]; exact decide_eq_true (Nat.mod_lt _ (by omega))) <|
   .c (λh1=>.k h1 <| .k (Ag hi) <| .k (decide_eq_true hi) <| .a (r88 (z:=i) hi (by rw [hB hi] at h1; exact h1) hn A f tt (vs6 n g i) (by kernel_rfl) (by kernel_rfl)) <| .e (congrArg (λb=>(Ex.nm,V0 n (wr .i64 (Ak (ofNat i) 1)) (hpD A n f g tt b 0))) (nx hi).symm))
   λh1=>.k h1 <| .e (congrArg (λh=>(Ex.nm,V0 n (wr .i64 (Ak (ofNat i) 1)) h)) ((AlC A f tt hk (by rw [hB hi] at h1; exact h1)).trans (congrArg (λb=>hpD A n f g tt b 0) (nx hi).symm)))) (by kernel_rfl) he)
  (λa j=>DK.ok (C:=.leaf (Pe A n f g tt)) (L:=exR) (.k (Aw (Nat.le_refl n)) .l) (by kernel_rfl) rfl) (Nat.zero_add _).symm (by omega)
  (FZ (acc:=λ_=>()) (λi _=>by unfold AhB; cases AN (g (toN (yB n i))) <;> rfl) n 0 (Nat.zero_add n))
end
theorem m14 {A:Int} {n:Nat} {f:Nat->E6} (hy:IsCycle A n f):Ao (ilt 0 (ofNat n)) (Ao (E9 n) (E8 8 (ofNat n) (ofNat n)))=true∧E8 24 (ofNat (rN (mbF (shG n f)) n n)) (ofNat (rN (mbF (shG n f)) n n))=true:=by
 have h1:=hy.lo;have h2:=hy.hi;have h3:=Ua (mbF (shG n f)) n n;unfold Ao ilt E9 E8;simp only [Int.ofNat_eq_natCast,Bool.and_eq_true,decide_eq_true_eq];omega
theorem Anq (L:LT) (A:Int) (n:Nat) (f:Nat->E6) (hy:IsCycle A n f):(A3 (B14 6 L) WC 4611686018427387905 (V0 n 0 (hpW A n f (shG n f) (ofNat (rN (obF (shG n f)) n n)) (rN (mbF (shG n f)) n n) (λi=>evV (upX n (shG n f) n i)) (λ_=>iV (-1)) (λ_=>true) (λ_=>0) λ_ _=>.und))).sem=some (Pe A n f (shG n f) (ofNat (ttN n (shG n f)))):=by
 have hg:=Dl hy;have hm:∃ k,k<n∧mbF (shG n f) k=true:=Jz (p:=mbF (shG n f)) (by have:=hg.moves; show 0<An (λk=>AN (shG n f k)) n; omega);have h:=AmL L A n f (shG n f) (ofNat (ttN n (shG n f))) hy.hi hm;rw [show Zb A n f (shG n f) (ofNat (ttN n (shG n f))) 0 ()=V0 n 0 (hpD A n f (shG n f) (ofNat (ttN n (shG n f))) 0 0) from rfl] at h;unfold hpD at h;rw [show dS n (shG n f) 0 0=dnF n (shG n f) (Gn (mbF (shG n f)) n) 0 0 from rfl,<- X2,Amn,Ahx,Aoe] at h;rw [show rN (obF (shG n f)) n n=ttN n (shG n f) from RJ hg.outer,show rN (mbF (shG n f)) n n=kkN n (shG n f) from RJ hg.moves];exact h
def C14 (A:Int) (n:Nat) (f:Nat->E6):AE:=.br (BC n) (.br (ieq (BK A n f) 0) (.leaf (.tup [Ry A n (shG n f),iV 0,iV 0],AmG n (shG n f))) (.leaf (.tup [noV,iV (BK A n f),iV (D4 A n f)],noH))) .fail
theorem p14:Ax Tryz.prog Gl 57 ofT:=by
 refine Aj A7 mixed Tryz.func57 (by kernel_rfl) (by kernel_rfl) λvs v h' h=>?_;unfold ofT at h;split at h
 ·rename_i A u
  obtain ⟨n,f,ha,h1⟩:=Co h;obtain ⟨h8,hq⟩:=Ad h1;have w:=show DK (λa=>a) (C14 A n f) _ from .k (eL n) <| .g λh8=>.k h8 <| .c (λhc=>.k (eN hc) <| .k (eL n) <| .k h8 <| .k (Bl hc).may <| .a (r14 (Go.Sy.askL (W7 n f)) A n f (Bl hc).hi ⟨(HA (Bl hc)).1,(HA (Bl hc)).2.1,(HA (Bl hc)).2.2.1⟩) <| .a (AmN (Go.Sy.askL (W7 n f)) A n f (Bl hc).hi (HA (Bl hc)).2.2.2) <|
   .k eT <| .k (eL n) <| .k (m14 (Bl hc)).1 <| .k (En (n:=n)) <| .k eT <| .k (eL n) <| .k (m14 (Bl hc)).1 <| .k (En (n:=n)) <| .a (AmM (Go.Sy.askL (W7 n f)) A n f (shG n f) (Bl hc).hi) <| .k (m14 (Bl hc)).2 <| .a (Anq (Go.Sy.askL (W7 n f)) A n f (Bl hc)) .l) λhc=>.k (eN hc) .l
  have R:=λr (h:(C14 A n f).sem=some r)=>DK.of (t:=Ay (Ai tab ⟨Py,Go.Sy.askL (W7 n f),Gl⟩ Tryz.f57 [iV A,AS n f] [])) h w (by kernel_rfl);unfold C14 at R;cases hc:ieq (BK A n f) 0 with
  | true =>rw [hc] at hq;have:=Ab hq;simp only [Prod.mk.injEq] at this;obtain ⟨rfl,rfl⟩:=this;have hm:=(Dl (Bl hc)).moves;exact ⟨_,⟨Py,Go.Sy.askL (W7 n f),Gl⟩,_,Xy ha,rfl,QT,J6 _ _ _,R _ (by rw [h8,hc]; rfl),AjB (by show 0<An (λk=>AN (shG n f k)) n; omega)⟩
  | false =>rw [hc] at hq;have:=Ab hq;simp only [Prod.mk.injEq] at this;obtain ⟨rfl,rfl⟩:=this;exact ⟨_,⟨Py,Go.Sy.askL (W7 n f),Gl⟩,_,Xy ha,rfl,QT,J6 _ _ _,R _ (by rw [h8,hc]; rfl),Av.refl _⟩
 ·cases h
theorem TN {a:Int} {n:Nat} {f:Nat->E6} (h:IsCycle a n f):obF (shG n f) (n-1)=true:=by
 obtain ⟨h1,h2,h3,h4⟩:=HA h;have hlo:=h.lo;unfold obF;rw [Fz (by omega)];have:(shQ n f+(n-1)) % n=Cq (λi=>AB (AY n f i)) n:=by
  unfold shQ;rw [Nat.mod_add_mod,show Cq (λi=>AB (AY n f i)) n+1+(n-1)=Cq (λi=>AB (AY n f i)) n+n by omega,Nat.add_mod_right,Nat.mod_eq_of_lt h1]
 rw [this];exact h2
end Go.Proofs.YtkgdhhieomndeaaGreatDoor.Sh
namespace Go.Proofs.YtkgdhhieomndeaaGreatDoor.Ed
open Go.Sy Go
open Int (ofNat)
theorem AaE {τ:List Ty} {call:FuncId->List V->St->T (V×Res)} {G:Nat->V} {fn:Func} {vs:List V} {H:List Blk} {L L':LT}
  (h:LLe L L'):TLe (Ai τ ⟨call,L,G⟩ fn vs H) (Ai τ ⟨call,L',G⟩ fn vs H):=by
 unfold Ai;cases fn.body with
 | none=>exact TLe.refl _
 | some c=>exact TLe.bind (Gd (Γ:=⟨call,L,G⟩) h c 0 _) λ_=>TLe.refl _
noncomputable def tb43:AK:=[]
theorem tb43_ok:Aq Tryz.prog Gl tb43:=.nil
theorem Ak9 {i k:Nat} (h:i ≠ k):Nat.beq i k=false:=by
 cases hb:Nat.beq i k
 ·rfl
 ·exact absurd (Nat.eq_of_beq_eq_true hb) h
def Air {α:Type} (z:Nat->α) (i:Nat) (e:α):Nat->α:=λk=>bif Nat.beq k i then e else z k
def Nc {α:Type} (y:Nat->α) (e:α):Nat->Nat->α
 | 0=>y
 | i+1=>Air (Nc y e i) i e
theorem UP {α:Type} (y:Nat->α) (e:α):∀ i j,j<i->Nc y e i j=e
 | i+1,j,h=>by
  show (bif Nat.beq j i then e else Nc y e i j)=e;by_cases hj:j=i
  ·rw [hj,Nat.beq_refl]; rfl
  ·rw [Ak9 hj]; exact UP y e i j (by omega)
theorem AiB (z:Nat->Int) (i:Nat) (e:Int):BH (λk=>iV (z k)) i (iV e)=λk=>iV (Air z i e k):=by
 funext k;rw [Ej];unfold Air;cases Nat.beq k i <;> rfl
theorem UA (i:Nat):ile 0 (ofNat i)=true:=decide_eq_true (Int.natCast_nonneg i)
def ent44 (n:Nat) (g:Nat->V) (k:Int) :St:=⟨jsV 15 0 (λ_=>A9) [(0,.ref 0),(1,iV k),(4,iV 0)],[.xrow true 92 6 n g]⟩
def lp44 (n:Nat) (g:Nat->V) (k:Int):Lp:=⟨bmK 15 0 [0,1,4],1,bmK 15 0 [],1,21⟩
def st44 (n:Nat) (g:Nat->V) (k:Int) (i m:Nat) (x:Nat->V) (j:Nat->V):St:=⟨jsV 15 0 j [(0,.ref 0),(1,iV k),(4,nV i)],[.xrow true 92 6 m x]⟩
def en44e (n:Nat) (g:Nat->V) (k:Int) (i m:Nat) (x:Nat->V):Ex×St:=(.ex 0,⟨jsV 15 0 Aa [],[.xrow true 92 6 m x]⟩)
def markE (n:Nat) (g:Nat->V):List V->T (Nat->V)
 | [.val (.int .i64 k)]=>.br (Af n) (.br (A4 n λi=>okE (g i)) (.leaf λ_=>eV (Aho (wr .i64 (Ak 500 k)))) .fail) .fail
 | _=>.fail
theorem ent44_eq (n:Nat) (g:Nat->V) (k:Int):ent44 n g k=st44 n g k 0 (n+0) g (λi=>nth (ent44 n g k).t i):=by kernel_rfl
def Y7 (n:Nat) (y:Nat->Int) (k:Int) :St:=⟨jsV 16 0 (λ_=>A9) [(0,.ref 0),(1,iV k),(4,iV 0)],[.xrow false 3 1 n (λi=>iV (y i))]⟩
def lp56 (n:Nat) (y:Nat->Int) (k:Int):Lp:=⟨bmK 16 0 [0,1,4],1,bmK 16 0 [],1,n+1⟩
def AeE (n:Nat) (y:Nat->Int) (k:Int) (i:Nat) (z:Nat->Int) (j:Nat->V):St:=⟨jsV 16 0 j [(0,.ref 0),(1,iV k),(4,nV i)],[.xrow false 3 1 n (λi=>iV (z i))]⟩
def YH (n:Nat) (y:Nat->Int) (k:Int) (i:Nat) (z:Nat->Int):Ex×St:=(.ex 0,⟨jsV 16 0 Aa [],[.xrow false 3 1 n (λi=>iV (z i))]⟩)
noncomputable def Pz (L:LT):St->T (Ex×St):=λst=>AD tab ⟨Am tb43,L,Gl⟩ (Au Tryz.f13 0) 0 st
section
variable (L:LT) (n:Nat) (y:Nat->Int) (k:Int) (i:Nat) (z:Nat->Int)  (j:Nat->V)
include L n y k i z j
theorem AmF (h0:ilt (ofNat i) (ofNat n)=false):Al (Pz L) (lp56 n y k) (AeE n y k i z j)=some ((.ex 0),⟨jsV 16 0 Aa [],[.xrow false 3 1 n (λi=>iV (z i))]⟩):=by
 exact Ac (ks:=[kn h0]) (by kernel_rfl)
theorem AmE (h0:ilt (ofNat i) (ofNat n)=true) (h10:ile 0 (ofNat i)=true) (h11:nlt i n=true):Al (Pz L) (lp56 n y k) (AeE n y k i z j)=some (.nm,⟨jsV 16 0 Aa [(0,.ref 0),(1,iV k),(4,iV (wr .i64 (Ak (ofNat i) 1)))],[.xrow false 3 1 n (BH (λi=>iV (z i)) i (iV (wr .i64 (AC (-1000000) k))))]⟩):=by
 exact Ac (ks:=[kn h0,kA (kn h10) (kn h0),kn h11]) (by kernel_rfl)
end
theorem Aoz (L:LT) (p0:PT) (n:Nat) (y:Nat->Int) (k:Int) (z:Nat->Int)  (hp0:p0 (Pz (onP 0 p0 (YH n y k n z) L)) (Y7 n y k)=true):(Ai tab ⟨Am tb43,onP 0 p0 (YH n y k n z) L,Gl⟩ Tryz.f13 [.ref 0,iV k] [.xrow false 3 1 n (λi=>iV (y i))]).sem=some ((.tup []),[.xrow false 3 1 n (λi=>iV (z i))]):=by
 exact Ac (ks:=[kn hp0]) (by kernel_rfl)
theorem AgP (L:LT) (n:Nat) (y:Nat->Int) (k:Int) (hn:n <= 4611686018427387904):∀ (d i:Nat) (j:Nat->V) (q:Nat),n=i+d->d<q ->
  (A3 (Pz L) (lp56 n y k) q (AeE n y k i (Nc y (wr .i64 (AC (-1000000) k)) i) j)).sem=some (YH n y k n (Nc y (wr .i64 (AC (-1000000) k)) n))
 | 0,i,j,q+1,h,_=>by
  have:n=i:=by omega
  subst this;exact Ae (AmF L n y k n _ j (Aw (Nat.le_refl _)))
 | d+1,i,j,q+1,h,h2=>by
  have hi:i<n:=by omega
  have h1:=AmE L n y k i (Nc y (wr .i64 (AC (-1000000) k)) i) j (ofNat_lt hi) (UA i) (decide_eq_true hi);rw [AiB] at h1;rw [Ae h1,A6,Ap hi (by omega)];exact AgP L n y k hn d (i+1) Aa q (by omega) (by omega)
theorem AcY (n:Nat) (y:Nat->Int) (k:Int):Y7 n y k=AeE n y k 0 y (λi=>nth (Y7 n y k).t i):=by kernel_rfl
def W5 (n:Nat) (g:Nat->V):List V->T (Nat->V)
 | [.val (.int .i64 k)]=>.br (Af n) (.br (A4 n λi=>okI (g i)) (.leaf λ_=>iV (wr .i64 (AC (-1000000) k))) .fail) .fail
 | _=>.fail
theorem m56:Ze Tryz.prog Gl 13 (Yb 3 1 W5):=by
 refine AbY A7 mixed Tryz.func13 (by kernel_rfl) (by kernel_rfl) λn g vs g' h=>?_;unfold W5 at h;split at h
 ·rename_i k
  obtain ⟨hn,h⟩:=Ad h;obtain ⟨hg,h⟩:=Ad h;have:=Ab h;subst this;have hn:n <= 4611686018427387904:=of_decide_eq_true hn;have hx:=AH tb43_ok [(0,lp56 n (λi=>edI (g i)) k)];have hL:=AQ [(0,lp56 n (λi=>edI (g i)) k)];have h0:∀ L,(Ba [(0,lp56 n (λi=>edI (g i)) k)] 0 (Pz L) (Y7 n (λi=>edI (g i)) k)).sem=some (YH n (λi=>edI (g i)) k n (Nc (λi=>edI (g i)) (wr .i64 (AC (-1000000) k)) n)):=λL=>by
   rw [AcY];exact AgP L n (λi=>edI (g i)) k hn n 0 _ (n+1) (by omega) (by omega)
  exact ⟨rfl,λ_ _=>rfl,AA Gl tb43 [(0,lp56 n (λi=>edI (g i)) k)],rfl,hx.1,hx.2,_,_,_,λi hi=>(KA (A0.1 hg i hi)).symm,
   AaE (AI hL hL) _ (Aoz _ _ n (λi=>edI (g i)) k (Nc (λi=>edI (g i)) (wr .i64 (AC (-1000000) k)) n) (Az (h0 _))),rfl,λi hi=>by show iV _=iV _; rw [UP _ _ n i hi]⟩
 ·cases h
end Go.Proofs.YtkgdhhieomndeaaGreatDoor.Ed
