/-
  Layer 7: the program's shape of a cycle, as derivations. No conditions.
-/
import Derived.Test.YtkbafjceglhjhaaGreatDoorCyT
import Derived.Test.YtkbafjceglhjhaaGreatDoorCyU
import Derived.Test.YtkbafjceglhjhaaGreatDoorEdY
import Derived.Test.YtkbafjceglhjhaaGreatDoorEdG
namespace Go.Proofs.YtkbafjceglhjhaaGreatDoor.Sh
open Go.Sy Ed
open Int (ofNat)
set_option maxHeartbeats 1000000
set_option maxRecDepth 4000
noncomputable def Alv:A9:=(138,U4)::(48,IK)::(139,BV λe=>bV (A4 e))::(140,AjJ)::(141,BV λe=>bV (AB e))::[]
theorem AdT:Ao Tryz.prog Gl Alv:=.cons p48 <| .cons p65 <| .cons p52 <| .cons p53 <| .cons p54 .nil
noncomputable def OZ:FuncId->List V->St->T (V×Res):=JC [(142,ML tab (cxA Gl tb55 AeL) Tryz.f142)] (Ax Alv)
theorem QF:Bj Tryz.prog ⟨OZ,Gl⟩:=Gm mixed (.cons rfl A2 (AU tb55_ok AeL).1 (AU tb55_ok AeL).2 Tryz.func142 (by kernel_rfl) (by kernel_rfl) .nil) (E7 rfl AdT)
def zE:E6:=⟨0,false,false,0,0,0⟩
def Aoe (n:Nat) (G:Nat->E6) (i:Nat):E6:=bif decide (i<n) then G i else zE
def shQ (n:Nat) (f:Nat->E6):Nat:=(Ct (λi=>A4 (CH n f i)) n+1) % n
def shG (n:Nat) (f:Nat->E6):Nat->E6:=Aoe n λi=>CH n f ((shQ n f+i) % n)
def upE (b:Nat) (G:Nat->E6) (i:Nat):E6:=bif decide (i<b) then G i else zE
theorem ZG (b:Nat) (G:Nat->E6):AG b (λi=>eV (upE b G i)) (eV (G b))=λi=>eV (upE (b+1) G i):=by
 funext k;rw [Bu,show Nat.beq k b=decide (k=b) by rw [Bool.eq_iff_iff]; simp];unfold upE;by_cases h:k=b
 ·subst h; simp
 ·by_cases h2:k<b
  ·have:k<b+1:=by omega
   simp [h,h2,this]
  ·have:¬ k<b+1:=by omega
   simp [h,h2,this]
def upX (n:Nat) (g:Nat->E6) (b i:Nat):Ev5:=bif decide (i<b) then evF n g (λ_=>false) i else ⟨0,0,0,0,0⟩
theorem SJ (n:Nat) (g:Nat->E6) (b:Nat):AG b (λi=>evV (upX n g b i)) (evV (evF n g (λ_=>false) b))=λi=>evV (upX n g (b+1) i):=by
 funext k;rw [Bu,show Nat.beq k b=decide (k=b) by rw [Bool.eq_iff_iff]; simp];unfold upX;by_cases h:k=b
 ·subst h; simp
 ·by_cases h2:k<b
  ·have:k<b+1:=by omega
   simp [h,h2,this]
  ·have:¬ k<b+1:=by omega
   simp [h,h2,this]
theorem JI (b:Nat) (v:V):AG b (λ_=>v) v=λ_=>v:=by
 funext k;rw [Bu];cases Nat.beq k b <;> rfl
def plM (n:Nat) (g:Nat->E6) (b:Nat) (x:Int):Int:=ofNat (Ak (λk=>ieq x (thF n g k)) b)
theorem Aj5 (n:Nat) (g:Nat->E6) {b:Nat} (hb:b<n) (hn:n <= 16):(λi=>sel (ieq i (thF n g b)) (wr .i64 (Ah (plM n g b (thF n g b)) 1)) (plM n g b i))=plM n g (b+1):=by
 funext i;have hc:=BK (λk=>ieq (thF n g b) (thF n g k)) b;unfold plM;rw [A1 (n:=n) (by omega) (by omega)];cases h:ieq i (thF n g b) with
 | true =>have:=Cj h;subst this;rw [BH h];rfl
 | false =>rw [BZ h];rfl
theorem AgU {p:Nat->Bool} {n b:Nat} (hb:b<n) (hn:n <= 16):sel (ilt (ofNat (rN p n b)) (wr .i64 (Ah (A7 p n b) 1))) (wr .i64 (Ah (A7 p n b) 1)) (ofNat (rN p n b))=ofNat (rN p n (b+1)):=by
 have h1:=MW p n b hb;have h2:=To p n b;rw [FC hb,A1 (n:=n) (by omega) (by omega),Dt,rN];by_cases h:Bc p n b<rN p n b
 ·rw [if_pos h,decide_eq_false (by omega)]; rfl
 ·rw [if_neg h,decide_eq_true (by omega)]
  show ofNat (Bc p n b+1)=_;rw [show Bc p n b=rN p n b by omega]
theorem Acm {k:Nat} (h:k <= 100):DR (ofNat k)=true:=by
 unfold DR;rw [decide_eq_true (by simp only [Int.ofNat_eq_natCast]; omega),decide_eq_true (by simp only [Int.ofNat_eq_natCast]; omega)];rfl
def ttN (n:Nat) (g:Nat->E6):Nat:=Ak (obF g) n
def Vg (a:Int) (n:Nat) (g:Nat->E6):V:=.agg [iV a,.ref 0,.ref 1,iV (ofNat (ttN n g)),iV (ofNat (kkN n g)),.ref 2,.jref 3]
def Vh (n:Nat) (g:Nat->E6):List Blk:=[.row 76 6 n (λi=>eV (g i)),.row 74 5 n (λi=>evV (evF n g (λ_=>true) i)),.row 3 1 n (λi=>iV (rfF n g (λ_=>true) i)),
 .jag ⟨24,1,kkN n g,λ_=>.und,0,3,1,λ_=>true,lnN (mbF g) (wrF g) n,λk i=>iV (ofNat (coN (mbF g) (wrF g) n k i)),none⟩]
def noV:V:=.agg [iV 0,.ref 0,.ref 1,iV 0,iV 0,.ref 2,.jref 3]
def noH:List Blk:=[.row 76 6 0 Ab,.row 74 5 0 Ab,.row 3 1 0 Ab,.jag ⟨24,1,0,λ_=>.und,0,3,1,λ_=>true,λ_=>0,λ_ _=>.und,none⟩]
def ofT:List V->A3
 | [.val (.int .i64 a),v]=>apL v λn f=>.br (CU n) (.br (ieq (He a n f) 0) (.leaf (.tup [Vg a n (shG n f),iV 0,iV 0],Vh n (shG n f))) (.leaf (.tup [noV,iV (He a n f),iV (Aku a n f)],noH))) .fail
 | _=>.fail
theorem Rc {n i:Nat} {f:Nat->E6} (h:i<n):shG n f i=CH n f ((shQ n f+i) % n):=by
 unfold shG Aoe;rw [decide_eq_true h];rfl
theorem P5 {a:Int} {n:Nat} {f g:Nat->E6} (h:IsCycle a n f) (he:∀ i,i<n->g i=f i):IsCycle a n g:=by
 have c1:∀ (p:E6->Bool) k,k <= n->Ak (λi=>p (g i)) k=Ak (λi=>p (f i)) k:=λp k hk=>Jq λi hi=>by rw [he i (by omega)]
 have c2:∀ (p:E6->Bool) i,i<n->A7 (λk=>p (g k)) n i=A7 (λk=>p (f k)) n i:=λp i hi=>by
  rw [FC hi,FC hi];unfold Bc;rw [c1 p i (by omega),c1 p n (Nat.le_refl _)]
 have hlo:=h.lo;refine ⟨h.arch,h.lo,h.hi,λi hi=>?_,λi hi=>?_,?_,?_,λi hi=>?_,λi hi=>?_⟩
 ·have:=h.legal i hi
  unfold D9 at this ⊢;rw [he i hi];exact this
 ·have:=h.meets i hi
  unfold Gw at this ⊢;rw [he i hi,he _ (Nat.mod_lt _ (by omega))];exact this
 ·rw [c1 A4 n (Nat.le_refl _)]; exact h.outer
 ·rw [c1 AB n (Nat.le_refl _)]; exact h.moves
 ·have:=h.writes i hi
  unfold Ba OU at this ⊢;have e:(λi=>isW (g i)) i=(λi=>isW (f i)) i:=by show isW (g i)=isW (f i); rw [he i hi]
  rw [e,c2 AB i hi,Jq (q:=CG (A7 (λk=>AB (f k)) n) (λi=>isW (f i)) (A7 (λk=>AB (f k)) n i)) λk hk=>by
   unfold CG;rw [c2 AB k hk];show Aj _ (isW (g k))=Aj _ (isW (f k));rw [he k hk]]
  exact this
 ·have:=h.crowd i hi
  unfold Ba OU at this ⊢;rw [c2 A4 i hi,Jq (q:=CG (A7 (λk=>A4 (f k)) n) (λ_=>true) (A7 (λk=>A4 (f k)) n i)) λk hk=>by
   unfold CG;rw [c2 A4 k hk]]
  exact this
theorem Jp {p:Nat->Bool}:∀ {n:Nat},0<Ak p n->∃ k,k<n∧p k=true
 | 0,h=>by simp [Ak] at h
 | n+1,h=>by
  cases hp:p n with
  | true=>exact ⟨n,Nat.lt_succ_self n,hp⟩
  | false =>rw [BZ hp] at h;obtain ⟨k,h1,h2⟩:=Jp h;exact ⟨k,by omega,h2⟩
theorem Q7 {a:Int} {n:Nat} {f:Nat->E6} (h:IsCycle a n f):IsCycle a n (λi=>CH n f i):=by
 have h1:=Qv n (λi=>BQ (f i));have h2:=h.lo;exact h.turned (show DG n (λi=>BQ (f i))<n by omega)
theorem JG {a:Int} {n:Nat} {f:Nat->E6} (h:IsCycle a n f):Ct (λi=>A4 (CH n f i)) n<n∧A4 (CH n f (Ct (λi=>A4 (CH n f i)) n))=true∧(∀ i,i<Ct (λi=>A4 (CH n f i)) n->A4 (CH n f i)=false)∧shQ n f<n:=by
 have h2:=h.lo;have h3:=(Q7 h).outer;obtain ⟨k,h4,h5⟩:=Jp (p:=λi=>A4 (CH n f i)) (n:=n) (by omega);obtain ⟨h6,h7,h8⟩:=EK (p:=λi=>A4 (CH n f i)) h4 h5;exact ⟨by omega,h7,h8,Nat.mod_lt _ (by omega)⟩
theorem ED {a:Int} {n:Nat} {f:Nat->E6} (h:IsCycle a n f):IsCycle a n (shG n f) :=
 P5 ((Q7 h).turned (JG h).2.2.2) λi hi=>Rc hi
theorem Rn {p:Nat->Bool} {n:Nat} (h:2 <= Ak p n):rN p n n=Ak p n:=by
 have hn:0<n:=by
  rcases Nat.eq_zero_or_pos n with h0 | h0
  ·subst h0; simp [Ak] at h
  ·exact h0
 have h1:=Aa5 p n (n-1) (by omega);rw [show n-1+1=n by omega] at h1;rw [h1];have h2:=LY p (n-1);rw [show n-1+1=n by omega] at h2;split <;> omega
theorem Ac3 (n:Nat) (g:Nat->E6):dnF n g (Gq (mbF g) n) 0 0=λ_=>false:=by
 funext j;unfold dnF;rw [Ac2];simp
theorem W9 (n:Nat) (g:Nat->E6):upX n g n=evF n g (dnF n g (Gq (mbF g) n) 0 0):=by
 rw [Ac3];funext i;unfold upX;by_cases hi:i<n
 ·rw [decide_eq_true hi]; rfl
 ·rw [decide_eq_false hi]
  unfold evF;rw [decide_eq_false hi];rfl
theorem AlF (n:Nat) (g:Nat->E6):rfF n g (dnF n g (Gq (mbF g) n) 0 0)=λ_=>-1:=by
 rw [Ac3];rfl
def Ame (n:Nat) (g:Nat->E6):List Blk:=[.row 76 6 n (λi=>eV (g i)),.row 74 5 n (λi=>evV (evF n g (dnF n g (Gq (mbF g) n) n 0) i)),.row 3 1 n (λi=>iV (rfF n g (dnF n g (Gq (mbF g) n) n 0) i)),
 .jag ⟨24,1,kkN n g,λ_=>.nilS,0,3,1,λ_=>true,lnP n g n 0,λk i=>coP n g n 0 k i,none⟩]
theorem Ajz {n:Nat} {g:Nat->E6} (hk:0<kkN n g):Ap (Ame n g) (Vh n g):=by
 have hn:0<n:=by
  rcases Nat.eq_zero_or_pos n with h0 | h0
  ·subst h0; simp [kkN,Ak] at hk
  ·exact h0
 obtain ⟨k0,hk0,hm⟩:=Jp hk;have hd:∀ i,i<n->dnF n g (Gq (mbF g) n) n 0 i=true:=λi hi=>by
  unfold dnF;rw [decide_eq_true hi,Uv]
  ·rfl
  ·exact HB hn
 refine .cons (λ_ _=>rfl) (.cons (λi hi=>?_) (.cons (λi hi=>?_) (.consB (.jag (λ_ _=>.inr rfl) (λ_ _=>rfl) (λk hk'=>?_) (λk hk' q hq=>?_)) (.refl []))))
 ·rw [Dq hi,Dq hi,hd i hi]
 ·unfold rfF
  rw [hd i hi]
 ·have hk':k<kkN n g:=hk'
  have:=(FX hk').1;show lnN _ _ n k=lnP n g n 0 k;unfold lnP;rw [if_pos hk',if_pos this]
 ·have hk':k<kkN n g:=hk'
  have hq:q<lnP n g n 0 k:=hq;show iV _=coP n g n 0 k q;unfold coP;rw [if_pos hq]
section
variable (A:Int) (n:Nat) (f:Nat->E6)
def hp2 (l:List Blk):List Blk:=.cells [iV 0,.nilS,.nilS,iV 0,iV 0,.nilS,.nilS] :: .row 76 6 n (λi=>eV (CH n f i))::l
def j4 (l:List (Nat×V)):List V:=jsV 164 0 Ab l
def S14 (c:Int) (_:Unit):St:=⟨j4 [(0,iV A),(4,.ptr 0 0),(9,.ref 1),(11,nV n),(12,iV 0),(39,nV n),(40,iV c)],hp2 n f []⟩
def E14 (q:V):Ex×St:=(.ex 0,⟨j4 [(0,iV A),(4,.ptr 0 0),(9,.ref 1),(11,nV n),(12,q)],hp2 n f []⟩)
def g14 (i:Nat) (_:Unit):T (Unit ⊕ (Ex×St)):=.br (A4 (CH n f i)) (.leaf (.inr (E14 A n f (iV (Aq (wr .i64 (Ah (ofNat i) 1)) (ofNat n)))))) (.leaf (.inl ()))
variable (z:Nat)
def Ahk (k:Nat) (y:Nat->V):List Blk:=hp2 n f [.cells [iV A,.ref 3,.ref 4,iV 0,iV 0,.ref 5,.jref 6],.row 76 6 k y,.row 74 5 0 Ab,.row 3 1 0 Ab,jE]
def cE (i:Nat):E6:=CH n f ((z+i) % n)
def T14_2 (c:Int) (k:Nat) (y:Nat->V):St:=⟨j4 [(0,iV A),(4,.ptr 0 0),(9,.ref 1),(11,nV n),(12,nV z),(14,.ptr 2 0),(55,nV n),(56,iV c)],Ahk A n f k y⟩
def Adj (c:Int) (_:Unit):St:=T14_2 A n f z c (toN c) λi=>eV (upE (toN c) (cE n f z) i)
def Sf:Ex×St:=(.ex 2,⟨j4 [(0,iV A),(4,.ptr 0 0),(11,nV n),(14,.ptr 2 0)],Ahk A n f n λi=>eV (upE n (cE n f z) i)⟩)
variable (g:Nat->E6)
def Ahj (tt kk:Int) (k:Nat) (x r:Nat->V):List Blk:=hp2 n f [.cells [iV A,.ref 3,.ref 4,iV tt,iV kk,.ref 5,.jref 6],.row 76 6 n (λi=>eV (g i)),.row 74 5 k x,.row 3 1 k r,jE]
def Ah7 (c tt kk:Int) (k:Nat) (x r:Nat->V) (pl:Int->Int):St:=⟨j4 [(4,.ptr 0 0),(11,nV n),(14,.ptr 2 0),(16,.ref 7),(17,.ref 8),(18,.ref 9),(80,nV n),(81,iV c)],
 Ahj A n f g tt kk k x r++[.row 3 1 n (λk=>iV (thF n g k)),.row 3 1 n (λk=>iV (loF n g k)),.imap 92 k pl]⟩
def Ye (c:Int) (_:Unit):St:=Ah7 A n f g c (ofNat (rN (obF g) n (toN c))) (ofNat (rN (mbF g) n (toN c))) (toN c) (λi=>evV (upX n g (toN c) i)) (λ_=>iV (-1)) (plM n g (toN c))
def Se:Ex×St:=(.ex 4,⟨j4 [(4,.ptr 0 0),(11,nV n),(14,.ptr 2 0)],Ahj A n f g (ofNat (rN (obF g) n n)) (ofNat (rN (mbF g) n n)) n (λi=>evV (upX n g n i)) λ_=>iV (-1)⟩)
variable (tt:Int)
def UJ (c:Int) (h:List Blk):St:=⟨j4 [(4,.ptr 0 0),(11,nV n),(14,.ptr 2 0),(145,nV n),(146,iV c)],h⟩
def Yd (c:Int) (_:Unit):St:=UJ n c (hpD A n f g tt (toN c) 0)
def OF:Ex×St:=(.ex 6,⟨j4 [(4,.ptr 0 0),(14,.ptr 2 0)],hpD A n f g tt n 0⟩)
abbrev yB (n i:Nat):Int:=Aq (wr .i64 (AZ (wr .i64 (Ah (ofNat i) (ofNat n))) 1)) (ofNat n)
def vs6 (i:Nat):List V:=j4 [(4,.ptr 0 0),(11,nV n),(14,.ptr 2 0),(20,nV i),(145,nV n),(146,nV i),(147,bV (ilt (ofNat i) (ofNat n))),(148,nV i),(149,.ptr 2 1),(150,.ref 3),(151,nV i),(152,nV n),
 (153,iV (wr .i64 (Ah (ofNat i) (ofNat n)))),(154,iV (wr .i64 (AZ (wr .i64 (Ah (ofNat i) (ofNat n))) 1))),(155,nV n),(156,iV (yB n i)),(157,.ept 3 6 (toN (yB n i)) 0),(158,eV (g (toN (yB n i)))),(159,bV (AB (g (toN (yB n i))))),(160,nV i)]
def Ahp (i:Nat) (_:Unit):T (Unit ⊕ (Ex×St)):=.br (AB (g (toN (yB n i)))) (.leaf (.inl ())) (.leaf (.inl ()))
end
def gGo (_:Nat) (_:Unit):T (Unit ⊕ (Ex×St)):=.leaf (.inl ())
theorem Acj {fin:Unit->Ex×St} (n:Nat):Ch gGo fin n 0 ()=some (fin ()):=Co (acc:=λ_=>()) (λ_ _=>rfl) n 0 (Nat.zero_add n)
def lp14:Lp:=⟨bmK 164 0 [0,4,9,11,12,39,40],2,bmK 164 0 [0,4,9,11,12],2,4611686018427387905⟩
def lp14_2:Lp:=⟨bmK 164 0 [0,4,9,11,12,14,55,56],7,bmK 164 0 [0,4,11,14],7,4611686018427387905⟩
def Abv:Lp:=⟨bmK 164 0 [4,11,14,16,17,18,80,81],10,bmK 164 0 [4,11,14],7,4611686018427387905⟩
def VH:Lp:=⟨bmK 164 0 [4,11,14,145,146],8,bmK 164 0 [4,14],8,4611686018427387905⟩
def ls14 (n:Nat) (f:Nat->E6):List (Nat×Lp×List (Nat×(Nat->V))):=[(0,lp14,[]),(2,lp14_2,[(3,λi=>eV (upE 0 (cE n f (shQ n f)) i))]),(4,Abv,[(4,λi=>evV (upX n (shG n f) 0 i)),(5,λ_=>iV (-1))]),(6,VH,[])]
noncomputable def B14 (id:Nat) (L:LT):St->T (Ex×St):=λst=>A8 tab ⟨OZ,L,Gl⟩ (As Tryz.f99 id) id st
section
variable (L:LT) (A:Int) (n:Nat) (f:Nat->E6)
theorem r14 (hn:n <= 16) (h:Ct (λi=>A4 (CH n f i)) n<n∧A4 (CH n f (Ct (λi=>A4 (CH n f i)) n))=true∧(∀ i,i<Ct (λi=>A4 (CH n f i)) n->A4 (CH n f i)=false)):(Au (B14 0 L) lp14 4611686018427387905 (S14 A n f 0 ())).sem=some (E14 A n f (iV (ofNat (shQ n f)))):=by
 obtain ⟨h1,h2,h3⟩:=h;have e:E14 A n f (iV (Aq (wr .i64 (Ah (ofNat (Ct (λi=>A4 (CH n f i)) n)) 1)) (ofNat n)))=E14 A n f (iV (ofNat (shQ n f))):=by rw [A1 (n:=n) h1 (by omega),DZ]; rfl
 rw [<- e];exact AT (R:=exR) BA (S:=λc a _=>S14 A n f c a) (j:=λ_=>.und) (g:=g14 A n f) (fin:=λ_=>E14 A n f (iV 0)) (e:=E14 A n f (iV (Aq (wr .i64 (Ah (ofNat (Ct (λi=>A4 (CH n f i)) n)) 1)) (ofNat n)))) (n:=n) (by omega)
  (λi a j r hi he=>DK.ok (L:=goR (λc a _=>S14 A n f c a) exR i) (.k (ofNat_lt hi) <| .k (Ae hi) <| .k (decide_eq_true hi) <| .c (λh1=>.k h1 <| .k (HH hi) <| .l) λh1=>.k h1 <| .l) (by kernel_rfl) he)
  (λa j=>DK.ok (C:=.leaf (E14 A n f (iV 0))) (L:=exR) (.k (Az (Nat.le_refl n)) .l) (by kernel_rfl) rfl) (Nat.zero_add _).symm (by omega)
  (FM (acc:=λ_=>()) (m:=Ct (λi=>A4 (CH n f i)) n) (λi hi=>by unfold g14; rw [h3 i hi]; rfl) (by unfold g14; rw [h2]; rfl) n 0 (by omega) (by omega))
theorem r14_2 (hn:n <= 16) {z:Nat} (hz:z<n):(Au (B14 2 L) lp14_2 4611686018427387905 (Adj A n f z 0 ())).sem=some (Sf A n f z) :=
 AT (R:=exR) BA (S:=λc a _=>Adj A n f z c a) (j:=λ_=>.und) (g:=gGo) (fin:=λ_=>Sf A n f z) (e:=Sf A n f z) (n:=n) (by omega)
  (λi a j r hi he=>DK.ok (L:=goR (λc a _=>Adj A n f z c a) exR i) (.k (ofNat_lt hi) <| .k (HH hi) <| .k (Hk hz hi (by omega)) <| .k (decide_eq_true (Hj hz hi (by omega))) <| .k (show Bp i 1 40=true from GH (by omega)) <| .e (eq2 (λk y=>(Ex.nm,T14_2 A n f z (wr .i64 (Ah (ofNat i) 1)) k y)) (show AD i 1=_ by rw [A1 hi (by omega)]; rfl) (show AG i (λq=>eV (upE i (cE n f z) q)) (eV (CH n f (toN (Aq (wr .i64 (Ah (ofNat z) (ofNat i))) (ofNat n)))))=_ by rw [SD hz hi (by omega),A1 hi (by omega)]; exact ZG i (cE n f z)))) (by kernel_rfl) he)
  (λa j=>DK.ok (C:=.leaf (Sf A n f z)) (L:=exR) (.k (Az (Nat.le_refl n)) .l) (by kernel_rfl) rfl) (Nat.zero_add _).symm (by omega) (Acj n)
variable (g:Nat->E6)
theorem AkL {n i:Nat} {g:Nat->E6} (hi:i<n) (hn:n <= 16):(Ex.nm,Ah7 A n f g (wr .i64 (Ah (ofNat i) 1)) (sel (ilt (ofNat (rN (obF g) n i)) (wr .i64 (Ah (thF n g i) 1))) (wr .i64 (Ah (thF n g i) 1)) (ofNat (rN (obF g) n i)))
  (sel (ilt (ofNat (rN (mbF g) n i)) (wr .i64 (Ah (loF n g i) 1))) (wr .i64 (Ah (loF n g i) 1)) (ofNat (rN (mbF g) n i))) (AD i 1) (AG i (λq=>evV (upX n g i q)) (.agg [iV (thF n g i),iV (plM n g i (thF n g i)),iV (g i).src,iV (loF n g i),iV 0])) (AG i (λ_=>iV (-1)) (iV (-1)))
  (λx=>sel (ieq x (thF n g i)) (wr .i64 (Ah (plM n g i (thF n g i)) 1)) (plM n g i x)))=(Ex.nm,Ye A n f g (wr .i64 (Ah (ofNat i) 1)) ()):=by
 have hx:=SJ n g i;rw [show evV (evF n g (λ_=>false) i) = .agg [iV (thF n g i),iV (plM n g i (thF n g i)),iV (g i).src,iV (loF n g i),iV 0] by rw [Dq hi]; rfl] at hx;have m1:=AgU (p:=obF g) hi hn;have m2:=AgU (p:=mbF g) hi hn;have m1:sel (ilt (ofNat (rN (obF g) n i)) (wr .i64 (Ah (thF n g i) 1))) (wr .i64 (Ah (thF n g i) 1)) (ofNat (rN (obF g) n i))=ofNat (rN (obF g) n (i+1)):=m1;have m2:sel (ilt (ofNat (rN (mbF g) n i)) (wr .i64 (Ah (loF n g i) 1))) (wr .i64 (Ah (loF n g i) 1)) (ofNat (rN (mbF g) n i))=ofNat (rN (mbF g) n (i+1)):=m2;rw [hx,JI,Aj5 n g hi hn,m1,m2,A1 hi (by omega)];rfl
theorem XB {n i:Nat} {g:Nat->E6} (hi:i<n) (hn:n <= 16):DR (thF n g i)=true∧DR (wr .i64 (Ah (plM n g i (thF n g i)) 1))=true:=by
 have hth:thF n g i=ofNat (Bc (obF g) n i):=FC hi;have hpn:=NQ (p:=obF g) (n:=n) (k:=i) (by omega);have hcn:=BK (obF g) n;have hc:=BK (λk=>ieq (thF n g i) (thF n g k)) i;refine ⟨by rw [hth]; exact Acm (by omega),?_⟩;unfold plM;rw [A1 (n:=n) (by omega) (by omega)];exact Acm (by omega)
theorem Am0 (hn:n <= 16):(Au (B14 4 L) Abv 4611686018427387905 (Ye A n f g 0 ())).sem=some (Se A n f g) :=
 AT (R:=exR) BA (S:=λc a _=>Ye A n f g c a) (j:=λ_=>.und) (g:=gGo) (fin:=λ_=>Se A n f g) (e:=Se A n f g) (n:=n) (by omega)
  (λi a j r hi he=>DK.ok (L:=goR (λc a _=>Ye A n f g c a) exR i) (.k (ofNat_lt hi) <| .k (Ae hi) <| .k (decide_eq_true hi) <| .k (Ae hi) <| .k (decide_eq_true hi) <| .k (XB (g:=g) hi hn).1 <| .k (Ae hi) <| .k (decide_eq_true hi) <| .k (Ae hi) <| .k (decide_eq_true hi) <| .k (show Bp i 1 40=true from GH (by omega)) <| .k (Ae hi) <| .k (decide_eq_true hi) <| .k (XB (g:=g) hi hn).1 <| .k (show nlt i 4611686018427387904=true from decide_eq_true (by omega)) <| .k (XB (g:=g) hi hn).1 <| .k (XB (g:=g) hi hn).2 <| .k (Ae hi) <| .k (decide_eq_true hi) <| .k (Ae hi) <| .k (decide_eq_true hi) <| .k (show Bp i 1 8=true from GH (by omega)) <| .e (AkL A f (g:=g) hi hn)) (by kernel_rfl) he)
  (λa j=>DK.ok (C:=.leaf (Se A n f g)) (L:=exR) (.k (Az (Nat.le_refl n)) .l) (by kernel_rfl) rfl) (Nat.zero_add _).symm (by omega) (Acj n)
variable (tt:Int)
theorem Al2 {n b:Nat} {g:Nat->E6} (hk:∃ k,k<n∧mbF g k=true) (h:Dy (mbF g) n b=false):hpD A n f g tt b 0=hpD A n f g tt (b+1) 0:=by
 have hd:dS n g b 0=dS n g (b+1) 0:=by
  funext i;show dnF n g _ b 0 i=dnF n g _ (b+1) 0 i;unfold dnF;by_cases hi:i<n
  ·rw [Zn hi hk h]
  ·rw [decide_eq_false hi]; rfl
 unfold hpD;rw [hd,TJ h,AcG (TJ h)]
theorem Amz (hn:n <= 16) (hk:∃ k,k<n∧mbF g k=true):(Au (B14 6 L) VH 4611686018427387905 (Yd A n f g tt 0 ())).sem=some (OF A n f g tt):=by
 have hB:∀ {i:Nat},i<n->yB n i=ofNat ((i+(n-1)) % n):=fun {i} hi=>Lk (a:=i) (n:=n) (by omega) (by omega);have nx:∀ {i:Nat},i<n->toN (wr .i64 (Ah (ofNat i) 1))=i+1:=fun {i} hi=>by rw [A1 hi (by omega)]; rfl
 exact AT (R:=exR) BA (S:=λc a _=>Yd A n f g tt c a) (j:=λ_=>.und) (g:=Ahp n g) (fin:=λ_=>OF A n f g tt) (e:=OF A n f g tt) (n:=n) (by omega)
  (λi a j r hi he=>DK.ok (L:=goR (λc a _=>Yd A n f g tt c a) exR i) (.k (ofNat_lt hi) <| .k (HH hi) <| .k (UA hi (by omega)) <| .k (show nlt (toN (yB n i)) n=true by rw [hB hi]; exact decide_eq_true (Nat.mod_lt _ (by omega))) <|
   .c (λh1=>.k h1 <| .k (Ae hi) <| .k (decide_eq_true hi) <| .a (r88 (z:=i) hi (by rw [hB hi] at h1; exact h1) hn A f tt (vs6 n g i) (by kernel_rfl) (by kernel_rfl)) <| .e (congrArg (λb=>(Ex.nm,UJ n (wr .i64 (Ah (ofNat i) 1)) (hpD A n f g tt b 0))) (nx hi).symm))
   λh1=>.k h1 <| .e (congrArg (λh=>(Ex.nm,UJ n (wr .i64 (Ah (ofNat i) 1)) h)) ((Al2 A f tt hk (by rw [hB hi] at h1; exact h1)).trans (congrArg (λb=>hpD A n f g tt b 0) (nx hi).symm)))) (by kernel_rfl) he)
  (λa j=>DK.ok (C:=.leaf (OF A n f g tt)) (L:=exR) (.k (Az (Nat.le_refl n)) .l) (by kernel_rfl) rfl) (Nat.zero_add _).symm (by omega)
  (Co (acc:=λ_=>()) (λi _=>by unfold Ahp; cases AB (g (toN (yB n i))) <;> rfl) n 0 (Nat.zero_add n))
end
theorem m14 {A:Int} {n:Nat} {f:Nat->E6} (hy:IsCycle A n f):Aj (ilt 0 (ofNat n)) (Aj (Gv n) (EA 8 (ofNat n) (ofNat n)))=true∧EA 24 (ofNat (rN (mbF (shG n f)) n n)) (ofNat (rN (mbF (shG n f)) n n))=true:=by
 have h1:=hy.lo;have h2:=hy.hi;have h3:=To (mbF (shG n f)) n n;unfold Aj ilt Gv EA;simp only [Int.ofNat_eq_natCast,Bool.and_eq_true,decide_eq_true_eq];omega
theorem An0 (L:LT) (A:Int) (n:Nat) (f:Nat->E6) (hy:IsCycle A n f):(Au (B14 6 L) VH 4611686018427387905 (UJ n 0 (hpW A n f (shG n f) (ofNat (rN (obF (shG n f)) n n)) (rN (mbF (shG n f)) n n) (λi=>evV (upX n (shG n f) n i)) (λ_=>iV (-1)) (λ_=>true) (λ_=>0) λ_ _=>.und))).sem=some (OF A n f (shG n f) (ofNat (ttN n (shG n f)))):=by
 have hg:=ED hy;have hm:∃ k,k<n∧mbF (shG n f) k=true:=Jp (p:=mbF (shG n f)) (by have:=hg.moves; show 0<Ak (λk=>AB (shG n f k)) n; omega);have h:=Amz L A n f (shG n f) (ofNat (ttN n (shG n f))) hy.hi hm;rw [show Yd A n f (shG n f) (ofNat (ttN n (shG n f))) 0 ()=UJ n 0 (hpD A n f (shG n f) (ofNat (ttN n (shG n f))) 0 0) from rfl] at h;unfold hpD at h;rw [show dS n (shG n f) 0 0=dnF n (shG n f) (Gq (mbF (shG n f)) n) 0 0 from rfl,<- W9,AlF,AgZ,Aoi] at h;rw [show rN (obF (shG n f)) n n=ttN n (shG n f) from Rn hg.outer,show rN (mbF (shG n f)) n n=kkN n (shG n f) from Rn hg.moves];exact h
def C14 (A:Int) (n:Nat) (f:Nat->E6):A3:=.br (CU n) (.br (ieq (He A n f) 0) (.leaf (.tup [Vg A n (shG n f),iV 0,iV 0],Ame n (shG n f))) (.leaf (.tup [noV,iV (He A n f),iV (Aku A n f)],noH))) .fail
theorem p14:An Tryz.prog Gl 99 ofT:=by
 refine Al A2 mixed Tryz.func99 (by kernel_rfl) (by kernel_rfl) λvs v h' h=>?_;unfold ofT at h;split at h
 ·rename_i A u
  obtain ⟨n,f,ha,h1⟩:=Cz h;obtain ⟨h8,hq⟩:=Ac h1;have w:=show DK (λa=>a) (C14 A n f) _ from .k (eL n) <| .g λh8=>.k h8 <| .c (λhc=>.k (eN hc) <| .k (eL n) <| .k h8 <| .k (Bs hc).may <| .a (r14 (Go.Sy.askL (ls14 n f)) A n f (Bs hc).hi ⟨(JG (Bs hc)).1,(JG (Bs hc)).2.1,(JG (Bs hc)).2.2.1⟩) <| .a (r14_2 (Go.Sy.askL (ls14 n f)) A n f (Bs hc).hi (JG (Bs hc)).2.2.2) <|
   .k eT <| .k (eL n) <| .k (m14 (Bs hc)).1 <| .k (Em (n:=n)) <| .k eT <| .k (eL n) <| .k (m14 (Bs hc)).1 <| .k (Em (n:=n)) <| .a (Am0 (Go.Sy.askL (ls14 n f)) A n f (shG n f) (Bs hc).hi) <| .k (m14 (Bs hc)).2 <| .a (An0 (Go.Sy.askL (ls14 n f)) A n f (Bs hc)) .l) λhc=>.k (eN hc) .l
  have R:=λr (h:(C14 A n f).sem=some r)=>DK.of (t:=A0 (Ai tab ⟨OZ,Go.Sy.askL (ls14 n f),Gl⟩ Tryz.f99 [iV A,AL n f] [])) h w (by kernel_rfl);unfold C14 at R;cases hc:ieq (He A n f) 0 with
  | true =>rw [hc] at hq;have:=Aa hq;simp only [Prod.mk.injEq] at this;obtain ⟨rfl,rfl⟩:=this;have hm:=(ED (Bs hc)).moves;exact ⟨_,⟨OZ,Go.Sy.askL (ls14 n f),Gl⟩,_,W2 ha,rfl,QF,EV _ _ _,R _ (by rw [h8,hc]; rfl),Ajz (by show 0<Ak (λk=>AB (shG n f k)) n; omega)⟩
  | false =>rw [hc] at hq;have:=Aa hq;simp only [Prod.mk.injEq] at this;obtain ⟨rfl,rfl⟩:=this;exact ⟨_,⟨OZ,Go.Sy.askL (ls14 n f),Gl⟩,_,W2 ha,rfl,QF,EV _ _ _,R _ (by rw [h8,hc]; rfl),Ap.refl _⟩
 ·cases h
theorem Aac {a:Int} {n:Nat} {f:Nat->E6} (h:IsCycle a n f):obF (shG n f) (n-1)=true:=by
 obtain ⟨h1,h2,h3,h4⟩:=JG h;have hlo:=h.lo;unfold obF;rw [Rc (by omega)];have:(shQ n f+(n-1)) % n=Ct (λi=>A4 (CH n f i)) n:=by
  unfold shQ;rw [Nat.mod_add_mod,show Ct (λi=>A4 (CH n f i)) n+1+(n-1)=Ct (λi=>A4 (CH n f i)) n+n by omega,Nat.add_mod_right,Nat.mod_eq_of_lt h1]
 rw [this];exact h2
end Go.Proofs.YtkbafjceglhjhaaGreatDoor.Sh
namespace Go.Proofs.YtkbafjceglhjhaaGreatDoor.Ed
open Go.Sy Go
open Int (ofNat)
theorem ZJ {τ:List Ty} {call:FuncId->List V->St->T (V×Res)} {G:Nat->V} {fn:Func} {vs:List V} {H:List Blk} {L L':LT}
  (h:LLe L L'):TLe (Ai τ ⟨call,L,G⟩ fn vs H) (Ai τ ⟨call,L',G⟩ fn vs H):=by
 unfold Ai;cases fn.body with
 | none=>exact TLe.refl _
 | some c=>exact TLe.bind (KN (Γ:=⟨call,L,G⟩) h c 0 _) λ_=>TLe.refl _
noncomputable def AdH:A9:=[]
theorem AdG:Ao Tryz.prog Gl AdH:=.nil
theorem Akz {i k:Nat} (h:i ≠ k):Nat.beq i k=false:=by
 cases hb:Nat.beq i k
 ·rfl
 ·exact absurd (Nat.eq_of_beq_eq_true hb) h
def Aik {α:Type} (z:Nat->α) (i:Nat) (e:α):Nat->α:=λk=>bif Nat.beq k i then e else z k
def MA {α:Type} (y:Nat->α) (e:α):Nat->Nat->α
 | 0=>y
 | i+1=>Aik (MA y e i) i e
theorem Un {α:Type} (y:Nat->α) (e:α):∀ i j,j<i->MA y e i j=e
 | i+1,j,h=>by
  show (bif Nat.beq j i then e else MA y e i j)=e;by_cases hj:j=i
  ·rw [hj,Nat.beq_refl]; rfl
  ·rw [Akz hj]; exact Un y e i j (by omega)
theorem AiA (z:Nat->Int) (i:Nat) (e:Int):By (λk=>iV (z k)) i (iV e)=λk=>iV (Aik z i e k):=by
 funext k;rw [Dk];unfold Aik;cases Nat.beq k i <;> rfl
theorem TY (i:Nat):ile 0 (ofNat i)=true:=decide_eq_true (Int.natCast_nonneg i)
def markE (n:Nat) (g:Nat->V):List V->T (Nat->V)
 | [.val (.int .i64 k)]=>.br (Av n) (.br (Bi n λi=>okE (g i)) (.leaf λ_=>eV (AmP (wr .i64 (Ah 500 k)))) .fail) .fail
 | _=>.fail
def XD (n:Nat) (y:Nat->Int) (k:Int) :St:=⟨jsV 16 0 (λ_=>AI) [(0,.ref 0),(1,iV k),(4,iV 0)],[.xrow false 3 1 n (λi=>iV (y i))]⟩
def lp56 (n:Nat) (y:Nat->Int) (k:Int):Lp:=⟨bmK 16 0 [0,1,4],1,bmK 16 0 [],1,n+1⟩
def Aeb (n:Nat) (y:Nat->Int) (k:Int) (i:Nat) (z:Nat->Int) (j:Nat->V):St:=⟨jsV 16 0 j [(0,.ref 0),(1,iV k),(4,nV i)],[.xrow false 3 1 n (λi=>iV (z i))]⟩
def XK (n:Nat) (y:Nat->Int) (k:Int) (i:Nat) (z:Nat->Int):Ex×St:=(.ex 0,⟨jsV 16 0 Ab [],[.xrow false 3 1 n (λi=>iV (z i))]⟩)
noncomputable def Pa (L:LT):St->T (Ex×St):=λst=>A8 tab ⟨Ax AdH,L,Gl⟩ (As Tryz.f20 0) 0 st
section
variable (L:LT) (n:Nat) (y:Nat->Int) (k:Int) (i:Nat) (z:Nat->Int)  (j:Nat->V)
include L n y k i z j
theorem Amd (h0:ilt (ofNat i) (ofNat n)=false):Ay (Pa L) (lp56 n y k) (Aeb n y k i z j)=some ((.ex 0),⟨jsV 16 0 Ab [],[.xrow false 3 1 n (λi=>iV (z i))]⟩):=by
 exact Ad (ks:=[kn h0]) (by kernel_rfl)
theorem Amc (h0:ilt (ofNat i) (ofNat n)=true) (h10:ile 0 (ofNat i)=true) (h11:nlt i n=true):Ay (Pa L) (lp56 n y k) (Aeb n y k i z j)=some (.nm,⟨jsV 16 0 Ab [(0,.ref 0),(1,iV k),(4,iV (wr .i64 (Ah (ofNat i) 1)))],[.xrow false 3 1 n (By (λi=>iV (z i)) i (iV (wr .i64 (AZ (-1000000) k))))]⟩):=by
 exact Ad (ks:=[kn h0,kA (kn h10) (kn h0),kn h11]) (by kernel_rfl)
end
theorem Ao5 (L:LT) (p0:PT) (n:Nat) (y:Nat->Int) (k:Int) (z:Nat->Int)  (hp0:p0 (Pa (onP 0 p0 (XK n y k n z) L)) (XD n y k)=true):(Ai tab ⟨Ax AdH,onP 0 p0 (XK n y k n z) L,Gl⟩ Tryz.f20 [.ref 0,iV k] [.xrow false 3 1 n (λi=>iV (y i))]).sem=some ((.tup []),[.xrow false 3 1 n (λi=>iV (z i))]):=by
 exact Ad (ks:=[kn hp0]) (by kernel_rfl)
theorem AgC (L:LT) (n:Nat) (y:Nat->Int) (k:Int) (hn:n <= 4611686018427387904):∀ (d i:Nat) (j:Nat->V) (q:Nat),n=i+d->d<q ->
  (Au (Pa L) (lp56 n y k) q (Aeb n y k i (MA y (wr .i64 (AZ (-1000000) k)) i) j)).sem=some (XK n y k n (MA y (wr .i64 (AZ (-1000000) k)) n))
 | 0,i,j,q+1,h,_=>by
  have:n=i:=by omega
  subst this;exact Ag (Amd L n y k n _ j (Az (Nat.le_refl _)))
 | d+1,i,j,q+1,h,h2=>by
  have hi:i<n:=by omega
  have h1:=Amc L n y k i (MA y (wr .i64 (AZ (-1000000) k)) i) j (ofNat_lt hi) (TY i) (decide_eq_true hi);rw [AiA] at h1;rw [Ag h1,AV,A1 hi (by omega)];exact AgC L n y k hn d (i+1) Ab q (by omega) (by omega)
theorem Acv (n:Nat) (y:Nat->Int) (k:Int):XD n y k=Aeb n y k 0 y (λi=>nth (XD n y k).t i):=by kernel_rfl
def VD (n:Nat) (g:Nat->V):List V->T (Nat->V)
 | [.val (.int .i64 k)]=>.br (Av n) (.br (Bi n λi=>okI (g i)) (.leaf λ_=>iV (wr .i64 (AZ (-1000000) k))) .fail) .fail
 | _=>.fail
theorem m56:Px Tryz.prog Gl 20 (Xh 3 1 VD):=by
 refine AaX A2 mixed Tryz.func20 (by kernel_rfl) (by kernel_rfl) λn g vs g' h=>?_;unfold VD at h;split at h
 ·rename_i k
  obtain ⟨hn,h⟩:=Ac h;obtain ⟨hg,h⟩:=Ac h;have:=Aa h;subst this;have hn:n <= 4611686018427387904:=of_decide_eq_true hn;have hx:=Bq AdG [(0,lp56 n (λi=>edI (g i)) k)];have hL:=Bh [(0,lp56 n (λi=>edI (g i)) k)];have h0:∀ L,(BO [(0,lp56 n (λi=>edI (g i)) k)] 0 (Pa L) (XD n (λi=>edI (g i)) k)).sem=some (XK n (λi=>edI (g i)) k n (MA (λi=>edI (g i)) (wr .i64 (AZ (-1000000) k)) n)):=λL=>by
   rw [Acv];exact AgC L n (λi=>edI (g i)) k hn n 0 _ (n+1) (by omega) (by omega)
  exact ⟨rfl,λ_ _=>rfl,AP Gl AdH [(0,lp56 n (λi=>edI (g i)) k)],rfl,hx.1,hx.2,_,_,_,λi hi=>(K2 (AE.1 hg i hi)).symm,
   ZJ (Be hL hL) _ (Ao5 _ _ n (λi=>edI (g i)) k (MA (λi=>edI (g i)) (wr .i64 (AZ (-1000000) k)) n) (A5 (h0 _))),rfl,λi hi=>by show iV _=iV _; rw [Un _ _ n i hi]⟩
 ·cases h
def Q2 (n:Nat) (_:Nat->V):List V->T Unit
 | [.val (.int .i64 _)]=>.br (Bp n 80 8) (.leaf ()) .fail
 | _=>.fail
end Go.Proofs.YtkbafjceglhjhaaGreatDoor.Ed
