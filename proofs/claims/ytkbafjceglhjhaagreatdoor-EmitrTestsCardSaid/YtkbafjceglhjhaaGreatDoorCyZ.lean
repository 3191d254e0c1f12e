/-
  Layer 7: the program's shape of a cycle, as derivations. No conditions.
-/
import Derived.Test.YtkbafjceglhjhaaGreatDoorCyT
import Derived.Test.YtkbafjceglhjhaaGreatDoorCyU
import Derived.Test.YtkbafjceglhjhaaGreatDoorEdY
import Derived.Test.YtkbafjceglhjhaaGreatDoorSyU
namespace Go.Proofs.YtkbafjceglhjhaaGreatDoor.Sh
open Go.Sy Ed
open Int (ofNat)
set_option maxHeartbeats 1000000
set_option maxRecDepth 4000
noncomputable def AnV:A7:=(138,VA)::(48,Hv)::(139,BX λe=>bV (AB e))::(140,AlX)::(141,BX λe=>bV (AH e))::[]
theorem AfL:Ao Tryz.prog Gl AnV:=.cons p48 <| .cons p65 <| .cons p52 <| .cons p53 <| .cons p54 .nil
noncomputable def PL:FuncId->List V->St->T (V×Res):=Ji [(142,M3 tab (cxA Gl tb55 AgF) Tryz.f142)] (Aw AnV)
theorem Rz:Bu Tryz.prog ⟨PL,Gl⟩:=F6 mixed (.cons rfl A2 (AS tb55_ok AgF).1 (AS tb55_ok AgF).2 Tryz.func142 (by kernel_rfl) (by kernel_rfl) .nil) (Ek rfl AfL)
def zE:E6:=⟨0,false,false,0,0,0⟩
def AqI (n:Nat) (G:Nat->E6) (i:Nat):E6:=bif decide (i<n) then G i else zE
def shQ (n:Nat) (f:Nat->E6):Nat:=(Cu (λi=>AB (C5 n f i)) n+1) % n
def shG (n:Nat) (f:Nat->E6):Nat->E6:=AqI n λi=>C5 n f ((shQ n f+i) % n)
def upE (b:Nat) (G:Nat->E6) (i:Nat):E6:=bif decide (i<b) then G i else zE
theorem Abm (b:Nat) (G:Nat->E6):AD b (λi=>eV (upE b G i)) (eV (G b))=λi=>eV (upE (b+1) G i):=by
 funext k;rw [Br,show Nat.beq k b=decide (k=b) by rw [Bool.eq_iff_iff]; simp];unfold upE;by_cases h:k=b
 ·subst h; simp
 ·by_cases h2:k<b
  ·have:k<b+1:=by omega
   simp [h,h2,this]
  ·have:¬ k<b+1:=by omega
   simp [h,h2,this]
def upX (n:Nat) (g:Nat->E6) (b i:Nat):Ev5:=bif decide (i<b) then evF n g (λ_=>false) i else ⟨0,0,0,0,0⟩
theorem TY (n:Nat) (g:Nat->E6) (b:Nat):AD b (λi=>evV (upX n g b i)) (evV (evF n g (λ_=>false) b))=λi=>evV (upX n g (b+1) i):=by
 funext k;rw [Br,show Nat.beq k b=decide (k=b) by rw [Bool.eq_iff_iff]; simp];unfold upX;by_cases h:k=b
 ·subst h; simp
 ·by_cases h2:k<b
  ·have:k<b+1:=by omega
   simp [h,h2,this]
  ·have:¬ k<b+1:=by omega
   simp [h,h2,this]
theorem Km (b:Nat) (v:V):AD b (λ_=>v) v=λ_=>v:=by
 funext k;rw [Br];cases Nat.beq k b <;> rfl
def plM (n:Nat) (g:Nat->E6) (b:Nat) (x:Int):Int:=ofNat (Ak (λk=>ieq x (thF n g k)) b)
theorem AlI (n:Nat) (g:Nat->E6) {b:Nat} (hb:b<n) (hn:n <= 16):(λi=>sel (ieq i (thF n g b)) (wr .i64 (Ai (plM n g b (thF n g b)) 1)) (plM n g b i))=plM n g (b+1):=by
 funext i;have hc:=B2 (λk=>ieq (thF n g b) (thF n g k)) b;unfold plM;rw [A3 (n:=n) (by omega) (by omega)];cases h:ieq i (thF n g b) with
 | true =>have:=BP h;subst this;rw [By h];rfl
 | false =>rw [BQ h];rfl
theorem AiS {p:Nat->Bool} {n b:Nat} (hb:b<n) (hn:n <= 16):sel (ilt (ofNat (rN p n b)) (wr .i64 (Ai (AC p n b) 1))) (wr .i64 (Ai (AC p n b) 1)) (ofNat (rN p n b))=ofNat (rN p n (b+1)):=by
 have h1:=NA p n b hb;have h2:=U0 p n b;rw [FX hb,A3 (n:=n) (by omega) (by omega),Cw,rN];by_cases h:Bl p n b<rN p n b
 ·rw [if_pos h,decide_eq_false (by omega)]; rfl
 ·rw [if_neg h,decide_eq_true (by omega)]
  show ofNat (Bl p n b+1)=_;rw [show Bl p n b=rN p n b by omega]
theorem AdU {k:Nat} (h:k <= 100):Ej (ofNat k)=true:=by
 unfold Ej;rw [decide_eq_true (by simp only [Int.ofNat_eq_natCast]; omega),decide_eq_true (by simp only [Int.ofNat_eq_natCast]; omega)];rfl
def ttN (n:Nat) (g:Nat->E6):Nat:=Ak (obF g) n
def Wq (a:Int) (n:Nat) (g:Nat->E6):V:=.agg [iV a,.ref 0,.ref 1,iV (ofNat (ttN n g)),iV (ofNat (kkN n g)),.ref 2,.jref 3]
def Wr (n:Nat) (g:Nat->E6):List Blk:=[.row 76 6 n (λi=>eV (g i)),.row 74 5 n (λi=>evV (evF n g (λ_=>true) i)),.row 3 1 n (λi=>iV (rfF n g (λ_=>true) i)),
 .jag ⟨24,1,kkN n g,λ_=>.und,0,3,1,λ_=>true,lnN (mbF g) (wrF g) n,λk i=>iV (ofNat (coN (mbF g) (wrF g) n k i)),none⟩]
def noV:V:=.agg [iV 0,.ref 0,.ref 1,iV 0,iV 0,.ref 2,.jref 3]
def noH:List Blk:=[.row 76 6 0 Aa,.row 74 5 0 Aa,.row 3 1 0 Aa,.jag ⟨24,1,0,λ_=>.und,0,3,1,λ_=>true,λ_=>0,λ_ _=>.und,none⟩]
def ofT:List V->A5
 | [.val (.int .i64 a),v]=>apL v λn f=>.br (Ct n) (.br (ieq (Hu a n f) 0) (.leaf (.tup [Wq a n (shG n f),iV 0,iV 0],Wr n (shG n f))) (.leaf (.tup [noV,iV (Hu a n f),iV (AmE a n f)],noH))) .fail
 | _=>.fail
theorem Sb {n i:Nat} {f:Nat->E6} (h:i<n):shG n f i=C5 n f ((shQ n f+i) % n):=by
 unfold shG AqI;rw [decide_eq_true h];rfl
theorem Qr {a:Int} {n:Nat} {f g:Nat->E6} (h:IsCycle a n f) (he:∀ i,i<n->g i=f i):IsCycle a n g:=by
 have c1:∀ (p:E6->Bool) k,k <= n->Ak (λi=>p (g i)) k=Ak (λi=>p (f i)) k:=λp k hk=>JF λi hi=>by rw [he i (by omega)]
 have c2:∀ (p:E6->Bool) i,i<n->AC (λk=>p (g k)) n i=AC (λk=>p (f k)) n i:=λp i hi=>by
  rw [FX hi,FX hi];unfold Bl;rw [c1 p i (by omega),c1 p n (Nat.le_refl _)]
 have hlo:=h.lo;refine ⟨h.arch,h.lo,h.hi,λi hi=>?_,λi hi=>?_,?_,?_,λi hi=>?_,λi hi=>?_⟩
 ·have:=h.legal i hi
  unfold DJ at this ⊢;rw [he i hi];exact this
 ·have:=h.meets i hi
  unfold GH at this ⊢;rw [he i hi,he _ (Nat.mod_lt _ (by omega))];exact this
 ·rw [c1 AB n (Nat.le_refl _)]; exact h.outer
 ·rw [c1 AH n (Nat.le_refl _)]; exact h.moves
 ·have:=h.writes i hi
  unfold Bi MD at this ⊢;have e:(λi=>isW (g i)) i=(λi=>isW (f i)) i:=by show isW (g i)=isW (f i); rw [he i hi]
  rw [e,c2 AH i hi,JF (q:=CH (AC (λk=>AH (f k)) n) (λi=>isW (f i)) (AC (λk=>AH (f k)) n i)) λk hk=>by
   unfold CH;rw [c2 AH k hk];show Al _ (isW (g k))=Al _ (isW (f k));rw [he k hk]]
  exact this
 ·have:=h.crowd i hi
  unfold Bi MD at this ⊢;rw [c2 AB i hi,JF (q:=CH (AC (λk=>AB (f k)) n) (λ_=>true) (AC (λk=>AB (f k)) n i)) λk hk=>by
   unfold CH;rw [c2 AB k hk]]
  exact this
theorem JE {p:Nat->Bool}:∀ {n:Nat},0<Ak p n->∃ k,k<n∧p k=true
 | 0,h=>by simp [Ak] at h
 | n+1,h=>by
  cases hp:p n with
  | true=>exact ⟨n,Nat.lt_succ_self n,hp⟩
  | false =>rw [BQ hp] at h;obtain ⟨k,h1,h2⟩:=JE h;exact ⟨k,by omega,h2⟩
theorem Rr {a:Int} {n:Nat} {f:Nat->E6} (h:IsCycle a n f):IsCycle a n (λi=>C5 n f i):=by
 have h1:=Rc n (λi=>Cd (f i));have h2:=h.lo;exact h.turned (show Eb n (λi=>Cd (f i))<n by omega)
theorem Kk {a:Int} {n:Nat} {f:Nat->E6} (h:IsCycle a n f):Cu (λi=>AB (C5 n f i)) n<n∧AB (C5 n f (Cu (λi=>AB (C5 n f i)) n))=true∧(∀ i,i<Cu (λi=>AB (C5 n f i)) n->AB (C5 n f i)=false)∧shQ n f<n:=by
 have h2:=h.lo;have h3:=(Rr h).outer;obtain ⟨k,h4,h5⟩:=JE (p:=λi=>AB (C5 n f i)) (n:=n) (by omega);obtain ⟨h6,h7,h8⟩:=EA (p:=λi=>AB (C5 n f i)) h4 h5;exact ⟨by omega,h7,h8,Nat.mod_lt _ (by omega)⟩
theorem DN {a:Int} {n:Nat} {f:Nat->E6} (h:IsCycle a n f):IsCycle a n (shG n f) :=
 Qr ((Rr h).turned (Kk h).2.2.2) λi hi=>Sb hi
theorem So {p:Nat->Bool} {n:Nat} (h:2 <= Ak p n):rN p n n=Ak p n:=by
 have hn:0<n:=by
  rcases Nat.eq_zero_or_pos n with h0 | h0
  ·subst h0; simp [Ak] at h
  ·exact h0
 have h1:=Ach p n (n-1) (by omega);rw [show n-1+1=n by omega] at h1;rw [h1];have h2:=HQ p (n-1);rw [show n-1+1=n by omega] at h2;split <;> omega
theorem Aen (n:Nat) (g:Nat->E6):dnF n g (FW (mbF g) n) 0 0=λ_=>false:=by
 funext j;unfold dnF;rw [Aem];simp
theorem XR (n:Nat) (g:Nat->E6):upX n g n=evF n g (dnF n g (FW (mbF g) n) 0 0):=by
 rw [Aen];funext i;unfold upX;by_cases hi:i<n
 ·rw [decide_eq_true hi]; rfl
 ·rw [decide_eq_false hi]
  unfold evF;rw [decide_eq_false hi];rfl
theorem Aoq (n:Nat) (g:Nat->E6):rfF n g (dnF n g (FW (mbF g) n) 0 0)=λ_=>-1:=by
 rw [Aen];rfl
def AoI (n:Nat) (g:Nat->E6):List Blk:=[.row 76 6 n (λi=>eV (g i)),.row 74 5 n (λi=>evV (evF n g (dnF n g (FW (mbF g) n) n 0) i)),.row 3 1 n (λi=>iV (rfF n g (dnF n g (FW (mbF g) n) n 0) i)),
 .jag ⟨24,1,kkN n g,λ_=>.nilS,0,3,1,λ_=>true,lnP n g n 0,λk i=>coP n g n 0 k i,none⟩]
theorem AlD {n:Nat} {g:Nat->E6} (hk:0<kkN n g):Am (AoI n g) (Wr n g):=by
 have hn:0<n:=by
  rcases Nat.eq_zero_or_pos n with h0 | h0
  ·subst h0; simp [kkN,Ak] at hk
  ·exact h0
 obtain ⟨k0,hk0,hm⟩:=JE hk;have hd:∀ i,i<n->dnF n g (FW (mbF g) n) n 0 i=true:=λi hi=>by
  unfold dnF;rw [decide_eq_true hi,V1]
  ·rfl
  ·exact Ih hn
 refine .cons (λ_ _=>rfl) (.cons (λi hi=>?_) (.cons (λi hi=>?_) (.consB (.jag (λ_ _=>.inr rfl) (λ_ _=>rfl) (λk hk'=>?_) (λk hk' q hq=>?_)) (.refl []))))
 ·rw [CV hi,CV hi,hd i hi]
 ·unfold rfF
  rw [hd i hi]
 ·have hk':k<kkN n g:=hk'
  have:=(Gt hk').1;show lnN _ _ n k=lnP n g n 0 k;unfold lnP;rw [if_pos hk',if_pos this]
 ·have hk':k<kkN n g:=hk'
  have hq:q<lnP n g n 0 k:=hq;show iV _=coP n g n 0 k q;unfold coP;rw [if_pos hq]
section
variable (A:Int) (n:Nat) (f:Nat->E6)
def hp2 (l:List Blk):List Blk:=.cells [iV 0,.nilS,.nilS,iV 0,iV 0,.nilS,.nilS] :: .row 76 6 n (λi=>eV (C5 n f i))::l
def j4 (l:List (Nat×V)):List V:=jsV 164 0 Aa l
def S14 (c:Int) (_:Unit):St:=⟨j4 [(0,iV A),(4,.ptr 0 0),(9,.ref 1),(11,nV n),(12,iV 0),(39,nV n),(40,iV c)],hp2 n f []⟩
def E14 (q:V):Ex×St:=(.ex 0,⟨j4 [(0,iV A),(4,.ptr 0 0),(9,.ref 1),(11,nV n),(12,q)],hp2 n f []⟩)
def g14 (i:Nat) (_:Unit):T (Unit ⊕ (Ex×St)):=.br (AB (C5 n f i)) (.leaf (.inr (E14 A n f (iV (Ay (wr .i64 (Ai (ofNat i) 1)) (ofNat n)))))) (.leaf (.inl ()))
variable (z:Nat)
def Ajj (k:Nat) (y:Nat->V):List Blk:=hp2 n f [.cells [iV A,.ref 3,.ref 4,iV 0,iV 0,.ref 5,.jref 6],.row 76 6 k y,.row 74 5 0 Aa,.row 3 1 0 Aa,jE]
def cE (i:Nat):E6:=C5 n f ((z+i) % n)
def T14_2 (c:Int) (k:Nat) (y:Nat->V):St:=⟨j4 [(0,iV A),(4,.ptr 0 0),(9,.ref 1),(11,nV n),(12,nV z),(14,.ptr 2 0),(55,nV n),(56,iV c)],Ajj A n f k y⟩
def AeX (c:Int) (_:Unit):St:=T14_2 A n f z c (toN c) λi=>eV (upE (toN c) (cE n f z) i)
def Tr:Ex×St:=(.ex 2,⟨j4 [(0,iV A),(4,.ptr 0 0),(11,nV n),(14,.ptr 2 0)],Ajj A n f n λi=>eV (upE n (cE n f z) i)⟩)
variable (g:Nat->E6)
def Aji (tt kk:Int) (k:Nat) (x r:Nat->V):List Blk:=hp2 n f [.cells [iV A,.ref 3,.ref 4,iV tt,iV kk,.ref 5,.jref 6],.row 76 6 n (λi=>eV (g i)),.row 74 5 k x,.row 3 1 k r,jE]
def Aj9 (c tt kk:Int) (k:Nat) (x r:Nat->V) (pl:Int->Int):St:=⟨j4 [(4,.ptr 0 0),(11,nV n),(14,.ptr 2 0),(16,.ref 7),(17,.ref 8),(18,.ref 9),(80,nV n),(81,iV c)],
 Aji A n f g tt kk k x r++[.row 3 1 n (λk=>iV (thF n g k)),.row 3 1 n (λk=>iV (loF n g k)),.imap 92 k pl]⟩
def Zz (c:Int) (_:Unit):St:=Aj9 A n f g c (ofNat (rN (obF g) n (toN c))) (ofNat (rN (mbF g) n (toN c))) (toN c) (λi=>evV (upX n g (toN c) i)) (λ_=>iV (-1)) (plM n g (toN c))
def Tq:Ex×St:=(.ex 4,⟨j4 [(4,.ptr 0 0),(11,nV n),(14,.ptr 2 0)],Aji A n f g (ofNat (rN (obF g) n n)) (ofNat (rN (mbF g) n n)) n (λi=>evV (upX n g n i)) λ_=>iV (-1)⟩)
variable (tt:Int)
def VQ (c:Int) (h:List Blk):St:=⟨j4 [(4,.ptr 0 0),(11,nV n),(14,.ptr 2 0),(145,nV n),(146,iV c)],h⟩
def Zy (c:Int) (_:Unit):St:=VQ n c (hpD A n f g tt (toN c) 0)
def Pu:Ex×St:=(.ex 6,⟨j4 [(4,.ptr 0 0),(14,.ptr 2 0)],hpD A n f g tt n 0⟩)
abbrev yB (n i:Nat):Int:=Ay (wr .i64 (Bz (wr .i64 (Ai (ofNat i) (ofNat n))) 1)) (ofNat n)
def vs6 (i:Nat):List V:=j4 [(4,.ptr 0 0),(11,nV n),(14,.ptr 2 0),(20,nV i),(145,nV n),(146,nV i),(147,bV (ilt (ofNat i) (ofNat n))),(148,nV i),(149,.ptr 2 1),(150,.ref 3),(151,nV i),(152,nV n),
 (153,iV (wr .i64 (Ai (ofNat i) (ofNat n)))),(154,iV (wr .i64 (Bz (wr .i64 (Ai (ofNat i) (ofNat n))) 1))),(155,nV n),(156,iV (yB n i)),(157,.ept 3 6 (toN (yB n i)) 0),(158,eV (g (toN (yB n i)))),(159,bV (AH (g (toN (yB n i))))),(160,nV i)]
def Ajo (i:Nat) (_:Unit):T (Unit ⊕ (Ex×St)):=.br (AH (g (toN (yB n i)))) (.leaf (.inl ())) (.leaf (.inl ()))
end
def gGo (_:Nat) (_:Unit):T (Unit ⊕ (Ex×St)):=.leaf (.inl ())
theorem AdR {fin:Unit->Ex×St} (n:Nat):Co gGo fin n 0 ()=some (fin ()):=Cv (acc:=λ_=>()) (λ_ _=>rfl) n 0 (Nat.zero_add n)
def lp14:Lp:=⟨bmK 164 0 [0,4,9,11,12,39,40],2,bmK 164 0 [0,4,9,11,12],2,4611686018427387905⟩
def lp14_2:Lp:=⟨bmK 164 0 [0,4,9,11,12,14,55,56],7,bmK 164 0 [0,4,11,14],7,4611686018427387905⟩
def Adb:Lp:=⟨bmK 164 0 [4,11,14,16,17,18,80,81],10,bmK 164 0 [4,11,14],7,4611686018427387905⟩
def WZ:Lp:=⟨bmK 164 0 [4,11,14,145,146],8,bmK 164 0 [4,14],8,4611686018427387905⟩
def ls14 (n:Nat) (f:Nat->E6):List (Nat×Lp×List (Nat×(Nat->V))):=[(0,lp14,[]),(2,lp14_2,[(3,λi=>eV (upE 0 (cE n f (shQ n f)) i))]),(4,Adb,[(4,λi=>evV (upX n (shG n f) 0 i)),(5,λ_=>iV (-1))]),(6,WZ,[])]
noncomputable def B14 (id:Nat) (L:LT):St->T (Ex×St):=λst=>AA tab ⟨PL,L,Gl⟩ (As Tryz.f99 id) id st
section
variable (L:LT) (A:Int) (n:Nat) (f:Nat->E6)
theorem r14 (hn:n <= 16) (h:Cu (λi=>AB (C5 n f i)) n<n∧AB (C5 n f (Cu (λi=>AB (C5 n f i)) n))=true∧(∀ i,i<Cu (λi=>AB (C5 n f i)) n->AB (C5 n f i)=false)):(Av (B14 0 L) lp14 4611686018427387905 (S14 A n f 0 ())).sem=some (E14 A n f (iV (ofNat (shQ n f)))):=by
 obtain ⟨h1,h2,h3⟩:=h;have e:E14 A n f (iV (Ay (wr .i64 (Ai (ofNat (Cu (λi=>AB (C5 n f i)) n)) 1)) (ofNat n)))=E14 A n f (iV (ofNat (shQ n f))):=by rw [A3 (n:=n) h1 (by omega),Et]; rfl
 rw [<- e];exact AZ (R:=exR) BF (S:=λc a _=>S14 A n f c a) (j:=λ_=>.und) (g:=g14 A n f) (fin:=λ_=>E14 A n f (iV 0)) (e:=E14 A n f (iV (Ay (wr .i64 (Ai (ofNat (Cu (λi=>AB (C5 n f i)) n)) 1)) (ofNat n)))) (n:=n) (by omega)
  (λi a j r hi he=>DK.ok (L:=goR (λc a _=>S14 A n f c a) exR i) (.k (ofNat_lt hi) <| .k (Ad hi) <| .k (decide_eq_true hi) <| .c (λh1=>.k h1 <| .k (Io hi) <| .l) λh1=>.k h1 <| .l) (by kernel_rfl) he)
  (λa j=>DK.ok (C:=.leaf (E14 A n f (iV 0))) (L:=exR) (.k (A1 (Nat.le_refl n)) .l) (by kernel_rfl) rfl) (Nat.zero_add _).symm (by omega)
  (Gf (acc:=λ_=>()) (m:=Cu (λi=>AB (C5 n f i)) n) (λi hi=>by unfold g14; rw [h3 i hi]; rfl) (by unfold g14; rw [h2]; rfl) n 0 (by omega) (by omega))
theorem r14_2 (hn:n <= 16) {z:Nat} (hz:z<n):(Av (B14 2 L) lp14_2 4611686018427387905 (AeX A n f z 0 ())).sem=some (Tr A n f z) :=
 AZ (R:=exR) BF (S:=λc a _=>AeX A n f z c a) (j:=λ_=>.und) (g:=gGo) (fin:=λ_=>Tr A n f z) (e:=Tr A n f z) (n:=n) (by omega)
  (λi a j r hi he=>DK.ok (L:=goR (λc a _=>AeX A n f z c a) exR i) (.k (ofNat_lt hi) <| .k (Io hi) <| .k (H5 hz hi (by omega)) <| .k (decide_eq_true (H3 hz hi (by omega))) <| .k (show Bs i 1 40=true from FT (by omega)) <| .e (eq2 (λk y=>(Ex.nm,T14_2 A n f z (wr .i64 (Ai (ofNat i) 1)) k y)) (show AE i 1=_ by rw [A3 hi (by omega)]; rfl) (show AD i (λq=>eV (upE i (cE n f z) q)) (eV (C5 n f (toN (Ay (wr .i64 (Ai (ofNat z) (ofNat i))) (ofNat n)))))=_ by rw [TT hz hi (by omega),A3 hi (by omega)]; exact Abm i (cE n f z)))) (by kernel_rfl) he)
  (λa j=>DK.ok (C:=.leaf (Tr A n f z)) (L:=exR) (.k (A1 (Nat.le_refl n)) .l) (by kernel_rfl) rfl) (Nat.zero_add _).symm (by omega) (AdR n)
variable (g:Nat->E6)
theorem Anh {n i:Nat} {g:Nat->E6} (hi:i<n) (hn:n <= 16):(Ex.nm,Aj9 A n f g (wr .i64 (Ai (ofNat i) 1)) (sel (ilt (ofNat (rN (obF g) n i)) (wr .i64 (Ai (thF n g i) 1))) (wr .i64 (Ai (thF n g i) 1)) (ofNat (rN (obF g) n i)))
  (sel (ilt (ofNat (rN (mbF g) n i)) (wr .i64 (Ai (loF n g i) 1))) (wr .i64 (Ai (loF n g i) 1)) (ofNat (rN (mbF g) n i))) (AE i 1) (AD i (λq=>evV (upX n g i q)) (.agg [iV (thF n g i),iV (plM n g i (thF n g i)),iV (g i).src,iV (loF n g i),iV 0])) (AD i (λ_=>iV (-1)) (iV (-1)))
  (λx=>sel (ieq x (thF n g i)) (wr .i64 (Ai (plM n g i (thF n g i)) 1)) (plM n g i x)))=(Ex.nm,Zz A n f g (wr .i64 (Ai (ofNat i) 1)) ()):=by
 have hx:=TY n g i;rw [show evV (evF n g (λ_=>false) i) = .agg [iV (thF n g i),iV (plM n g i (thF n g i)),iV (g i).src,iV (loF n g i),iV 0] by rw [CV hi]; rfl] at hx;have m1:=AiS (p:=obF g) hi hn;have m2:=AiS (p:=mbF g) hi hn;have m1:sel (ilt (ofNat (rN (obF g) n i)) (wr .i64 (Ai (thF n g i) 1))) (wr .i64 (Ai (thF n g i) 1)) (ofNat (rN (obF g) n i))=ofNat (rN (obF g) n (i+1)):=m1;have m2:sel (ilt (ofNat (rN (mbF g) n i)) (wr .i64 (Ai (loF n g i) 1))) (wr .i64 (Ai (loF n g i) 1)) (ofNat (rN (mbF g) n i))=ofNat (rN (mbF g) n (i+1)):=m2;rw [hx,Km,AlI n g hi hn,m1,m2,A3 hi (by omega)];rfl
theorem YY {n i:Nat} {g:Nat->E6} (hi:i<n) (hn:n <= 16):Ej (thF n g i)=true∧Ej (wr .i64 (Ai (plM n g i (thF n g i)) 1))=true:=by
 have hth:thF n g i=ofNat (Bl (obF g) n i):=FX hi;have hpn:=Lb (p:=obF g) (n:=n) (k:=i) (by omega);have hcn:=B2 (obF g) n;have hc:=B2 (λk=>ieq (thF n g i) (thF n g k)) i;refine ⟨by rw [hth]; exact AdU (by omega),?_⟩;unfold plM;rw [A3 (n:=n) (by omega) (by omega)];exact AdU (by omega)
theorem Apa (hn:n <= 16):(Av (B14 4 L) Adb 4611686018427387905 (Zz A n f g 0 ())).sem=some (Tq A n f g) :=
 AZ (R:=exR) BF (S:=λc a _=>Zz A n f g c a) (j:=λ_=>.und) (g:=gGo) (fin:=λ_=>Tq A n f g) (e:=Tq A n f g) (n:=n) (by omega)
  (λi a j r hi he=>DK.ok (L:=goR (λc a _=>Zz A n f g c a) exR i) (.k (ofNat_lt hi) <| .k (Ad hi) <| .k (decide_eq_true hi) <| .k (Ad hi) <| .k (decide_eq_true hi) <| .k (YY (g:=g) hi hn).1 <| .k (Ad hi) <| .k (decide_eq_true hi) <| .k (Ad hi) <| .k (decide_eq_true hi) <| .k (show Bs i 1 40=true from FT (by omega)) <| .k (Ad hi) <| .k (decide_eq_true hi) <| .k (YY (g:=g) hi hn).1 <| .k (show nlt i 4611686018427387904=true from decide_eq_true (by omega)) <| .k (YY (g:=g) hi hn).1 <| .k (YY (g:=g) hi hn).2 <| .k (Ad hi) <| .k (decide_eq_true hi) <| .k (Ad hi) <| .k (decide_eq_true hi) <| .k (show Bs i 1 8=true from FT (by omega)) <| .e (Anh A f (g:=g) hi hn)) (by kernel_rfl) he)
  (λa j=>DK.ok (C:=.leaf (Tq A n f g)) (L:=exR) (.k (A1 (Nat.le_refl n)) .l) (by kernel_rfl) rfl) (Nat.zero_add _).symm (by omega) (AdR n)
variable (tt:Int)
theorem Aod {n b:Nat} {g:Nat->E6} (hk:∃ k,k<n∧mbF g k=true) (h:DG (mbF g) n b=false):hpD A n f g tt b 0=hpD A n f g tt (b+1) 0:=by
 have hd:dS n g b 0=dS n g (b+1) 0:=by
  funext i;show dnF n g _ b 0 i=dnF n g _ (b+1) 0 i;unfold dnF;by_cases hi:i<n
  ·rw [AaI hi hk h]
  ·rw [decide_eq_false hi]; rfl
 unfold hpD;rw [hd,UM h,Aez (UM h)]
theorem AoZ (hn:n <= 16) (hk:∃ k,k<n∧mbF g k=true):(Av (B14 6 L) WZ 4611686018427387905 (Zy A n f g tt 0 ())).sem=some (Pu A n f g tt):=by
 have hB:∀ {i:Nat},i<n->yB n i=ofNat ((i+(n-1)) % n):=fun {i} hi=>LR (a:=i) (n:=n) (by omega) (by omega);have nx:∀ {i:Nat},i<n->toN (wr .i64 (Ai (ofNat i) 1))=i+1:=fun {i} hi=>by rw [A3 hi (by omega)]; rfl
 exact AZ (R:=exR) BF (S:=λc a _=>Zy A n f g tt c a) (j:=λ_=>.und) (g:=Ajo n g) (fin:=λ_=>Pu A n f g tt) (e:=Pu A n f g tt) (n:=n) (by omega)
  (λi a j r hi he=>DK.ok (L:=goR (λc a _=>Zy A n f g tt c a) exR i) (.k (ofNat_lt hi) <| .k (Io hi) <| .k (VG hi (by omega)) <| .k (show nlt (toN (yB n i)) n=true by rw [hB hi]; exact decide_eq_true (Nat.mod_lt _ (by omega))) <|
   .c (λh1=>.k h1 <| .k (Ad hi) <| .k (decide_eq_true hi) <| .a (r88 (z:=i) hi (by rw [hB hi] at h1; exact h1) hn A f tt (vs6 n g i) (by kernel_rfl) (by kernel_rfl)) <| .e (congrArg (λb=>(Ex.nm,VQ n (wr .i64 (Ai (ofNat i) 1)) (hpD A n f g tt b 0))) (nx hi).symm))
   λh1=>.k h1 <| .e (congrArg (λh=>(Ex.nm,VQ n (wr .i64 (Ai (ofNat i) 1)) h)) ((Aod A f tt hk (by rw [hB hi] at h1; exact h1)).trans (congrArg (λb=>hpD A n f g tt b 0) (nx hi).symm)))) (by kernel_rfl) he)
  (λa j=>DK.ok (C:=.leaf (Pu A n f g tt)) (L:=exR) (.k (A1 (Nat.le_refl n)) .l) (by kernel_rfl) rfl) (Nat.zero_add _).symm (by omega)
  (Cv (acc:=λ_=>()) (λi _=>by unfold Ajo; cases AH (g (toN (yB n i))) <;> rfl) n 0 (Nat.zero_add n))
end
theorem m14 {A:Int} {n:Nat} {f:Nat->E6} (hy:IsCycle A n f):Al (ilt 0 (ofNat n)) (Al (Fa n) (EX 8 (ofNat n) (ofNat n)))=true∧EX 24 (ofNat (rN (mbF (shG n f)) n n)) (ofNat (rN (mbF (shG n f)) n n))=true:=by
 have h1:=hy.lo;have h2:=hy.hi;have h3:=U0 (mbF (shG n f)) n n;unfold Al ilt Fa EX;simp only [Int.ofNat_eq_natCast,Bool.and_eq_true,decide_eq_true_eq];omega
theorem Aqc (L:LT) (A:Int) (n:Nat) (f:Nat->E6) (hy:IsCycle A n f):(Av (B14 6 L) WZ 4611686018427387905 (VQ n 0 (hpW A n f (shG n f) (ofNat (rN (obF (shG n f)) n n)) (rN (mbF (shG n f)) n n) (λi=>evV (upX n (shG n f) n i)) (λ_=>iV (-1)) (λ_=>true) (λ_=>0) λ_ _=>.und))).sem=some (Pu A n f (shG n f) (ofNat (ttN n (shG n f)))):=by
 have hg:=DN hy;have hm:∃ k,k<n∧mbF (shG n f) k=true:=JE (p:=mbF (shG n f)) (by have:=hg.moves; show 0<Ak (λk=>AH (shG n f k)) n; omega);have h:=AoZ L A n f (shG n f) (ofNat (ttN n (shG n f))) hy.hi hm;rw [show Zy A n f (shG n f) (ofNat (ttN n (shG n f))) 0 ()=VQ n 0 (hpD A n f (shG n f) (ofNat (ttN n (shG n f))) 0 0) from rfl] at h;unfold hpD at h;rw [show dS n (shG n f) 0 0=dnF n (shG n f) (FW (mbF (shG n f)) n) 0 0 from rfl,<- XR,Aoq,AiX,AqM] at h;rw [show rN (obF (shG n f)) n n=ttN n (shG n f) from So hg.outer,show rN (mbF (shG n f)) n n=kkN n (shG n f) from So hg.moves];exact h
def C14 (A:Int) (n:Nat) (f:Nat->E6):A5:=.br (Ct n) (.br (ieq (Hu A n f) 0) (.leaf (.tup [Wq A n (shG n f),iV 0,iV 0],AoI n (shG n f))) (.leaf (.tup [noV,iV (Hu A n f),iV (AmE A n f)],noH))) .fail
theorem p14:Ap Tryz.prog Gl 99 ofT:=by
 refine Ah A2 mixed Tryz.func99 (by kernel_rfl) (by kernel_rfl) λvs v h' h=>?_;unfold ofT at h;split at h
 ·rename_i A u
  obtain ⟨n,f,ha,h1⟩:=CC h;obtain ⟨h8,hq⟩:=Ac h1;have w:=show DK (λa=>a) (C14 A n f) _ from .k (eL n) <| .g λh8=>.k h8 <| .c (λhc=>.k (eN hc) <| .k (eL n) <| .k h8 <| .k (Bt hc).may <| .a (r14 (Go.Sy.askL (ls14 n f)) A n f (Bt hc).hi ⟨(Kk (Bt hc)).1,(Kk (Bt hc)).2.1,(Kk (Bt hc)).2.2.1⟩) <| .a (r14_2 (Go.Sy.askL (ls14 n f)) A n f (Bt hc).hi (Kk (Bt hc)).2.2.2) <|
   .k eT <| .k (eL n) <| .k (m14 (Bt hc)).1 <| .k (E7 (n:=n)) <| .k eT <| .k (eL n) <| .k (m14 (Bt hc)).1 <| .k (E7 (n:=n)) <| .a (Apa (Go.Sy.askL (ls14 n f)) A n f (shG n f) (Bt hc).hi) <| .k (m14 (Bt hc)).2 <| .a (Aqc (Go.Sy.askL (ls14 n f)) A n f (Bt hc)) .l) λhc=>.k (eN hc) .l
  have R:=λr (h:(C14 A n f).sem=some r)=>DK.of (t:=A0 (Aj tab ⟨PL,Go.Sy.askL (ls14 n f),Gl⟩ Tryz.f99 [iV A,AI n f] [])) h w (by kernel_rfl);unfold C14 at R;cases hc:ieq (Hu A n f) 0 with
  | true =>rw [hc] at hq;have:=Ab hq;simp only [Prod.mk.injEq] at this;obtain ⟨rfl,rfl⟩:=this;have hm:=(DN (Bt hc)).moves;exact ⟨_,⟨PL,Go.Sy.askL (ls14 n f),Gl⟩,_,XI ha,rfl,Rz,Fp _ _ _,R _ (by rw [h8,hc]; rfl),AlD (by show 0<Ak (λk=>AH (shG n f k)) n; omega)⟩
  | false =>rw [hc] at hq;have:=Ab hq;simp only [Prod.mk.injEq] at this;obtain ⟨rfl,rfl⟩:=this;exact ⟨_,⟨PL,Go.Sy.askL (ls14 n f),Gl⟩,_,XI ha,rfl,Rz,Fp _ _ _,R _ (by rw [h8,hc]; rfl),Am.refl _⟩
 ·cases h
theorem AbF {a:Int} {n:Nat} {f:Nat->E6} (h:IsCycle a n f):obF (shG n f) (n-1)=true:=by
 obtain ⟨h1,h2,h3,h4⟩:=Kk h;have hlo:=h.lo;unfold obF;rw [Sb (by omega)];have:(shQ n f+(n-1)) % n=Cu (λi=>AB (C5 n f i)) n:=by
  unfold shQ;rw [Nat.mod_add_mod,show Cu (λi=>AB (C5 n f i)) n+1+(n-1)=Cu (λi=>AB (C5 n f i)) n+n by omega,Nat.add_mod_right,Nat.mod_eq_of_lt h1]
 rw [this];exact h2
end Go.Proofs.YtkbafjceglhjhaaGreatDoor.Sh
namespace Go.Proofs.YtkbafjceglhjhaaGreatDoor.Ed
open Go.Sy Go
theorem YN (i:Nat):ile 0 (Int.ofNat i)=true:=decide_eq_true (Int.natCast_nonneg i)
def lp44 (n:Nat) (g:Nat->V) (k:Int):Lp:=⟨bmK 15 0 [0,1,4],1,bmK 15 0 [],1,21⟩
def lp56 (n:Nat) (y:Nat->Int) (k:Int):Lp:=⟨bmK 16 0 [0,1,4],1,bmK 16 0 [],1,n+1⟩
end Go.Proofs.YtkbafjceglhjhaaGreatDoor.Ed
