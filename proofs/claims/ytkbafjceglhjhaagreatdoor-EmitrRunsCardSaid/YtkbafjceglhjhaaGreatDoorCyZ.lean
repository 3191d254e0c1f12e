/-
  Layer 7: the program's shape of a cycle, as derivations. No conditions.
-/
import Derived.Test.YtkbafjceglhjhaaGreatDoorCyT
import Derived.Test.YtkbafjceglhjhaaGreatDoorCyU
import Derived.Test.YtkbafjceglhjhaaGreatDoorEdY
import Derived.Test.YtkbafjceglhjhaaGreatDoorEdC
namespace Go.Proofs.YtkbafjceglhjhaaGreatDoor.Sh
open Go.Sy Ed
open Int (ofNat)
set_option maxHeartbeats 1000000
set_option maxRecDepth 4000
noncomputable def AmR:AE:=(138,Aap)::(48,KB)::(139,Cc λe=>bV (A9 e))::(140,Alj)::(141,Cc λe=>bV (AG e))::[]
theorem AeU:Ar Tryz.prog Gl AmR:=.cons p48 <| .cons p65 <| .cons p52 <| .cons p53 <| .cons p54 .nil
noncomputable def PO:FuncId->List V->St->T (V×Res):=I7 [(142,F8 tab (cxA Gl tb55 AfL) Tryz.f142)] (A2 AmR)
theorem Ry:Bi Tryz.prog ⟨PO,Gl⟩:=EV mixed (.cons rfl A0 (Bd tb55_ok AfL).1 (Bd tb55_ok AfL).2 Tryz.func142 (by kernel_rfl) (by kernel_rfl) .nil) (FF rfl AeU)
def zE:E6:=⟨0,false,false,0,0,0⟩
def Aps (n:Nat) (G:Nat->E6) (i:Nat):E6:=bif decide (i<n) then G i else zE
def shQ (n:Nat) (f:Nat->E6):Nat:=(Cz (λi=>A9 (Dc n f i)) n+1) % n
def shG (n:Nat) (f:Nat->E6):Nat->E6:=Aps n λi=>Dc n f ((shQ n f+i) % n)
def upE (b:Nat) (G:Nat->E6) (i:Nat):E6:=bif decide (i<b) then G i else zE
theorem AaD (b:Nat) (G:Nat->E6):AX b (λi=>eV (upE b G i)) (eV (G b))=λi=>eV (upE (b+1) G i):=by
 funext k;rw [BK,show Nat.beq k b=decide (k=b) by rw [Bool.eq_iff_iff]; simp];unfold upE;by_cases h:k=b
 ·subst h; simp
 ·by_cases h2:k<b
  ·have:k<b+1:=by omega
   simp [h,h2,this]
  ·have:¬ k<b+1:=by omega
   simp [h,h2,this]
def upX (n:Nat) (g:Nat->E6) (b i:Nat):Ev5:=bif decide (i<b) then evF n g (λ_=>false) i else ⟨0,0,0,0,0⟩
theorem TM (n:Nat) (g:Nat->E6) (b:Nat):AX b (λi=>evV (upX n g b i)) (evV (evF n g (λ_=>false) b))=λi=>evV (upX n g (b+1) i):=by
 funext k;rw [BK,show Nat.beq k b=decide (k=b) by rw [Bool.eq_iff_iff]; simp];unfold upX;by_cases h:k=b
 ·subst h; simp
 ·by_cases h2:k<b
  ·have:k<b+1:=by omega
   simp [h,h2,this]
  ·have:¬ k<b+1:=by omega
   simp [h,h2,this]
theorem Kt (b:Nat) (v:V):AX b (λ_=>v) v=λ_=>v:=by
 funext k;rw [BK];cases Nat.beq k b <;> rfl
def plM (n:Nat) (g:Nat->E6) (b:Nat) (x:Int):Int:=ofNat (Al (λk=>ieq x (thF n g k)) b)
theorem AkU (n:Nat) (g:Nat->E6) {b:Nat} (hb:b<n) (hn:n <= 16):(λi=>sel (ieq i (thF n g b)) (wr .i64 (Ai (plM n g b (thF n g b)) 1)) (plM n g b i))=plM n g (b+1):=by
 funext i;have hc:=BI (λk=>ieq (thF n g b) (thF n g k)) b;unfold plM;rw [A5 (n:=n) (by omega) (by omega)];cases h:ieq i (thF n g b) with
 | true =>have:=Cg h;subst this;rw [Bz h];rfl
 | false =>rw [BL h];rfl
theorem AhU {p:Nat->Bool} {n b:Nat} (hb:b<n) (hn:n <= 16):sel (ilt (ofNat (rN p n b)) (wr .i64 (Ai (A8 p n b) 1))) (wr .i64 (Ai (A8 p n b) 1)) (ofNat (rN p n b))=ofNat (rN p n (b+1)):=by
 have h1:=NI p n b hb;have h2:=Uq p n b;rw [FZ hb,A5 (n:=n) (by omega) (by omega),DI,rN];by_cases h:Bg p n b<rN p n b
 ·rw [if_pos h,decide_eq_false (by omega)]; rfl
 ·rw [if_neg h,decide_eq_true (by omega)]
  show ofNat (Bg p n b+1)=_;rw [show Bg p n b=rN p n b by omega]
theorem Adp {k:Nat} (h:k <= 100):Bn (ofNat k)=true:=by
 unfold Bn;rw [decide_eq_true (by simp only [Int.ofNat_eq_natCast]; omega),decide_eq_true (by simp only [Int.ofNat_eq_natCast]; omega)];rfl
def ttN (n:Nat) (g:Nat->E6):Nat:=Al (obF g) n
def VW (a:Int) (n:Nat) (g:Nat->E6):V:=.agg [iV a,.ref 0,.ref 1,iV (ofNat (ttN n g)),iV (ofNat (kkN n g)),.ref 2,.jref 3]
def VX (n:Nat) (g:Nat->E6):List Blk:=[.row 76 6 n (λi=>eV (g i)),.row 74 5 n (λi=>evV (evF n g (λ_=>true) i)),.row 3 1 n (λi=>iV (rfF n g (λ_=>true) i)),
 .jag ⟨24,1,kkN n g,λ_=>.und,0,3,1,λ_=>true,lnN (mbF g) (wrF g) n,λk i=>iV (ofNat (coN (mbF g) (wrF g) n k i)),none⟩]
def noV:V:=.agg [iV 0,.ref 0,.ref 1,iV 0,iV 0,.ref 2,.jref 3]
def noH:List Blk:=[.row 76 6 0 Ab,.row 74 5 0 Ab,.row 3 1 0 Ab,.jag ⟨24,1,0,λ_=>.und,0,3,1,λ_=>true,λ_=>0,λ_ _=>.und,none⟩]
def ofT:List V->AA
 | [.val (.int .i64 a),v]=>apL v λn f=>.br (Dg n) (.br (ieq (Hw a n f) 0) (.leaf (.tup [VW a n (shG n f),iV 0,iV 0],VX n (shG n f))) (.leaf (.tup [noV,iV (Hw a n f),iV (AlN a n f)],noH))) .fail
 | _=>.fail
theorem RX {n i:Nat} {f:Nat->E6} (h:i<n):shG n f i=Dc n f ((shQ n f+i) % n):=by
 unfold shG Aps;rw [decide_eq_true h];rfl
theorem Qr {a:Int} {n:Nat} {f g:Nat->E6} (h:IsCycle a n f) (he:∀ i,i<n->g i=f i):IsCycle a n g:=by
 have c1:∀ (p:E6->Bool) k,k <= n->Al (λi=>p (g i)) k=Al (λi=>p (f i)) k:=λp k hk=>JK λi hi=>by rw [he i (by omega)]
 have c2:∀ (p:E6->Bool) i,i<n->A8 (λk=>p (g k)) n i=A8 (λk=>p (f k)) n i:=λp i hi=>by
  rw [FZ hi,FZ hi];unfold Bg;rw [c1 p i (by omega),c1 p n (Nat.le_refl _)]
 have hlo:=h.lo;refine ⟨h.arch,h.lo,h.hi,λi hi=>?_,λi hi=>?_,?_,?_,λi hi=>?_,λi hi=>?_⟩
 ·have:=h.legal i hi
  unfold Ea at this ⊢;rw [he i hi];exact this
 ·have:=h.meets i hi
  unfold GK at this ⊢;rw [he i hi,he _ (Nat.mod_lt _ (by omega))];exact this
 ·rw [c1 A9 n (Nat.le_refl _)]; exact h.outer
 ·rw [c1 AG n (Nat.le_refl _)]; exact h.moves
 ·have:=h.writes i hi
  unfold Be MJ at this ⊢;have e:(λi=>isW (g i)) i=(λi=>isW (f i)) i:=by show isW (g i)=isW (f i); rw [he i hi]
  rw [e,c2 AG i hi,JK (q:=CP (A8 (λk=>AG (f k)) n) (λi=>isW (f i)) (A8 (λk=>AG (f k)) n i)) λk hk=>by
   unfold CP;rw [c2 AG k hk];show Ak _ (isW (g k))=Ak _ (isW (f k));rw [he k hk]]
  exact this
 ·have:=h.crowd i hi
  unfold Be MJ at this ⊢;rw [c2 A9 i hi,JK (q:=CP (A8 (λk=>A9 (f k)) n) (λ_=>true) (A8 (λk=>A9 (f k)) n i)) λk hk=>by
   unfold CP;rw [c2 A9 k hk]]
  exact this
theorem JJ {p:Nat->Bool}:∀ {n:Nat},0<Al p n->∃ k,k<n∧p k=true
 | 0,h=>by simp [Al] at h
 | n+1,h=>by
  cases hp:p n with
  | true=>exact ⟨n,Nat.lt_succ_self n,hp⟩
  | false =>rw [BL hp] at h;obtain ⟨k,h1,h2⟩:=JJ h;exact ⟨k,by omega,h2⟩
theorem Rq {a:Int} {n:Nat} {f:Nat->E6} (h:IsCycle a n f):IsCycle a n (λi=>Dc n f i):=by
 have h1:=Ra n (λi=>BZ (f i));have h2:=h.lo;exact h.turned (show El n (λi=>BZ (f i))<n by omega)
theorem Kq {a:Int} {n:Nat} {f:Nat->E6} (h:IsCycle a n f):Cz (λi=>A9 (Dc n f i)) n<n∧A9 (Dc n f (Cz (λi=>A9 (Dc n f i)) n))=true∧(∀ i,i<Cz (λi=>A9 (Dc n f i)) n->A9 (Dc n f i)=false)∧shQ n f<n:=by
 have h2:=h.lo;have h3:=(Rq h).outer;obtain ⟨k,h4,h5⟩:=JJ (p:=λi=>A9 (Dc n f i)) (n:=n) (by omega);obtain ⟨h6,h7,h8⟩:=EK (p:=λi=>A9 (Dc n f i)) h4 h5;exact ⟨by omega,h7,h8,Nat.mod_lt _ (by omega)⟩
theorem EF {a:Int} {n:Nat} {f:Nat->E6} (h:IsCycle a n f):IsCycle a n (shG n f) :=
 Qr ((Rq h).turned (Kq h).2.2.2) λi hi=>RX hi
theorem Sk {p:Nat->Bool} {n:Nat} (h:2 <= Al p n):rN p n n=Al p n:=by
 have hn:0<n:=by
  rcases Nat.eq_zero_or_pos n with h0 | h0
  ·subst h0; simp [Al] at h
  ·exact h0
 have h1:=Ab8 p n (n-1) (by omega);rw [show n-1+1=n by omega] at h1;rw [h1];have h2:=HF p (n-1);rw [show n-1+1=n by omega] at h2;split <;> omega
theorem Ad6 (n:Nat) (g:Nat->E6):dnF n g (FY (mbF g) n) 0 0=λ_=>false:=by
 funext j;unfold dnF;rw [Ad5];simp
theorem X0 (n:Nat) (g:Nat->E6):upX n g n=evF n g (dnF n g (FY (mbF g) n) 0 0):=by
 rw [Ad6];funext i;unfold upX;by_cases hi:i<n
 ·rw [decide_eq_true hi]; rfl
 ·rw [decide_eq_false hi]
  unfold evF;rw [decide_eq_false hi];rfl
theorem Ang (n:Nat) (g:Nat->E6):rfF n g (dnF n g (FY (mbF g) n) 0 0)=λ_=>-1:=by
 rw [Ad6];rfl
def An4 (n:Nat) (g:Nat->E6):List Blk:=[.row 76 6 n (λi=>eV (g i)),.row 74 5 n (λi=>evV (evF n g (dnF n g (FY (mbF g) n) n 0) i)),.row 3 1 n (λi=>iV (rfF n g (dnF n g (FY (mbF g) n) n 0) i)),
 .jag ⟨24,1,kkN n g,λ_=>.nilS,0,3,1,λ_=>true,lnP n g n 0,λk i=>coP n g n 0 k i,none⟩]
theorem AkN {n:Nat} {g:Nat->E6} (hk:0<kkN n g):Aw (An4 n g) (VX n g):=by
 have hn:0<n:=by
  rcases Nat.eq_zero_or_pos n with h0 | h0
  ·subst h0; simp [kkN,Al] at hk
  ·exact h0
 obtain ⟨k0,hk0,hm⟩:=JJ hk;have hd:∀ i,i<n->dnF n g (FY (mbF g) n) n 0 i=true:=λi hi=>by
  unfold dnF;rw [decide_eq_true hi,Vn]
  ·rfl
  ·exact Ia hn
 refine .cons (λ_ _=>rfl) (.cons (λi hi=>?_) (.cons (λi hi=>?_) (.consB (.jag (λ_ _=>.inr rfl) (λ_ _=>rfl) (λk hk'=>?_) (λk hk' q hq=>?_)) (.refl []))))
 ·rw [Db hi,Db hi,hd i hi]
 ·unfold rfF
  rw [hd i hi]
 ·have hk':k<kkN n g:=hk'
  have:=(Gy hk').1;show lnN _ _ n k=lnP n g n 0 k;unfold lnP;rw [if_pos hk',if_pos this]
 ·have hk':k<kkN n g:=hk'
  have hq:q<lnP n g n 0 k:=hq;show iV _=coP n g n 0 k q;unfold coP;rw [if_pos hq]
section
variable (A:Int) (n:Nat) (f:Nat->E6)
def hp2 (l:List Blk):List Blk:=.cells [iV 0,.nilS,.nilS,iV 0,iV 0,.nilS,.nilS] :: .row 76 6 n (λi=>eV (Dc n f i))::l
def j4 (l:List (Nat×V)):List V:=jsV 164 0 Ab l
def S14 (c:Int) (_:Unit):St:=⟨j4 [(0,iV A),(4,.ptr 0 0),(9,.ref 1),(11,nV n),(12,iV 0),(39,nV n),(40,iV c)],hp2 n f []⟩
def E14 (q:V):Ex×St:=(.ex 0,⟨j4 [(0,iV A),(4,.ptr 0 0),(9,.ref 1),(11,nV n),(12,q)],hp2 n f []⟩)
def g14 (i:Nat) (_:Unit):T (Unit ⊕ (Ex×St)):=.br (A9 (Dc n f i)) (.leaf (.inr (E14 A n f (iV (Av (wr .i64 (Ai (ofNat i) 1)) (ofNat n)))))) (.leaf (.inl ()))
variable (z:Nat)
def Ain (k:Nat) (y:Nat->V):List Blk:=hp2 n f [.cells [iV A,.ref 3,.ref 4,iV 0,iV 0,.ref 5,.jref 6],.row 76 6 k y,.row 74 5 0 Ab,.row 3 1 0 Ab,jE]
def cE (i:Nat):E6:=Dc n f ((z+i) % n)
def AiG (c:Int) (k:Nat) (y:Nat->V):St:=⟨j4 [(0,iV A),(4,.ptr 0 0),(9,.ref 1),(11,nV n),(12,nV z),(14,.ptr 2 0),(55,nV n),(56,iV c)],Ain A n f k y⟩
def Aeg (c:Int) (_:Unit):St:=AiG A n f z c (toN c) λi=>eV (upE (toN c) (cE n f z) i)
def Td:Ex×St:=(.ex 2,⟨j4 [(0,iV A),(4,.ptr 0 0),(11,nV n),(14,.ptr 2 0)],Ain A n f n λi=>eV (upE n (cE n f z) i)⟩)
variable (g:Nat->E6)
def Aim (tt kk:Int) (k:Nat) (x r:Nat->V):List Blk:=hp2 n f [.cells [iV A,.ref 3,.ref 4,iV tt,iV kk,.ref 5,.jref 6],.row 76 6 n (λi=>eV (g i)),.row 74 5 k x,.row 3 1 k r,jE]
def AiF (c tt kk:Int) (k:Nat) (x r:Nat->V) (pl:Int->Int):St:=⟨j4 [(4,.ptr 0 0),(11,nV n),(14,.ptr 2 0),(16,.ref 7),(17,.ref 8),(18,.ref 9),(80,nV n),(81,iV c)],
 Aim A n f g tt kk k x r++[.row 3 1 n (λk=>iV (thF n g k)),.row 3 1 n (λk=>iV (loF n g k)),.imap 92 k pl]⟩
def YZ (c:Int) (_:Unit):St:=AiF A n f g c (ofNat (rN (obF g) n (toN c))) (ofNat (rN (mbF g) n (toN c))) (toN c) (λi=>evV (upX n g (toN c) i)) (λ_=>iV (-1)) (plM n g (toN c))
def Tc:Ex×St:=(.ex 4,⟨j4 [(4,.ptr 0 0),(11,nV n),(14,.ptr 2 0)],Aim A n f g (ofNat (rN (obF g) n n)) (ofNat (rN (mbF g) n n)) n (λi=>evV (upX n g n i)) λ_=>iV (-1)⟩)
variable (tt:Int)
def V8 (c:Int) (h:List Blk):St:=⟨j4 [(4,.ptr 0 0),(11,nV n),(14,.ptr 2 0),(145,nV n),(146,iV c)],h⟩
def YY (c:Int) (_:Unit):St:=V8 n c (hpD A n f g tt (toN c) 0)
def Pv:Ex×St:=(.ex 6,⟨j4 [(4,.ptr 0 0),(14,.ptr 2 0)],hpD A n f g tt n 0⟩)
abbrev yB (n i:Nat):Int:=Av (wr .i64 (By (wr .i64 (Ai (ofNat i) (ofNat n))) 1)) (ofNat n)
def vs6 (i:Nat):List V:=j4 [(4,.ptr 0 0),(11,nV n),(14,.ptr 2 0),(20,nV i),(145,nV n),(146,nV i),(147,bV (ilt (ofNat i) (ofNat n))),(148,nV i),(149,.ptr 2 1),(150,.ref 3),(151,nV i),(152,nV n),
 (153,iV (wr .i64 (Ai (ofNat i) (ofNat n)))),(154,iV (wr .i64 (By (wr .i64 (Ai (ofNat i) (ofNat n))) 1))),(155,nV n),(156,iV (yB n i)),(157,.ept 3 6 (toN (yB n i)) 0),(158,eV (g (toN (yB n i)))),(159,bV (AG (g (toN (yB n i))))),(160,nV i)]
def Aiy (i:Nat) (_:Unit):T (Unit ⊕ (Ex×St)):=.br (AG (g (toN (yB n i)))) (.leaf (.inl ())) (.leaf (.inl ()))
end
def gGo (_:Nat) (_:Unit):T (Unit ⊕ (Ex×St)):=.leaf (.inl ())
theorem Adn {fin:Unit->Ex×St} (n:Nat):Cm gGo fin n 0 ()=some (fin ()):=Cv (acc:=λ_=>()) (λ_ _=>rfl) n 0 (Nat.zero_add n)
def Aov:Lp:=⟨bmK 164 0 [0,4,9,11,12,39,40],2,bmK 164 0 [0,4,9,11,12],2,4611686018427387905⟩
def Acs:Lp:=⟨bmK 164 0 [0,4,9,11,12,14,55,56],7,bmK 164 0 [0,4,11,14],7,4611686018427387905⟩
def Acr:Lp:=⟨bmK 164 0 [4,11,14,16,17,18,80,81],10,bmK 164 0 [4,11,14],7,4611686018427387905⟩
def W8:Lp:=⟨bmK 164 0 [4,11,14,145,146],8,bmK 164 0 [4,14],8,4611686018427387905⟩
def W6 (n:Nat) (f:Nat->E6):List (Nat×Lp×List (Nat×(Nat->V))):=[(0,Aov,[]),(2,Acs,[(3,λi=>eV (upE 0 (cE n f (shQ n f)) i))]),(4,Acr,[(4,λi=>evV (upX n (shG n f) 0 i)),(5,λ_=>iV (-1))]),(6,W8,[])]
noncomputable def B14 (id:Nat) (L:LT):St->T (Ex×St):=λst=>AK tab ⟨PO,L,Gl⟩ (A3 Tryz.f99 id) id st
section
variable (L:LT) (A:Int) (n:Nat) (f:Nat->E6)
theorem r14 (hn:n <= 16) (h:Cz (λi=>A9 (Dc n f i)) n<n∧A9 (Dc n f (Cz (λi=>A9 (Dc n f i)) n))=true∧(∀ i,i<Cz (λi=>A9 (Dc n f i)) n->A9 (Dc n f i)=false)):(A4 (B14 0 L) Aov 4611686018427387905 (S14 A n f 0 ())).sem=some (E14 A n f (iV (ofNat (shQ n f)))):=by
 obtain ⟨h1,h2,h3⟩:=h;have e:E14 A n f (iV (Av (wr .i64 (Ai (ofNat (Cz (λi=>A9 (Dc n f i)) n)) 1)) (ofNat n)))=E14 A n f (iV (ofNat (shQ n f))):=by rw [A5 (n:=n) h1 (by omega),E0]; rfl
 rw [<- e];exact AW (R:=exR) BG (S:=λc a _=>S14 A n f c a) (j:=λ_=>.und) (g:=g14 A n f) (fin:=λ_=>E14 A n f (iV 0)) (e:=E14 A n f (iV (Av (wr .i64 (Ai (ofNat (Cz (λi=>A9 (Dc n f i)) n)) 1)) (ofNat n)))) (n:=n) (by omega)
  (λi a j r hi he=>DK.ok (L:=goR (λc a _=>S14 A n f c a) exR i) (.k (ofNat_lt hi) <| .k (Ae hi) <| .k (decide_eq_true hi) <| .c (λh1=>.k h1 <| .k (Ll hi) <| .l) λh1=>.k h1 <| .l) (by kernel_rfl) he)
  (λa j=>DK.ok (C:=.leaf (E14 A n f (iV 0))) (L:=exR) (.k (Az (Nat.le_refl n)) .l) (by kernel_rfl) rfl) (Nat.zero_add _).symm (by omega)
  (Gh (acc:=λ_=>()) (m:=Cz (λi=>A9 (Dc n f i)) n) (λi hi=>by unfold g14; rw [h3 i hi]; rfl) (by unfold g14; rw [h2]; rfl) n 0 (by omega) (by omega))
theorem AnI (hn:n <= 16) {z:Nat} (hz:z<n):(A4 (B14 2 L) Acs 4611686018427387905 (Aeg A n f z 0 ())).sem=some (Td A n f z) :=
 AW (R:=exR) BG (S:=λc a _=>Aeg A n f z c a) (j:=λ_=>.und) (g:=gGo) (fin:=λ_=>Td A n f z) (e:=Td A n f z) (n:=n) (by omega)
  (λi a j r hi he=>DK.ok (L:=goR (λc a _=>Aeg A n f z c a) exR i) (.k (ofNat_lt hi) <| .k (Ll hi) <| .k (H4 hz hi (by omega)) <| .k (decide_eq_true (H3 hz hi (by omega))) <| .k (show C4 i 1 40=true from Hf (by omega)) <| .e (eq2 (λk y=>(Ex.nm,AiG A n f z (wr .i64 (Ai (ofNat i) 1)) k y)) (show BC i 1=_ by rw [A5 hi (by omega)]; rfl) (show AX i (λq=>eV (upE i (cE n f z) q)) (eV (Dc n f (toN (Av (wr .i64 (Ai (ofNat z) (ofNat i))) (ofNat n)))))=_ by rw [TG hz hi (by omega),A5 hi (by omega)]; exact AaD i (cE n f z)))) (by kernel_rfl) he)
  (λa j=>DK.ok (C:=.leaf (Td A n f z)) (L:=exR) (.k (Az (Nat.le_refl n)) .l) (by kernel_rfl) rfl) (Nat.zero_add _).symm (by omega) (Adn n)
variable (g:Nat->E6)
theorem Amk {n i:Nat} {g:Nat->E6} (hi:i<n) (hn:n <= 16):(Ex.nm,AiF A n f g (wr .i64 (Ai (ofNat i) 1)) (sel (ilt (ofNat (rN (obF g) n i)) (wr .i64 (Ai (thF n g i) 1))) (wr .i64 (Ai (thF n g i) 1)) (ofNat (rN (obF g) n i)))
  (sel (ilt (ofNat (rN (mbF g) n i)) (wr .i64 (Ai (loF n g i) 1))) (wr .i64 (Ai (loF n g i) 1)) (ofNat (rN (mbF g) n i))) (BC i 1) (AX i (λq=>evV (upX n g i q)) (.agg [iV (thF n g i),iV (plM n g i (thF n g i)),iV (g i).src,iV (loF n g i),iV 0])) (AX i (λ_=>iV (-1)) (iV (-1)))
  (λx=>sel (ieq x (thF n g i)) (wr .i64 (Ai (plM n g i (thF n g i)) 1)) (plM n g i x)))=(Ex.nm,YZ A n f g (wr .i64 (Ai (ofNat i) 1)) ()):=by
 have hx:=TM n g i;rw [show evV (evF n g (λ_=>false) i) = .agg [iV (thF n g i),iV (plM n g i (thF n g i)),iV (g i).src,iV (loF n g i),iV 0] by rw [Db hi]; rfl] at hx;have m1:=AhU (p:=obF g) hi hn;have m2:=AhU (p:=mbF g) hi hn;have m1:sel (ilt (ofNat (rN (obF g) n i)) (wr .i64 (Ai (thF n g i) 1))) (wr .i64 (Ai (thF n g i) 1)) (ofNat (rN (obF g) n i))=ofNat (rN (obF g) n (i+1)):=m1;have m2:sel (ilt (ofNat (rN (mbF g) n i)) (wr .i64 (Ai (loF n g i) 1))) (wr .i64 (Ai (loF n g i) 1)) (ofNat (rN (mbF g) n i))=ofNat (rN (mbF g) n (i+1)):=m2;rw [hx,Kt,AkU n g hi hn,m1,m2,A5 hi (by omega)];rfl
theorem Y8 {n i:Nat} {g:Nat->E6} (hi:i<n) (hn:n <= 16):Bn (thF n g i)=true∧Bn (wr .i64 (Ai (plM n g i (thF n g i)) 1))=true:=by
 have hth:thF n g i=ofNat (Bg (obF g) n i):=FZ hi;have hpn:=Lh (p:=obF g) (n:=n) (k:=i) (by omega);have hcn:=BI (obF g) n;have hc:=BI (λk=>ieq (thF n g i) (thF n g k)) i;refine ⟨by rw [hth]; exact Adp (by omega),?_⟩;unfold plM;rw [A5 (n:=n) (by omega) (by omega)];exact Adp (by omega)
theorem AnH (hn:n <= 16):(A4 (B14 4 L) Acr 4611686018427387905 (YZ A n f g 0 ())).sem=some (Tc A n f g) :=
 AW (R:=exR) BG (S:=λc a _=>YZ A n f g c a) (j:=λ_=>.und) (g:=gGo) (fin:=λ_=>Tc A n f g) (e:=Tc A n f g) (n:=n) (by omega)
  (λi a j r hi he=>DK.ok (L:=goR (λc a _=>YZ A n f g c a) exR i) (.k (ofNat_lt hi) <| .k (Ae hi) <| .k (decide_eq_true hi) <| .k (Ae hi) <| .k (decide_eq_true hi) <| .k (Y8 (g:=g) hi hn).1 <| .k (Ae hi) <| .k (decide_eq_true hi) <| .k (Ae hi) <| .k (decide_eq_true hi) <| .k (show C4 i 1 40=true from Hf (by omega)) <| .k (Ae hi) <| .k (decide_eq_true hi) <| .k (Y8 (g:=g) hi hn).1 <| .k (show nlt i 4611686018427387904=true from decide_eq_true (by omega)) <| .k (Y8 (g:=g) hi hn).1 <| .k (Y8 (g:=g) hi hn).2 <| .k (Ae hi) <| .k (decide_eq_true hi) <| .k (Ae hi) <| .k (decide_eq_true hi) <| .k (show C4 i 1 8=true from Hf (by omega)) <| .e (Amk A f (g:=g) hi hn)) (by kernel_rfl) he)
  (λa j=>DK.ok (C:=.leaf (Tc A n f g)) (L:=exR) (.k (Az (Nat.le_refl n)) .l) (by kernel_rfl) rfl) (Nat.zero_add _).symm (by omega) (Adn n)
variable (tt:Int)
theorem AmV {n b:Nat} {g:Nat->E6} (hk:∃ k,k<n∧mbF g k=true) (h:DU (mbF g) n b=false):hpD A n f g tt b 0=hpD A n f g tt (b+1) 0:=by
 have hd:dS n g b 0=dS n g (b+1) 0:=by
  funext i;show dnF n g _ b 0 i=dnF n g _ (b+1) 0 i;unfold dnF;by_cases hi:i<n
  ·rw [Aal hi hk h]
  ·rw [decide_eq_false hi]; rfl
 unfold hpD;rw [hd,U9 h,AdJ (U9 h)]
theorem AnG (hn:n <= 16) (hk:∃ k,k<n∧mbF g k=true):(A4 (B14 6 L) W8 4611686018427387905 (YY A n f g tt 0 ())).sem=some (Pv A n f g tt):=by
 have hB:∀ {i:Nat},i<n->yB n i=ofNat ((i+(n-1)) % n):=fun {i} hi=>LZ (a:=i) (n:=n) (by omega) (by omega);have nx:∀ {i:Nat},i<n->toN (wr .i64 (Ai (ofNat i) 1))=i+1:=fun {i} hi=>by rw [A5 hi (by omega)]; rfl
 exact AW (R:=exR) BG (S:=λc a _=>YY A n f g tt c a) (j:=λ_=>.und) (g:=Aiy n g) (fin:=λ_=>Pv A n f g tt) (e:=Pv A n f g tt) (n:=n) (by omega)
  (λi a j r hi he=>DK.ok (L:=goR (λc a _=>YY A n f g tt c a) exR i) (.k (ofNat_lt hi) <| .k (Ll hi) <| .k (V0 hi (by omega)) <| .k (show nlt (toN (yB n i)) n=true by rw [hB hi]; exact decide_eq_true (Nat.mod_lt _ (by omega))) <|
   .c (λh1=>.k h1 <| .k (Ae hi) <| .k (decide_eq_true hi) <| .a (r88 (z:=i) hi (by rw [hB hi] at h1; exact h1) hn A f tt (vs6 n g i) (by kernel_rfl) (by kernel_rfl)) <| .e (congrArg (λb=>(Ex.nm,V8 n (wr .i64 (Ai (ofNat i) 1)) (hpD A n f g tt b 0))) (nx hi).symm))
   λh1=>.k h1 <| .e (congrArg (λh=>(Ex.nm,V8 n (wr .i64 (Ai (ofNat i) 1)) h)) ((AmV A f tt hk (by rw [hB hi] at h1; exact h1)).trans (congrArg (λb=>hpD A n f g tt b 0) (nx hi).symm)))) (by kernel_rfl) he)
  (λa j=>DK.ok (C:=.leaf (Pv A n f g tt)) (L:=exR) (.k (Az (Nat.le_refl n)) .l) (by kernel_rfl) rfl) (Nat.zero_add _).symm (by omega)
  (Cv (acc:=λ_=>()) (λi _=>by unfold Aiy; cases AG (g (toN (yB n i))) <;> rfl) n 0 (Nat.zero_add n))
end
theorem m14 {A:Int} {n:Nat} {f:Nat->E6} (hy:IsCycle A n f):Ak (ilt 0 (ofNat n)) (Ak (GH n) (EL 8 (ofNat n) (ofNat n)))=true∧EL 24 (ofNat (rN (mbF (shG n f)) n n)) (ofNat (rN (mbF (shG n f)) n n))=true:=by
 have h1:=hy.lo;have h2:=hy.hi;have h3:=Uq (mbF (shG n f)) n n;unfold Ak ilt GH EL;simp only [Int.ofNat_eq_natCast,Bool.and_eq_true,decide_eq_true_eq];omega
theorem Ao8 (L:LT) (A:Int) (n:Nat) (f:Nat->E6) (hy:IsCycle A n f):(A4 (B14 6 L) W8 4611686018427387905 (V8 n 0 (hpW A n f (shG n f) (ofNat (rN (obF (shG n f)) n n)) (rN (mbF (shG n f)) n n) (λi=>evV (upX n (shG n f) n i)) (λ_=>iV (-1)) (λ_=>true) (λ_=>0) λ_ _=>.und))).sem=some (Pv A n f (shG n f) (ofNat (ttN n (shG n f)))):=by
 have hg:=EF hy;have hm:∃ k,k<n∧mbF (shG n f) k=true:=JJ (p:=mbF (shG n f)) (by have:=hg.moves; show 0<Al (λk=>AG (shG n f k)) n; omega);have h:=AnG L A n f (shG n f) (ofNat (ttN n (shG n f))) hy.hi hm;rw [show YY A n f (shG n f) (ofNat (ttN n (shG n f))) 0 ()=V8 n 0 (hpD A n f (shG n f) (ofNat (ttN n (shG n f))) 0 0) from rfl] at h;unfold hpD at h;rw [show dS n (shG n f) 0 0=dnF n (shG n f) (FY (mbF (shG n f)) n) 0 0 from rfl,<- X0,Ang,Aic,Apw] at h;rw [show rN (obF (shG n f)) n n=ttN n (shG n f) from Sk hg.outer,show rN (mbF (shG n f)) n n=kkN n (shG n f) from Sk hg.moves];exact h
def C14 (A:Int) (n:Nat) (f:Nat->E6):AA:=.br (Dg n) (.br (ieq (Hw A n f) 0) (.leaf (.tup [VW A n (shG n f),iV 0,iV 0],An4 n (shG n f))) (.leaf (.tup [noV,iV (Hw A n f),iV (AlN A n f)],noH))) .fail
theorem p14:As Tryz.prog Gl 99 ofT:=by
 refine Am A0 mixed Tryz.func99 (by kernel_rfl) (by kernel_rfl) λvs v h' h=>?_;unfold ofT at h;split at h
 ·rename_i A u
  obtain ⟨n,f,ha,h1⟩:=CG h;obtain ⟨h8,hq⟩:=Ad h1;have w:=show DK (λa=>a) (C14 A n f) _ from .k (eL n) <| .g λh8=>.k h8 <| .c (λhc=>.k (eN hc) <| .k (eL n) <| .k h8 <| .k (Bt hc).may <| .a (r14 (Go.Sy.askL (W6 n f)) A n f (Bt hc).hi ⟨(Kq (Bt hc)).1,(Kq (Bt hc)).2.1,(Kq (Bt hc)).2.2.1⟩) <| .a (AnI (Go.Sy.askL (W6 n f)) A n f (Bt hc).hi (Kq (Bt hc)).2.2.2) <|
   .k eT <| .k (eL n) <| .k (m14 (Bt hc)).1 <| .k (EI (n:=n)) <| .k eT <| .k (eL n) <| .k (m14 (Bt hc)).1 <| .k (EI (n:=n)) <| .a (AnH (Go.Sy.askL (W6 n f)) A n f (shG n f) (Bt hc).hi) <| .k (m14 (Bt hc)).2 <| .a (Ao8 (Go.Sy.askL (W6 n f)) A n f (Bt hc)) .l) λhc=>.k (eN hc) .l
  have R:=λr (h:(C14 A n f).sem=some r)=>DK.of (t:=Ay (Aj tab ⟨PO,Go.Sy.askL (W6 n f),Gl⟩ Tryz.f99 [iV A,AN n f] [])) h w (by kernel_rfl);unfold C14 at R;cases hc:ieq (Hw A n f) 0 with
  | true =>rw [hc] at hq;have:=Aa hq;simp only [Prod.mk.injEq] at this;obtain ⟨rfl,rfl⟩:=this;have hm:=(EF (Bt hc)).moves;exact ⟨_,⟨PO,Go.Sy.askL (W6 n f),Gl⟩,_,Xu ha,rfl,Ry,Ei _ _ _,R _ (by rw [h8,hc]; rfl),AkN (by show 0<Al (λk=>AG (shG n f k)) n; omega)⟩
  | false =>rw [hc] at hq;have:=Aa hq;simp only [Prod.mk.injEq] at this;obtain ⟨rfl,rfl⟩:=this;exact ⟨_,⟨PO,Go.Sy.askL (W6 n f),Gl⟩,_,Xu ha,rfl,Ry,Ei _ _ _,R _ (by rw [h8,hc]; rfl),Aw.refl _⟩
 ·cases h
theorem Abd {a:Int} {n:Nat} {f:Nat->E6} (h:IsCycle a n f):obF (shG n f) (n-1)=true:=by
 obtain ⟨h1,h2,h3,h4⟩:=Kq h;have hlo:=h.lo;unfold obF;rw [RX (by omega)];have:(shQ n f+(n-1)) % n=Cz (λi=>A9 (Dc n f i)) n:=by
  unfold shQ;rw [Nat.mod_add_mod,show Cz (λi=>A9 (Dc n f i)) n+1+(n-1)=Cz (λi=>A9 (Dc n f i)) n+n by omega,Nat.add_mod_right,Nat.mod_eq_of_lt h1]
 rw [this];exact h2
end Go.Proofs.YtkbafjceglhjhaaGreatDoor.Sh
namespace Go.Proofs.YtkbafjceglhjhaaGreatDoor.Ed
open Go.Sy Go
theorem Yy (i:Nat):ile 0 (Int.ofNat i)=true:=decide_eq_true (Int.natCast_nonneg i)
def lp56 (n:Nat) (y:Nat->Int) (k:Int):Lp:=⟨bmK 16 0 [0,1,4],1,bmK 16 0 [],1,n+1⟩
end Go.Proofs.YtkbafjceglhjhaaGreatDoor.Ed
