/-
  Layer 7: the document's shape of a cycle, as derivations. No conditions.
-/
import Derived.Test.YtkbafjceglhjhaaGreatDoorShE
import Derived.Test.YtkbafjceglhjhaaGreatDoorShB
import Derived.Test.YtkbafjceglhjhaaGreatDoorCyT
namespace Go.Proofs.YtkbafjceglhjhaaGreatDoor.Sh
open Go.Sy Ed
open Int (ofNat)
set_option maxHeartbeats 1000000
set_option maxRecDepth 100000
def Agv:List V->A5:=Hy λn f=>.br (Ct n) (.br (Di n f) (.leaf (.tup [.ref 0,iV 0],[.row 3 1 n λk=>iV (AC (λk=>AB (f k)) n k)])) .fail) .fail
def Agu:List V->A5:=Hy λn f=>.br (Ct n) (.br (Di n f) (.leaf (.tup [.ref 0,iV 0],[.row 3 1 n λk=>iV (AC (λk=>AH (f k)) n k)])) .fail) .fail
theorem p57:Ap Tryz.prog Gl 109 Agv:=Ap.congr Ed.p53 λvs r h=>by
 obtain ⟨v,rfl⟩:∃ v,vs=[v]:=by
  unfold Agv Hy at h;split at h
  ·exact ⟨_,rfl⟩
  ·cases h
 unfold Agv Hy at h;unfold La Hy;dsimp only at h ⊢;unfold apL at h ⊢;split at h
 ·rename_i n g hg
  obtain ⟨h1,h⟩:=Ac h;dsimp only at h;obtain ⟨h2,h⟩:=Ac h;obtain ⟨h3,h⟩:=Ac h;rw [h1];dsimp only;rw [h2,h3];exact h
 ·cases h
theorem p58:Ap Tryz.prog Gl 110 Agu:=Ap.congr Ed.p54 λvs r h=>by
 obtain ⟨v,rfl⟩:∃ v,vs=[v]:=by
  unfold Agu Hy at h;split at h
  ·exact ⟨_,rfl⟩
  ·cases h
 unfold Agu Hy at h;unfold La Hy;dsimp only at h ⊢;unfold apL at h ⊢;split at h
 ·rename_i n g hg
  obtain ⟨h1,h⟩:=Ac h;dsimp only at h;obtain ⟨h2,h⟩:=Ac h;obtain ⟨h3,h⟩:=Ac h;rw [h1];dsimp only;rw [h2,h3];exact h
 ·cases h
noncomputable def AnU:A7:=(107,VA)::(108,Aer)::(109,Agv)::(110,Agu)::[]
theorem AfK:Ao Tryz.prog Gl AnU:=.cons p49 <| .cons p56 <| .cons p57 <| .cons p58 .nil
noncomputable def PK:FuncId->List V->St->T (V×Res):=Ji [(111,M3 tab (cxA Gl Ak9 AgE) Tryz.f111)] (Aw AnU)
theorem Ry:Bu Tryz.prog ⟨PK,Gl⟩:=F6 mixed (.cons rfl A2 (AS XZ AgE).1 (AS XZ AgE).2 Tryz.func111 (by kernel_rfl) (by kernel_rfl) .nil) (Ek rfl AfK)
theorem ile_nat (a b:Nat):ile (ofNat a) (ofNat b)=decide (a <= b):=by
 unfold ile;rw [Bool.eq_iff_iff];simp
theorem AdH (a b:Int):ieq a b=ieq b a:=by
 unfold ieq;rw [Bool.eq_iff_iff];simp only [beq_iff_eq];exact eq_comm
def plC (n:Nat) (g:Nat->E6) (b i:Nat):Int:=ofNat (Ak (λk=>ieq (thF n g k) (thF n g b)) i)
section
variable (A:Int) (n:Nat) (g:Nat->E6)
def jZf (c:Int) (l:List (Nat×V)):List V:=jsV 132 0 Aa ((4,.ptr 0 0)::(9,.ref 1)::(10,nV n)::(11,.ref 2)::(13,.ref 3)::(15,.ptr 4 0)::(16,iV c)::l)
def hZf (tt kk:Int) (b:Nat) (x r:Nat->V):List Blk:=[.cells [iV 0,.nilS,.nilS,iV 0,iV 0,.nilS,.nilS],.row 76 6 n (λi=>eV (g i)),.row 3 1 n (λi=>iV (thF n g i)),.row 3 1 n (λi=>iV (loF n g i)),.cells [iV A,.ref 1,.ref 5,iV tt,iV kk,.ref 6,.jref 7],.row 74 5 b x,.row 3 1 b r,jE]
def kZf (b:Nat):List Blk:=hZf A n g (ofNat (rN (obF g) n b)) (ofNat (rN (mbF g) n b)) b (λq=>evV (upX n g b q)) (λ_=>iV (-1))
def SZf (c:Int) (_:Unit):St:=⟨jZf n c [],kZf A n g (toN c)⟩
def TZf (c tt kk:Int) (b:Nat) (x r:Nat->V):St:=⟨jZf n c [],hZf A n g tt kk b x r⟩
def AhA:Ex×St:=(.ex 0,⟨jsV 132 0 Aa [(4,.ptr 0 0),(15,.ptr 4 0)],kZf A n g n⟩)
def gZf (i:Nat) (_:Unit):T (Unit ⊕ (Ex×St)):=.br (ile (ofNat (rN (obF g) n i)) (thF n g i)) (.br (ile (ofNat (rN (mbF g) n i)) (loF n g i)) (.leaf (.inl ())) (.leaf (.inl ()))) (.br (ile (ofNat (rN (mbF g) n i)) (loF n g i)) (.leaf (.inl ())) (.leaf (.inl ())))
variable (b:Nat)
def AeO (c p:Int):St:=⟨jZf n (ofNat b) [(17,.ptr 8 0),(18,iV c)],kZf A n g b++[.cells [iV (thF n g b),iV p,iV (g b).src,iV (loF n g b),iV 0]]⟩
def AeV (c:Int) (_:Unit):St:=AeO A n g b c (plC n g b (toN c))
def Tl:Ex×St:=(.ex 2,⟨jZf n (ofNat b) [(17,.ptr 8 0)],kZf A n g b++[.cells [iV (thF n g b),iV (plC n g b b),iV (g b).src,iV (loF n g b),iV 0]]⟩)
def Ajk (i:Nat) (_:Unit):T (Unit ⊕ (Ex×St)):=.br (ieq (thF n g i) (thF n g b)) (.leaf (.inl ())) (.leaf (.inl ()))
def hpE (tt:Int) (k:Nat):List Blk:=hpX A n g (thF n g) (loF n g) tt k (λi=>evV (evF n g (dR n g k 0) i)) λi=>iV (rfF n g (dR n g k 0) i)
def Zu (c:Int) (h:List Blk):St:=⟨jsV 132 0 Aa [(4,.ptr 0 0),(15,.ptr 4 0),(19,iV c)],h⟩
def Zw (tt c:Int) (_:Unit):St:=Zu c (hpE A n g tt (toN c))
def Po (tt:Int):Ex×St:=(.ex 4,⟨jsV 132 0 Aa [(4,.ptr 0 0),(15,.ptr 4 0)],hpE A n g tt (kkN n g)⟩)
def vs4 (tt:Int) (i:Nat):List V:=jsV 132 0 Aa [(4,.ptr 0 0),(15,.ptr 4 0),(19,nV i),(122,nV i),(123,.ptr 4 4),(124,iV (ofNat (kkN n g))),(125,bV (ilt (ofNat i) (ofNat (kkN n g)))),(128,.agg [iV A,.ref 1,.ref 5,iV tt,iV (ofNat (kkN n g)),.ref 6,.jref 7]),(129,nV i)]
end
def ApB:Lp:=⟨bmK 132 0 [4,9,10,11,13,15,16],8,bmK 132 0 [4,15],8,4611686018427387905⟩
def AcJ:Lp:=⟨bmK 132 0 [4,9,10,11,13,15,16,17,18],9,bmK 132 0 [4,9,10,11,13,15,16,17],9,4611686018427387905⟩
def WY:Lp:=⟨bmK 132 0 [4,15,19],8,bmK 132 0 [4,15],8,4611686018427387905⟩
def Aam (n:Nat) (g:Nat->E6):List (Nat×Lp×List (Nat×(Nat->V))):=[(0,ApB,[(5,λq=>evV (upX n g 0 q)),(6,λ_=>iV (-1))]),(2,AcJ,[]),(4,WY,[])]
noncomputable def BZf (id:Nat) (L:LT):St->T (Ex×St):=λst=>AA tab ⟨PK,L,Gl⟩ (As Tryz.f68 id) id st
theorem Aph {n b i:Nat} {g:Nat->E6} (hi:i<b) (hb:b <= 16) {q:Bool} (h:ieq (thF n g i) (thF n g b)=q):sel q (wr .i64 (Ai (plC n g b i) 1)) (plC n g b i)=plC n g b (toN (wr .i64 (Ai (ofNat i) 1))):=by
 have hc:=B2 (λk=>ieq (thF n g k) (thF n g b)) i;rw [A3 hi (by omega)];show _=plC n g b (i+1);unfold plC;cases q with
 | true =>rw [By (p:=λk=>ieq (thF n g k) (thF n g b)) h,A3 (n:=b) (by omega) (by omega)];rfl
 | false =>rw [BQ (p:=λk=>ieq (thF n g k) (thF n g b)) h];rfl
theorem AoL (L:LT) (A:Int) (n:Nat) (g:Nat->E6) (hn:n <= 16) {b:Nat} (hb:b<n):(Av (BZf 2 L) AcJ 4611686018427387905 (AeV A n g b 0 ())).sem=some (Tl A n g b) :=
 AZ (R:=exR) BF (S:=λc a _=>AeV A n g b c a) (j:=λ_=>.und) (g:=Ajk n g b) (fin:=λ_=>Tl A n g b) (e:=Tl A n g b) (n:=b) (by omega)
  (λi a j r hi he=>DK.ok (L:=goR (λc a _=>AeV A n g b c a) exR i) (.k (ofNat_lt hi) <| .k (Ad (Nat.lt_trans hi hb)) <| .k (decide_eq_true (Nat.lt_trans hi hb)) <| .k (Ad hb) <| .k (decide_eq_true hb) <|
   .c (λh1=>.k h1 <| .e (congrArg (λp=>(Ex.nm,AeO A n g b (wr .i64 (Ai (ofNat i) 1)) p)) (Aph hi (by omega) h1))) λh1=>.k h1 <| .e (congrArg (λp=>(Ex.nm,AeO A n g b (wr .i64 (Ai (ofNat i) 1)) p)) (Aph hi (by omega) h1))) (by kernel_rfl) he)
  (λa j=>DK.ok (C:=.leaf (Tl A n g b)) (L:=exR) (.k (A1 (Nat.le_refl b)) .l) (by kernel_rfl) rfl) (Nat.zero_add _).symm (by omega)
  (Cv (acc:=λ_=>()) (λi _=>by unfold Ajk; cases ieq (thF n g i) (thF n g b) <;> rfl) b 0 (Nat.zero_add b))
theorem Ua {p:Nat->Bool} {n i:Nat} (hi:i<n) (hn:n <= 16) {q:Bool} (h:ile (ofNat (rN p n i)) (AC p n i)=q):sel q (wr .i64 (Ai (AC p n i) 1)) (ofNat (rN p n i))=ofNat (rN p n (i+1)):=by
 have h1:=NA p n i hi;have h2:=U0 p n i;rw [FX hi,ile_nat] at h;rw [FX hi,A3 (n:=n) (by omega) (by omega),rN];by_cases hl:Bl p n i<rN p n i
 ·rw [decide_eq_false (by omega)] at h
  rw [if_pos hl,<- h];rfl
 ·rw [decide_eq_true (by omega)] at h
  rw [if_neg hl,<- h,show rN p n i=Bl p n i by omega];rfl
theorem xZf (A:Int) {n:Nat} (g:Nat->E6) {i:Nat} (hi:i<n) (hn:n <= 16) {tt kk:Int} (h1:tt=ofNat (rN (obF g) n (i+1))) (h2:kk=ofNat (rN (mbF g) n (i+1))) :
  (Ex.nm,TZf A n g (wr .i64 (Ai (ofNat i) 1)) tt kk (AE i 1) (AD i (λq=>evV (upX n g i q)) (.agg [iV (thF n g i),iV (plC n g i i),iV (g i).src,iV (loF n g i),iV 0])) (AD i (λ_=>iV (-1)) (iV (-1))))=(Ex.nm,SZf A n g (wr .i64 (Ai (ofNat i) 1)) ()):=by
 have hx:=TY n g i;rw [show evV (evF n g (λ_=>false) i) = .agg [iV (thF n g i),iV (plC n g i i),iV (g i).src,iV (loF n g i),iV 0] by
  rw [CV hi];unfold plC plF;rw [show (λk=>ieq (thF n g k) (thF n g i))=λk=>ieq (thF n g i) (thF n g k) from funext λk=>AdH _ _];rfl] at hx
 rw [hx,Km,h1,h2,A3 hi (by omega)];rfl
theorem rZf (A:Int) (n:Nat) (g:Nat->E6) (hn:n <= 16):(Av (BZf 0 (Go.Sy.askL (Aam n g))) ApB 4611686018427387905 (SZf A n g 0 ())).sem=some (AhA A n g) :=
 AZ (R:=exR) BF (S:=λc a _=>SZf A n g c a) (j:=λ_=>.und) (g:=gZf n g) (fin:=λ_=>AhA A n g) (e:=AhA A n g) (n:=n) (by omega)
  (λi a j r hi he=>DK.ok (L:=goR (λc a _=>SZf A n g c a) exR i) (.k (ofNat_lt hi) <| .k (Ad hi) <| .k (decide_eq_true hi) <| .k (Ad hi) <| .k (decide_eq_true hi) <| .k (Ad hi) <| .k (decide_eq_true hi) <| .k (eI (ofNat i)) <| .k (Ad hi) <| .k (eJ i) <| .k (decide_eq_true hi) <| .k (eI (thF n g i)) <| .k (eI (ofNat i)) <| .k (Ad hi) <| .r 2 (eJ i) <| .k (decide_eq_true hi) <| .k (eI (g i).src) <| .k (eI (ofNat i)) <| .k (Ad hi) <| .k (eJ i) <| .k (decide_eq_true hi) <| .k (eI (loF n g i)) <| .k (eI (thF n g i)) <| .k (eI 0) <| .k (eI (g i).src) <| .k (eI (loF n g i)) <| .k (eI 0) <| .k (eI (ofNat i)) <| .k (Ad hi) <| .k (eJ i) <| .k (decide_eq_true hi) <| .k (eI (thF n g i)) <| .k (eI (ofNat i)) <| .k (Ad hi) <| .r 2 (eJ i) <| .k (decide_eq_true hi) <| .k (eI (g i).src) <| .k (eI (ofNat i)) <| .k (Ad hi) <| .k (eJ i) <| .k (decide_eq_true hi) <| .k (eI (loF n g i)) <| .k (eI (thF n g i)) <| .k (eI 0) <| .k (eI (g i).src) <| .k (eI (loF n g i)) <| .k (eI 0) <| .a (AoL (Go.Sy.askL (Aam n g)) A n g hn hi) <| .k (show Bs i 1 40=true from FT (by omega)) <| .k (show Bs i 1 8=true from FT (by omega)) <| .k (Ad hi) <| .k (decide_eq_true hi) <| .c (λh1=>.k h1 <| .k (Ad hi) <| .k (decide_eq_true hi) <| .k (Ad hi) <| .k (decide_eq_true hi) <| .c (λh2=>.k h2 <| .k (Ad hi) <| .k (decide_eq_true hi) <| .e (xZf A g hi hn (Ua hi hn h1) (Ua hi hn h2))) λh2=>.k h2 <| .e (xZf A g hi hn (Ua hi hn h1) (Ua hi hn h2))) λh1=>.k h1 <| .k (Ad hi) <| .k (decide_eq_true hi) <| .c (λh3=>.k h3 <| .k (Ad hi) <| .k (decide_eq_true hi) <| .e (xZf A g hi hn (Ua hi hn h1) (Ua hi hn h3))) λh3=>.k h3 <| .e (xZf A g hi hn (Ua hi hn h1) (Ua hi hn h3))) (by kernel_rfl) he)
  (λa j=>DK.ok (C:=.leaf (AhA A n g)) (L:=exR) (.k (A1 (Nat.le_refl n)) .l) (by kernel_rfl) rfl) (Nat.zero_add _).symm (by omega)
  (Cv (acc:=λ_=>()) (λi _=>by unfold gZf; cases ile (ofNat (rN (obF g) n i)) (thF n g i) <;> cases ile (ofNat (rN (mbF g) n i)) (loF n g i) <;> rfl) n 0 (Nat.zero_add n))
theorem okC (n:Nat) (g:Nat->E6) (b:Nat):(AV b λu=>AV (lnR n g b u) λq=>okI (coR n g b u q))=true:=A8.2 λu hu=>A8.2 λq hq=>by
 unfold lnR at hq;unfold coR;rw [show Nat.blt u b=true from Nat.ble_eq_true_of_le hu] at hq ⊢;rw [show Nat.blt q (lnN (mbF g) (wrF g) n u)=true from Nat.ble_eq_true_of_le hq];rfl
theorem Aj0 {u b:Nat} (h:u ≠ b):Nat.blt u (b+1)=Nat.blt u b:=by
 rw [Bool.eq_iff_iff];simp only [Nat.blt_eq];omega
theorem AmZ (A:Int) {n:Nat} {g:Nat->E6} (tt:Int) {i:Nat} (hi:i<kkN n g) :
  (hpX A n g (thF n g) (loF n g) tt 0 (λq=>evV (evF n g (dR n g i (Cs (mbF g) n (zN n g i))) q)) λq=>iV (rfF n g (dR n g i (Cs (mbF g) n (zN n g i))) q)).take 7++[.jag ⟨24,1,AE i 1,AD i Aa .und,0,3,1,λu=>sel (BN u i) true true,λu=>sel (BN u i) (wcN (wrF g) n (zN n g i) (Cs (mbF g) n (zN n g i))) (lnR n g i u),Dn (λu q=>coR n g i u q) i λq=>wvR n g i (Cs (mbF g) n (zN n g i)) q,none⟩]=hpE A n g tt (i+1):=by
 obtain ⟨z1,z2,z3⟩:=zk hi;have hd:=Zg (HD (mbF g) n) z1 z2;rw [show Bl (mbF g) n (zN n g i)=i from z3] at hd;rw [Km,show dR n g i (Cs (mbF g) n (zN n g i))=dR n g (i+1) 0 from hd,show (λu=>sel (BN u i) true true)=λ_=>true from funext λu=>by cases BN u i <;> rfl,
  show (λu=>sel (BN u i) (wcN (wrF g) n (zN n g i) (Cs (mbF g) n (zN n g i))) (lnR n g i u))=lnR n g (i+1) from funext λu=>by
   unfold lnR;by_cases h:u=i
   ·subst h
    rw [show BN u u=true from Nat.beq_refl _,show Nat.blt u (u+1)=true from Nat.ble_eq_true_of_le (Nat.le_refl _)];rfl
   ·rw [show BN u i=false from nbeq_ne h,Aj0 h]
    rfl,
  show (Dn (λu q=>coR n g i u q) i λq=>wvR n g i (Cs (mbF g) n (zN n g i)) q)=λu q=>coR n g (i+1) u q from funext λu=>funext λq=>by
   unfold Dn;rw [Fi];unfold coR;by_cases h:u=i
   ·subst h
    rw [show BN u u=true from Nat.beq_refl _,show Nat.blt u (u+1)=true from Nat.ble_eq_true_of_le (Nat.le_refl _)];rfl
   ·rw [show BN u i=false from nbeq_ne h,Aj0 h]
    rfl]
 rfl
theorem AoK (L:LT) (A:Int) (n:Nat) (g:Nat->E6) (tt:Int) (hn:n <= 16):(Av (BZf 4 L) WY 4611686018427387905 (Zw A n g tt 0 ())).sem=some (Po A n g tt):=by
 have hkn:kkN n g <= n:=B2 _ _;exact AZ (R:=exR) BF (S:=λc a _=>Zw A n g tt c a) (j:=λ_=>.und) (g:=gGo) (fin:=λ_=>Po A n g tt) (e:=Po A n g tt) (n:=kkN n g) (by omega)
  (λi a j r hi he=>DK.ok (L:=goR (λc a _=>Zw A n g tt c a) exR i) (.k (ofNat_lt hi) <| .k (eG [i]) <| .r 3 (eL n) <| .k (okC n g i) <| .k (eJ n) <| .k (show Aq n=true from decide_eq_true (by omega)) <| .a (r56 hi hn A (thF n g) (loF n g) tt (vs4 A n g tt i) (by kernel_rfl) (by kernel_rfl)) <| .k eT <| .k (show Bs i 1 24=true from FT (by omega)) <|
   .e (congrArg (λh=>(Ex.nm,Zu (wr .i64 (Ai (ofNat i) 1)) h)) ((AmZ A tt hi).trans (congrArg (hpE A n g tt) (show i+1=toN (wr .i64 (Ai (ofNat i) 1)) by rw [A3 hi (by omega)]; rfl))))) (by kernel_rfl) he)
  (λa j=>DK.ok (C:=.leaf (Po A n g tt)) (L:=exR) (.k (A1 (Nat.le_refl (kkN n g))) .l) (by kernel_rfl) rfl) (Nat.zero_add _).symm (by omega) (AdR _)
theorem Ajv (n:Nat) (g:Nat->E6):dnF n g (loN n g) 0 0=λ_=>false:=by
 funext j;unfold dnF;rw [Aem];simp
theorem Abl (n:Nat) (g:Nat->E6):upX n g n=evF n g (dnF n g (loN n g) 0 0):=by
 rw [Ajv,XR,Aen]
def AoJ (n:Nat) (g:Nat->E6):List Blk:=[.row 76 6 n (λi=>eV (g i)),.row 74 5 n (λi=>evV (evF n g (dR n g (kkN n g) 0) i)),.row 3 1 n (λi=>iV (rfF n g (dR n g (kkN n g) 0) i)),
 .jag ⟨24,1,kkN n g,λ_=>.und,0,3,1,λ_=>true,lnR n g (kkN n g),λk i=>coR n g (kkN n g) k i,none⟩]
theorem Agm {n:Nat} {g:Nat->E6} (hk:0<kkN n g):Am (AoJ n g) (Wr n g):=by
 have hd:∀ i,i<n->dR n g (kkN n g) 0 i=true:=λi hi=>by
  show dnF n g (loN n g) (kkN n g) 0 i=true;unfold dnF;rw [decide_eq_true hi,V1]
  ·rfl
  ·exact OX hi hk
 refine .cons (λ_ _=>rfl) (.cons (λi hi=>?_) (.cons (λi hi=>?_) (.consB (.jag (λ_ _=>.inr rfl) (λ_ _=>rfl) (λk hk'=>?_) (λk hk' q hq=>?_)) (.refl []))))
 ·rw [CV hi,CV hi,hd i hi]
 ·unfold rfF
  rw [hd i hi]
 ·have hk':k<kkN n g:=hk'
  show lnN _ _ n k=lnR n g (kkN n g) k;unfold lnR;rw [show Nat.blt k (kkN n g)=true from Nat.ble_eq_true_of_le hk'];rfl
 ·have hk':k<kkN n g:=hk'
  have hq:q<lnR n g (kkN n g) k:=hq;unfold lnR at hq;rw [show Nat.blt k (kkN n g)=true from Nat.ble_eq_true_of_le hk'] at hq;show iV _=coR n g (kkN n g) k q;unfold coR;rw [show Nat.blt k (kkN n g)=true from Nat.ble_eq_true_of_le hk',show Nat.blt q (lnN (mbF g) (wrF g) n k)=true from Nat.ble_eq_true_of_le hq];rfl
theorem Aqa (L:LT) (A:Int) {n:Nat} {g:Nat->E6} (hy:IsCycle A n g):(Av (BZf 4 L) WY 4611686018427387905 (Zu 0 (kZf A n g n))).sem=some (Po A n g (ofNat (ttN n g))):=by
 have h:=AoK L A n g (ofNat (ttN n g)) hy.hi;rw [show Zw A n g (ofNat (ttN n g)) 0 ()=Zu 0 (hpE A n g (ofNat (ttN n g)) 0) from rfl] at h;unfold hpE at h;rw [show dR n g 0 0=dnF n g (loN n g) 0 0 from rfl,<- Abl,Ajv] at h;unfold kZf;rw [show rN (obF g) n n=ttN n g from So hy.outer,show rN (mbF g) n n=kkN n g from So hy.moves];exact h
def CZf (A:Int) (n:Nat) (f:Nat->E6):A5:=.br (Ct n) (.br (ieq (Hu A n f) 0) (.leaf (.tup [Wq A n (shG n f),iV 0,iV 0],AoJ n (shG n f))) (.leaf (.tup [noV,iV (Hu A n f),iV (AmE A n f)],noH))) .fail
theorem p15:Ap Tryz.prog Gl 68 ofT:=by
 refine Ah A2 mixed Tryz.func68 (by kernel_rfl) (by kernel_rfl) λvs v h' h=>?_;unfold ofT at h;split at h
 ·rename_i A u
  obtain ⟨n,f,ha,h1⟩:=CC h;obtain ⟨h8,hq⟩:=Ac h1;have m:=λ(hc:ieq (Hu A n f) 0=true)=>(DN (Bt hc)).may;have w:=show DK (λa=>a) (CZf A n f) _ from .k (eL n) <| .g λh8=>.k h8 <| .c (λhc=>.k (eN hc) <| .k (eL n) <| .k h8 <| .k (V5.2 ⟨A,Bt hc⟩) <| .k (eL n) <| .k h8 <| .k (m hc) <| .k (E7 (n:=n)) <| .k (eL n) <| .k h8 <| .k (m hc) <| .k (E7 (n:=n)) <|
   .a (rZf A n (shG n f) (Bt hc).hi) <| .a (Aqa (Go.Sy.askL (Aam n (shG n f))) A (DN (Bt hc))) .l) λhc=>.k (eN hc) .l
  have R:=λr (h:(CZf A n f).sem=some r)=>DK.of (t:=A0 (Aj tab ⟨PK,Go.Sy.askL (Aam n (shG n f)),Gl⟩ Tryz.f68 [iV A,AI n f] [])) h w (by kernel_rfl);unfold CZf at R;cases hc:ieq (Hu A n f) 0 with
  | true =>rw [hc] at hq;have:=Ab hq;simp only [Prod.mk.injEq] at this;obtain ⟨rfl,rfl⟩:=this;have hm:=(DN (Bt hc)).moves;exact ⟨_,⟨PK,Go.Sy.askL (Aam n (shG n f)),Gl⟩,_,XI ha,rfl,Ry,Fp _ _ _,R _ (by rw [h8,hc]; rfl),Agm (by show 0<Ak (λk=>AH (shG n f k)) n; omega)⟩
  | false =>rw [hc] at hq;have:=Ab hq;simp only [Prod.mk.injEq] at this;obtain ⟨rfl,rfl⟩:=this;exact ⟨_,⟨PK,Go.Sy.askL (Aam n (shG n f)),Gl⟩,_,XI ha,rfl,Ry,Fp _ _ _,R _ (by rw [h8,hc]; rfl),Am.refl _⟩
 ·cases h
end Go.Proofs.YtkbafjceglhjhaaGreatDoor.Sh
namespace Go.Proofs.YtkbafjceglhjhaaGreatDoor.Sh
open Go.Sy Ed
open Int (ofNat)
set_option maxHeartbeats 1000000
set_option maxRecDepth 4000
theorem BM {n:Nat} (h:Aq n=true):n <= 4611686018427387904:=of_decide_eq_true h
theorem FP {a b:Bool} (h:a=true):Al a b=b:=by rw [h]; rfl
theorem XG {a b:Bool} (h:a=false):Al a b=false:=by rw [h]; rfl
theorem Ck {n m:Nat} (h:ieq (ofNat n) (ofNat m)=true):n=m:=by
 rw [DX] at h;exact of_decide_eq_true h
def Ef (n:Nat) (f:Nat->Int) (m:Nat) (g:Nat->Int):Bool:=Al (ieq (ofNat n) (ofNat m)) (AV n λk=>ieq (f k) (g k))
def ApN:Lp:=⟨bmK 26 0 [0,1,4,5],0,bmK 26 0 [4],0,4611686018427387905⟩
def S30 (n:Nat) (f:Nat->Int) (m:Nat) (g:Nat->Int) (c:Int) (a:Unit) (j:Nat->V):St:=⟨jsV 26 0 j [(0,.sl 1 n (λi=>iV (f i))),(1,.sl 1 m (λi=>iV (g i))),(4,bV false),(5,iV c)],[]⟩
noncomputable def B30 (L:LT):St->T (Ex×St):=λst=>AA tab ⟨Aw tb0,L,Gl⟩ (As Tryz.f148 0) 0 st
def Ang (n:Nat) (f:Nat->Int) (m:Nat) (g:Nat->Int) (i:Nat) (a:Unit):Ex×St:=(.rt,⟨jsV 26 0 Aa [(4,bV false)],[]⟩)
def g30 (n:Nat) (f:Nat->Int) (m:Nat) (g:Nat->Int) (i:Nat) (a:Unit):T ((Unit) ⊕ (Ex×St)):=.br (ieq (f i) (g i)) (.leaf (.inl ())) (.leaf (.inr (Ang n f m g i a)))
def Aq3 (n:Nat) (f:Nat->Int) (m:Nat) (g:Nat->Int) (a:Unit):Ex×St:=(.ex 0,⟨jsV 26 0 Aa [(4,bV false)],[]⟩)
theorem r30 (L:LT) (n:Nat) (f:Nat->Int) (m:Nat) (g:Nat->Int) (hm:n=m) (hn:n <= 4611686018427387904) {e:Ex×St} {a:Unit} {j:Nat->V} (h:Co (g30 n f m g) (Aq3 n f m g) n 0 a=some e):(Av (B30 L) ApN 4611686018427387905 (S30 n f m g 0 a j)).sem=some (exR e) :=
 AZ BF hn (λi a j r hi h=>DK.ok (L:=goR (S30 n f m g) exR i) (.k (ofNat_lt hi) <| .k (Ad hi) <| .k (Ad (hm ▸ hi)) <| .c (λh1=>.k (eN h1) <| .l) λh1=>.k (eN h1) <| .l) (by kernel_rfl) h) (λa j=>DK.ok (C:=.leaf (Aq3 n f m g a)) (L:=exR) (.k (A1 (Nat.le_refl n)) .l) (by kernel_rfl) rfl) (Nat.zero_add _).symm (Nat.lt_succ_of_le hn) h
def AgM:List (Nat×Lp×List (Nat×(Nat->V))):=[(0,ApN,[])]
def C30 (n:Nat) (f:Nat->Int) (m:Nat) (g:Nat->Int):A5:=.br (ieq (ofNat n) (ofNat m)) (.br (AV n λk=>ieq (f k) (g k)) (.leaf ((bV true),[])) (.leaf ((bV false),[]))) (.leaf ((bV false),[]))
theorem Aim (n:Nat) (f:Nat->Int) (m:Nat) (g:Nat->Int):(C30 n f m g).sem=some (bV (Ef n f m g),[]):=by
 unfold C30 Ef;cases ieq (ofNat n) (ofNat m)
 ·rfl
 cases AV n λk=>ieq (f k) (g k) <;> rfl
def IS:List V->A5
 | [v,u]=>apG LF v λn f=>apG LF u λm g=>.br (Aq n) (.leaf (bV (Ef n f m g),[])) .fail
 | _=>.fail
theorem p61:Ap Tryz.prog Gl 148 IS:=by
 refine Ah A2 mixed Tryz.func148 (by kernel_rfl) (by kernel_rfl) λvs v h' h=>?_;unfold IS at h;split at h
 ·rename_i v1 u1
  obtain ⟨n,f,a1,h⟩:=B0 h;obtain ⟨m,g,a2,h⟩:=B0 h;obtain ⟨hn,h⟩:=Ac h;have:=Ab h;simp only [Prod.mk.injEq] at this;obtain ⟨rfl,rfl⟩:=this;have hn:=BM hn;have w:DK (λa=>a) (C30 n f m g) _:=.c (λh1=>.k (eN h1) <| .c (λh2=>.a (r30 (askL AgM) n f m g (Ck h1) hn (j:=λ_=>.und) (PW (λ_ _=>rfl) h2)) <| .l) λh2=>.a (r30 (askL AgM) n f m g (Ck h1) hn (j:=λ_=>.und) (PX (λ_ _=>rfl) h2)) <| .l) λh1=>.k (eN h1) <| .l
  have hx:=AS Ca AgM (G:=Gl);exact ⟨_,cxA Gl tb0 AgM,_,(show Ba [v1,u1] [.sl 1 n (λi=>iV (f i)),.sl 1 m (λi=>iV (g i))] from λS w cs hv=>by
   obtain ⟨c,l,rfl,q1,c',l',rfl,q2,q3⟩:=hv;exact ⟨c,_,rfl,a1 S w c q1,c',l',rfl,a2 S w c' q2,q3⟩),rfl,hx.1,hx.2,DK.of (Aim n f m g) w (by kernel_rfl),Am.refl _⟩
 ·cases h
def FS (n:Nat) (ln:Nat->Nat) (co:Nat->Nat->Int) (m:Nat) (ln':Nat->Nat) (co':Nat->Nat->Int):Bool:=Al (ieq (ofNat n) (ofNat m)) (AV n λk=>Ef (ln k) (co k) (ln' k) (co' k))
noncomputable def Ak8:A7:=(148,IS)::[]
theorem Af6:Ao Tryz.prog Gl Ak8:=.cons p61 .nil
def ApM:Lp:=⟨bmK 27 0 [0,1,4,5],0,bmK 27 0 [4],0,4611686018427387905⟩
def S31 (n:Nat) (C:Nat->Nat×(Nat->Int)) (m:Nat) (D:Nat->Nat×(Nat->Int)) (c:Int) (a:Unit) (j:Nat->V):St:=⟨jsV 27 0 j [(0,.sl 1 n (λu=>.sl 1 (C u).1 (λi=>iV ((C u).2 i)))),(1,.sl 1 m (λu=>.sl 1 (D u).1 (λi=>iV ((D u).2 i)))),(4,bV false),(5,iV c)],[]⟩
noncomputable def B31 (L:LT):St->T (Ex×St):=λst=>AA tab ⟨Aw Ak8,L,Gl⟩ (As Tryz.f149 0) 0 st
def Anf (n:Nat) (C:Nat->Nat×(Nat->Int)) (m:Nat) (D:Nat->Nat×(Nat->Int)) (i:Nat) (a:Unit):Ex×St:=(.rt,⟨jsV 27 0 Aa [(4,bV false)],[]⟩)
def g31 (n:Nat) (C:Nat->Nat×(Nat->Int)) (m:Nat) (D:Nat->Nat×(Nat->Int)) (i:Nat) (a:Unit):T ((Unit) ⊕ (Ex×St)):=.br (Ef (C i).1 (C i).2 (D i).1 (D i).2) (.leaf (.inl ())) (.leaf (.inr (Anf n C m D i a)))
def Aq2 (n:Nat) (C:Nat->Nat×(Nat->Int)) (m:Nat) (D:Nat->Nat×(Nat->Int)) (a:Unit):Ex×St:=(.ex 0,⟨jsV 27 0 Aa [(4,bV false)],[]⟩)
theorem r31 (L:LT) (n:Nat) (C:Nat->Nat×(Nat->Int)) (m:Nat) (D:Nat->Nat×(Nat->Int)) (hm:n=m) (hs:(AV n λk=>Aq (C k).1)=true) (hn:n <= 4611686018427387904) {e:Ex×St} {a:Unit} {j:Nat->V} (h:Co (g31 n C m D) (Aq2 n C m D) n 0 a=some e):(Av (B31 L) ApM 4611686018427387905 (S31 n C m D 0 a j)).sem=some (exR e) :=
 AZ BF hn (λi a j r hi h=>DK.ok (L:=goR (S31 n C m D) exR i) (.k (ofNat_lt hi) <| .k (Ad hi) <| .k (Ad (hm ▸ hi)) <| .k (eL (C i).1) <| .k (eL (D i).1) <| .k (A8.1 hs i hi) <| .c (λh1=>.k (eN h1) <| .l) λh1=>.k (eN h1) <| .l) (by kernel_rfl) h) (λa j=>DK.ok (C:=.leaf (Aq2 n C m D a)) (L:=exR) (.k (A1 (Nat.le_refl n)) .l) (by kernel_rfl) rfl) (Nat.zero_add _).symm (Nat.lt_succ_of_le hn) h
def AgL:List (Nat×Lp×List (Nat×(Nat->V))):=[(0,ApM,[])]
def C31 (n:Nat) (C:Nat->Nat×(Nat->Int)) (m:Nat) (D:Nat->Nat×(Nat->Int)):A5:=.br (ieq (ofNat n) (ofNat m)) (.br (AV n λk=>Ef (C k).1 (C k).2 (D k).1 (D k).2) (.leaf ((bV true),[])) (.leaf ((bV false),[]))) (.leaf ((bV false),[]))
theorem Ail (n:Nat) (C:Nat->Nat×(Nat->Int)) (m:Nat) (D:Nat->Nat×(Nat->Int)):(C31 n C m D).sem=some (bV (FS n (λi=>(C i).1) (λi=>(C i).2) m (λi=>(D i).1) (λi=>(D i).2)),[]):=by
 unfold C31 FS;cases ieq (ofNat n) (ofNat m)
 ·rfl
 cases AV n λk=>Ef (C k).1 (C k).2 (D k).1 (D k).2 <;> rfl
def W0:List V->A5
 | [v,u]=>apG codJ v λn C=>apG codJ u λm D=>.br (Aq n) (.br (AV n λi=>Aq (C i).1) (.leaf (bV (FS n (λi=>(C i).1) (λi=>(C i).2) m (λi=>(D i).1) (λi=>(D i).2)),[])) .fail) .fail
 | _=>.fail
theorem p62:Ap Tryz.prog Gl 149 W0:=by
 refine Ah A2 mixed Tryz.func149 (by kernel_rfl) (by kernel_rfl) λvs v h' h=>?_;unfold W0 at h;split at h
 ·rename_i v1 u1
  obtain ⟨n,C,a1,h⟩:=B0 h;obtain ⟨m,D,a2,h⟩:=B0 h;obtain ⟨hn,h⟩:=Ac h;obtain ⟨hs,h⟩:=Ac h;have:=Ab h;simp only [Prod.mk.injEq] at this;obtain ⟨rfl,rfl⟩:=this;have w:DK (λa=>a) (C31 n C m D) _:=.c (λh1=>.k (eN h1) <| .c (λh2=>.a (r31 (askL AgL) n C m D (Ck h1) hs (BM hn) (j:=λ_=>.und) (PW (λ_ _=>rfl) h2)) <| .l) λh2=>.a (r31 (askL AgL) n C m D (Ck h1) hs (BM hn) (j:=λ_=>.und) (PX (λ_ _=>rfl) h2)) <| .l) λh1=>.k (eN h1) <| .l
  have hx:=AS Af6 AgL (G:=Gl);exact ⟨_,cxA Gl Ak8 AgL,_,(show Ba [v1,u1] [.sl 1 n (λu=>.sl 1 (C u).1 (λi=>iV ((C u).2 i))),.sl 1 m (λu=>.sl 1 (D u).1 (λi=>iV ((D u).2 i)))] from λS w cs hv=>by
   obtain ⟨c,l,rfl,q1,c',l',rfl,q2,q3⟩:=hv;exact ⟨c,_,rfl,a1 S w c q1,c',l',rfl,a2 S w c' q2,q3⟩),rfl,hx.1,hx.2,DK.of (Ail n C m D) w (by kernel_rfl),Am.refl _⟩
 ·cases h
def IE (e e':Ev5):Bool:=Al (ieq e.th e'.th) (Al (ieq e.pl e'.pl) (Al (ieq e.dir e'.dir) (Al (ieq e.loc e'.loc) (Al (ieq e.val e'.val) true))))
noncomputable def tb16:A7:=(43,On)::(148,IS)::(149,W0)::[]
theorem tb16_ok:Ao Tryz.prog Gl tb16:=.cons p42 <| .cons p61 <| .cons p62 .nil
def IF (s s':Sh7):Bool:=Al (ieq s.arch s'.arch) (Al (ieq s.tt s'.tt) (Al (ieq s.kk s'.kk) (Al (DZ s.ne s.E s'.ne s'.E) (Al (ieq (ofNat s.nx) (ofNat s'.nx)) (Al (Ef s.nr s.R s'.nr s'.R)
 (Al (FS s.nc (λi=>(s.C i).1) (λi=>(s.C i).2) s'.nc (λi=>(s'.C i).1) (λi=>(s'.C i).2)) (AV s.nx λk=>IE (s.X k) (s'.X k))))))))
def D7 (s:Sh7):Bool:=Al (Aq s.ne) (Al (Aq s.nx) (Al (Aq s.nr) (Al (Aq s.nc) (AV s.nc λi=>Aq (s.C i).1))))
def lp9:Lp:=⟨bmK 76 0 [2,3,4,5],2,bmK 76 0 [4],0,4611686018427387905⟩
def S9 (s s':Sh7) (c:Int) (a:Unit) (j:Nat->V):St:=⟨jsV 76 0 j [(2,.ptr 0 0),(3,.ptr 1 0),(4,bV false),(5,iV c)],[.cells [iV s.arch,.sl 6 s.ne (λi=>eV (s.E i)),.sl 5 s.nx (λi=>evV (s.X i)),iV s.tt,iV s.kk,.sl 1 s.nr (λi=>iV (s.R i)),.sl 1 s.nc (λu=>.sl 1 (s.C u).1 (λi=>iV ((s.C u).2 i)))],.cells [iV s'.arch,.sl 6 s'.ne (λi=>eV (s'.E i)),.sl 5 s'.nx (λi=>evV (s'.X i)),iV s'.tt,iV s'.kk,.sl 1 s'.nr (λi=>iV (s'.R i)),.sl 1 s'.nc (λu=>.sl 1 (s'.C u).1 (λi=>iV ((s'.C u).2 i)))]]⟩
noncomputable def B9 (L:LT):St->T (Ex×St):=λst=>AA tab ⟨Aw tb16,L,Gl⟩ (As Tryz.f102 0) 0 st
def Ard (s s':Sh7) (i:Nat) (a:Unit):Ex×St:=(.rt,⟨jsV 76 0 Aa [(4,bV false)],[]⟩)
def g9 (s s':Sh7) (i:Nat) (a:Unit):T ((Unit) ⊕ (Ex×St)):=.br (Al (ieq (s.X i).th (s'.X i).th) (Al (ieq (s.X i).pl (s'.X i).pl) (Al (ieq (s.X i).dir (s'.X i).dir) (Al (ieq (s.X i).loc (s'.X i).loc) (Al (ieq (s.X i).val (s'.X i).val) true))))) (.leaf (.inl ())) (.leaf (.inr (Ard s s' i a)))
def fn9 (s s':Sh7) (a:Unit):Ex×St:=(.ex 0,⟨jsV 76 0 Aa [(4,bV false)],[]⟩)
theorem r9 (L:LT) (s s':Sh7) (hm:s.nx=s'.nx) (hn:s.nx <= 4611686018427387904) {e:Ex×St} {a:Unit} {j:Nat->V} (h:Co (g9 s s') (fn9 s s') s.nx 0 a=some e):(Av (B9 L) lp9 4611686018427387905 (S9 s s' 0 a j)).sem=some (exR e) :=
 AZ BF hn (λi a j r hi h=>DK.ok (L:=goR (S9 s s') exR i) (.k (ofNat_lt hi) <| .k (Ad hi) <| .k (Ad (hm ▸ hi)) <| .c (λh1=>.k (eN h1) <| .l) λh1=>.k (eN h1) <| .l) (by kernel_rfl) h) (λa j=>DK.ok (C:=.leaf (fn9 s s' a)) (L:=exR) (.k (A1 (Nat.le_refl s.nx)) .l) (by kernel_rfl) rfl) (Nat.zero_add _).symm (Nat.lt_succ_of_le hn) h
def ls9:List (Nat×Lp×List (Nat×(Nat->V))):=[(0,lp9,[])]
def C9 (s s':Sh7):A5:=.br (ieq s.arch s'.arch) (.br (ieq s.tt s'.tt) (.br (ieq s.kk s'.kk) (.br (DZ s.ne (λi=>s.E i) s'.ne (λi=>s'.E i)) (.br (ieq (ofNat s.nx) (ofNat s'.nx)) (.br (Ef s.nr s.R s'.nr s'.R) (.br (FS s.nc (λi=>(s.C i).1) (λi i_1=>(s.C i).2 i_1) s'.nc (λi=>(s'.C i).1) (λi i_1=>(s'.C i).2 i_1)) (.br (AV s.nx λk=>IE (s.X k) (s'.X k)) (.leaf ((bV true),[])) (.leaf ((bV false),[]))) (.leaf ((bV false),[]))) (.leaf ((bV false),[]))) (.leaf ((bV false),[]))) (.leaf ((bV false),[]))) (.leaf ((bV false),[]))) (.leaf ((bV false),[]))) (.leaf ((bV false),[]))
theorem AmW (s s':Sh7):(C9 s s').sem=some (bV (IF s s'),[]):=by
 unfold C9 IF;cases ieq s.arch s'.arch
 ·rfl
 cases ieq s.tt s'.tt
 ·rfl
 cases ieq s.kk s'.kk
 ·rfl
 cases DZ s.ne s.E s'.ne s'.E
 ·rfl
 cases ieq (ofNat s.nx) (ofNat s'.nx)
 ·rfl
 cases Ef s.nr s.R s'.nr s'.R
 ·rfl
 cases FS s.nc (λi=>(s.C i).1) (λi=>(s.C i).2) s'.nc (λi=>(s'.C i).1) (λi=>(s'.C i).2)
 ·rfl
 cases AV s.nx λk=>IE (s.X k) (s'.X k) <;> rfl
def Kl:List V->A5
 | [v,u]=>apS v λs=>apS u λs'=>.br (D7 s) (.leaf (bV (IF s s'),[])) .fail
 | _=>.fail
theorem p16:Ap Tryz.prog Gl 102 Kl:=by
 refine Ah A2 mixed Tryz.func102 (by kernel_rfl) (by kernel_rfl) λvs v h' h=>?_;unfold Kl at h;split at h
 ·rename_i v1 u1
  obtain ⟨s,a1,h⟩:=apS_some h;obtain ⟨s',a2,h⟩:=apS_some h;obtain ⟨hn,h⟩:=Ac h;have:=Ab h;simp only [Prod.mk.injEq] at this;obtain ⟨rfl,rfl⟩:=this;have hn:Aq s.ne=true∧Aq s.nx=true∧Aq s.nr=true∧Aq s.nc=true∧(AV s.nc λi=>Aq (s.C i).1)=true:=by simpa [D7,Al] using hn
  obtain ⟨n1,n2,n3,n4,n5⟩:=hn;have w:DK (λa=>a) (C9 s s') _:=.c (λh1=>.r 6 (eN h1) <| .c (λh2=>.r 6 (eN h2) <| .c (λh3=>.r 5 (eN h3) <| .k (eL s.ne) <| .k (eL s'.ne) <| .k n1 <| .r 2 (eN h3) <| .c (λh4=>.r 8 (eN h4) <| .c (λh5=>.r 5 (eN h5) <| .k (eL s.nr) <| .k (eL s'.nr) <| .k n3 <| .r 2 (eN h5) <| .c (λh6=>.r 5 (eN h6) <| .k (eL2 s.nc s.C) <| .k (eL2 s'.nc s'.C) <| .k n4 <| .k n5 <| .r 2 (eN h6) <| .c (λh7=>.k (eN h7) <| .c (λh8=>.a (r9 (askL ls9) s s' (Ck h5) (BM n2) (j:=λ_=>.und) (PW (λ_ _=>rfl) h8)) <| .l) λh8=>.a (r9 (askL ls9) s s' (Ck h5) (BM n2) (j:=λ_=>.und) (PX (λ_ _=>rfl) h8)) <| .l) λh7=>.k (eN h7) <| .l) λh6=>.r 7 (eN h6) <| .k eT <| .l) λh5=>.r 7 (eN h5) <| .r 8 eT <| .l) λh4=>.r 8 (eN h4) <| .r 15 eT <| .l) λh3=>.r 7 (eN h3) <| .r 23 eT <| .l) λh2=>.r 6 (eN h2) <| .r 30 eT <| .l) λh1=>.r 6 (eN h1) <| .r 36 eT <| .l
  have hx:=AS tb16_ok ls9 (G:=Gl);exact ⟨_,cxA Gl tb16 ls9,_,(show Ba [v1,u1] [EC s,EC s'] from λS w cs hv=>by
   obtain ⟨c,l,rfl,q1,c',l',rfl,q2,q3⟩:=hv;exact ⟨c,_,rfl,a1 S w c q1,c',l',rfl,a2 S w c' q2,q3⟩),rfl,hx.1,hx.2,DK.of (AmW s s') w (by kernel_rfl),Am.refl _⟩
 ·cases h
end Go.Proofs.YtkbafjceglhjhaaGreatDoor.Sh
namespace Go.Proofs.YtkbafjceglhjhaaGreatDoor.Ed
open Go.Sy Go
def Hw (c:UInt8):Bool:=c == 32 || c == 9 || c == 10 || c == 13
def Ff (x:Int):Bool:=bor (ieq x 32) (bor (ieq x 9) (bor (ieq x 10) (ieq x 13)))
theorem NM (c:UInt8) (n:Nat) (hn:n<256):ieq ((c.toNat:Nat):Int) (n:Int)=(c == UInt8.ofNat n):=by
 rw [Bool.eq_iff_iff];simp only [ieq,beq_iff_eq];constructor
 ·intro h
  apply UInt8.toNat_inj.1;rw [UInt8.toNat_ofNat_of_lt' (by simpa using hn)];omega
 ·intro h
  rw [h,UInt8.toNat_ofNat_of_lt' (by simpa using hn)]
theorem AeD (c:UInt8):Ff ((c.toNat:Nat):Int)=Hw c:=by
 unfold Ff Hw bor;have h1:=NM c 32 (by decide);have h2:=NM c 9 (by decide);have h3:=NM c 10 (by decide);have h4:=NM c 13 (by decide);have h1:ieq ((c.toNat:Nat):Int) 32=(c == 32):=h1;have h2:ieq ((c.toNat:Nat):Int) 9=(c == 9):=h2;have h3:ieq ((c.toNat:Nat):Int) 10=(c == 10):=h3;have h4:ieq ((c.toNat:Nat):Int) 13=(c == 13):=h4;rw [h1,h2,h3,h4];cases (c == 32) <;> cases (c == 9) <;> cases (c == 10) <;> rfl
def BL (l:List UInt8):List UInt8:=l.takeWhile λc=>!Hw c
def Dd:Nat->List UInt8->Nat->List E6->List E6×Int×Nat
 | 0,_,_,acc=>(acc,0,0)
 | _+1,[],_,acc=>(acc,0,0)
 | q+1,c::l,a,acc =>
  if Hw c=true then Dd q l (a+1) acc
  else if FF (BL (c::l))=0 then Dd q ((c::l).drop (BL (c::l)).length) (a+(BL (c::l)).length) (acc++[FG (BL (c::l))])
  else ([],30,a)
theorem U9 {b:UInt8} (hb:Hw b=true) (l:List UInt8) (q a:Nat) (acc:List E6):Dd (q+1) (b::l) a acc=Dd q l (a+1) acc:=by
 rw [Dd,if_pos hb]
theorem Abe (l:List UInt8):(BL l).length <= l.length:=by
 induction l with
 | nil=>exact Nat.le_refl _
 | cons c l ih =>
  unfold BL at ih ⊢;cases hc:Hw c with
  | true=>rw [List.takeWhile_cons_of_neg (by simp [hc])]; exact Nat.zero_le _
  | false =>rw [List.takeWhile_cons_of_pos (by simp [hc])];simp only [List.length_cons];omega
section
variable (L:LT) (x:Int)
include L x
theorem Ait (h0:ieq x 32=true):(A0 (Aj tab ⟨Aw tb0,L,Gl⟩ Tryz.f105 [.val (.int .u8 x)] [])).sem=some ((bV true),[]):=by
 exact Ae (ks:=[kn h0,kn h0,kn h0,kT,kT,kT,kT,kT,kT]) (by kernel_rfl)
theorem Ais (h0:ieq x 32=false) (h1:ieq x 9=true):(A0 (Aj tab ⟨Aw tb0,L,Gl⟩ Tryz.f105 [.val (.int .u8 x)] [])).sem=some ((bV true),[]):=by
 exact Ae (ks:=[kn h0,kn h0,kn h0,kn h1,kn h1,kn h1,kT,kT,kT]) (by kernel_rfl)
theorem Air (h0:ieq x 32=false) (h1:ieq x 9=false) (h2:ieq x 10=true):(A0 (Aj tab ⟨Aw tb0,L,Gl⟩ Tryz.f105 [.val (.int .u8 x)] [])).sem=some ((bV true),[]):=by
 exact Ae (ks:=[kn h0,kn h0,kn h0,kn h1,kn h1,kn h1,kn h2,kn h2,kn h2]) (by kernel_rfl)
theorem Aiq (h0:ieq x 32=false) (h1:ieq x 9=false) (h2:ieq x 10=false):(A0 (Aj tab ⟨Aw tb0,L,Gl⟩ Tryz.f105 [.val (.int .u8 x)] [])).sem=some ((bV (ieq x 13)),[]):=by
 exact Ae (ks:=[kn h0,kn h0,kn h0,kn h1,kn h1,kn h1,kn h2,kn h2,kn h2]) (by kernel_rfl)
end
def PN:List V->A5
 | [.val (.int .u8 x)]=>out (bV (Ff x))
 | _=>.fail
theorem p83:Ap Tryz.prog Gl 105 PN:=by
 refine Ah A2 mixed Tryz.func105 (by kernel_rfl) (by kernel_rfl) λvs v h' h=>?_;unfold PN at h;split at h
 ·rename_i x
  have:=Ab h;simp only [Prod.mk.injEq] at this;obtain ⟨rfl,rfl⟩:=this;have hx:=Bh Ca [];refine ⟨_,AO Gl tb0 [],_,Ba.refl _,rfl,hx.1,hx.2,?_,Am.refl _⟩;unfold Ff;cases c1:ieq x 32 with
  | true=>exact Ait _ x c1
  | false =>
   cases c2:ieq x 9 with
   | true=>exact Ais _ x c1 c2
   | false =>
    cases c3:ieq x 10 with
    | true=>exact Air _ x c1 c2 c3
    | false=>exact Aiq _ x c1 c2 c3
 ·cases h
def lp40_2 (s:List UInt8):Lp:=⟨bmK 54 0 [0,2,3,4,5,6,7],2,bmK 54 0 [0,2,3,4,5,6,7],2,Bq s+1⟩
def lp40 (s:List UInt8):Lp:=⟨bmK 54 0 [0,2,3,4,5,6],2,bmK 54 0 [2,3,4,5],4,Bq s+1⟩
theorem Ah6 {α:Type} {l:List α} {i:Nat} {d:α} (h:i<l.length):l.getD i d=l[i]:=by simp [List.getD,h]
theorem Gh {s:List UInt8} {a:Nat} (h:a<s.length):s.drop a=s[a]::s.drop (a+1):=List.drop_eq_getElem_cons h
theorem N6 {s:List UInt8} {a:Nat} (h:a<s.length):Ff (ER s a)=Hw s[a]:=by
 unfold ER;rw [Ah6 h];exact AeD _
def M5 (l:List E6) (i:Nat):E6:=l.getD i Gn
theorem Vl {l:List E6} {e:E6} {i:Nat} (h:i<l.length+1):M5 (l++[e]) i=if i=l.length then e else M5 l i:=by
 unfold M5;by_cases hi:i=l.length
 ·rw [if_pos hi,hi]; simp
 ·rw [if_neg hi]
  simp only [List.getD,List.getElem?_append_left (show i<l.length by omega)]
def EU (acc:List E6):Nat->V:=BW (λi=>eV (M5 acc i)) acc.length
theorem MY {g g':Nat->V}:∀ n,(∀ i,i<n->g i=g' i)->BW g n=BW g' n
 | 0,_=>rfl
 | n+1,h=>by
  show AD n (BW g n) (g n)=AD n (BW g' n) (g' n);rw [h n (Nat.lt_succ_self n),MY n λi hi=>h i (by omega)]
theorem ZP (acc:List E6) (e:E6):AD acc.length (EU acc) (eV e)=EU (acc++[e]):=by
 have h1:EU (acc++[e])=BW (λi=>eV (M5 (acc++[e]) i)) (acc.length+1):=by
  unfold EU;rw [List.length_append];rfl
 rw [h1];show _=AD acc.length (BW (λi=>eV (M5 (acc++[e]) i)) acc.length) (eV (M5 (acc++[e]) acc.length));rw [Vl (Nat.lt_succ_self _),if_pos rfl];unfold EU;rw [MY (g:=λi=>eV (M5 (acc++[e]) i)) (g':=λi=>eV (M5 acc i)) acc.length λi hi=>by
  show eV (M5 (acc++[e]) i)=eV (M5 acc i);rw [Vl (by omega),if_neg (by omega)]]
def JQ:Nat->List UInt8->List E6->List E6×E6
 | 0,_,acc=>(acc,Gn)
 | _+1,[],acc=>(acc,Gn)
 | q+1,c::l,acc =>
  if Hw c=true then JQ q l acc
  else if FF (BL (c::l))=0 then JQ q ((c::l).drop (BL (c::l)).length) (acc++[FG (BL (c::l))])
  else (acc,FG (BL (c::l)))
def AeE (s:List UInt8):Bool:=ilt 262144 (Int.ofNat (Bq s))
def psR (s:List UInt8):List E6×Int×Nat:=Dd (s.length+1) s 0 []
def psL (s:List UInt8):List E6:=bif AeE s then [] else (psR s).1
def psE (s:List UInt8):Int:=bif AeE s then 2 else (psR s).2.1
def psI (s:List UInt8):Int:=bif AeE s then 0 else Int.ofNat (psR s).2.2
def psN (s:List UInt8):Nat:=(psL s).length
def psG (s:List UInt8) (i:Nat):E6:=M5 (psL s) i
def psT:List V->A5
 | [.str s]=>.leaf (.tup [.ref 0,iV (psE s),iV (psI s)],[.row 76 6 (psN s) λi=>eV (psG s i)])
 | _=>.fail
theorem O8:∀ (q:Nat) (l:List UInt8) (a:Nat) (acc:List E6),(Dd q l a acc).2.1=0->(Dd q l a acc).2.2=0
 | 0,_,_,_,_=>rfl
 | q+1,[],_,_,_=>rfl
 | q+1,c::l,a,acc,h=>by
  rw [Dd] at h ⊢;split
  ·rename_i hc
   rw [if_pos hc] at h;exact O8 q _ _ _ h
  ·rename_i hc
   rw [if_neg hc] at h;split
   ·rename_i hp
    rw [if_pos hp] at h;exact O8 q _ _ _ h
   ·rename_i hp
    rw [if_neg hp] at h;cases h
theorem Amr {L:LT} (hL:LLe L L) (k:Nat) (r:Ex×St):LLe (onP k (isP L k r) r L) (onP k (isP L k r) r L):=λid f f' st hf r' hr=>by
 unfold onP at hr ⊢;cases hk:Nat.beq id k with
 | true =>rw [hk] at hr;obtain ⟨h1,h2⟩:=Ac hr;unfold isP at h1;have h1:=@of_decide_eq_true _ (Classical.propDecidable _) h1;have h3:isP L k r f' st=true:=A4 (hL k f f' st hf _ h1);show sel (isP L k r f' st) _ _=_;rw [h3];exact h2
 | false =>rw [hk] at hr;exact hL id f f' st hf _ hr
end Go.Proofs.YtkbafjceglhjhaaGreatDoor.Ed
