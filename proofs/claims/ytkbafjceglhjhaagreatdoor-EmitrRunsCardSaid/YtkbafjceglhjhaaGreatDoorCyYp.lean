/-
  Layer 7: the document's shape of a cycle, as derivations. No conditions.
-/
import Derived.Test.YtkbafjceglhjhaaGreatDoorShE
import Derived.Test.YtkbafjceglhjhaaGreatDoorEdX
import Derived.Test.YtkbafjceglhjhaaGreatDoorCyT
namespace Go.Proofs.YtkbafjceglhjhaaGreatDoor.Sh
open Go.Sy Ed
open Int (ofNat)
set_option maxHeartbeats 1000000
set_option maxRecDepth 100000
def Afy:List V->AA:=HL λn f=>.br (Dg n) (.br (EM n f) (.leaf (.tup [.ref 0,iV 0],[.row 3 1 n λk=>iV (A8 (λk=>A9 (f k)) n k)])) .fail) .fail
def Afx:List V->AA:=HL λn f=>.br (Dg n) (.br (EM n f) (.leaf (.tup [.ref 0,iV 0],[.row 3 1 n λk=>iV (A8 (λk=>AG (f k)) n k)])) .fail) .fail
theorem p57:As Tryz.prog Gl 109 Afy:=As.congr Ed.p53 λvs r h=>by
 obtain ⟨v,rfl⟩:∃ v,vs=[v]:=by
  unfold Afy HL at h;split at h
  ·exact ⟨_,rfl⟩
  ·cases h
 unfold Afy HL at h;unfold Lg HL;dsimp only at h ⊢;unfold apL at h ⊢;split at h
 ·rename_i n g hg
  obtain ⟨h1,h⟩:=Ad h;dsimp only at h;obtain ⟨h2,h⟩:=Ad h;obtain ⟨h3,h⟩:=Ad h;rw [h1];dsimp only;rw [h2,h3];exact h
 ·cases h
theorem p58:As Tryz.prog Gl 110 Afx:=As.congr Ed.p54 λvs r h=>by
 obtain ⟨v,rfl⟩:∃ v,vs=[v]:=by
  unfold Afx HL at h;split at h
  ·exact ⟨_,rfl⟩
  ·cases h
 unfold Afx HL at h;unfold Lg HL;dsimp only at h ⊢;unfold apL at h ⊢;split at h
 ·rename_i n g hg
  obtain ⟨h1,h⟩:=Ad h;dsimp only at h;obtain ⟨h2,h⟩:=Ad h;obtain ⟨h3,h⟩:=Ad h;rw [h1];dsimp only;rw [h2,h3];exact h
 ·cases h
noncomputable def AmQ:AE:=(107,Aap)::(108,AdB)::(109,Afy)::(110,Afx)::[]
theorem AeT:Ar Tryz.prog Gl AmQ:=.cons p49 <| .cons p56 <| .cons p57 <| .cons p58 .nil
noncomputable def PN:FuncId->List V->St->T (V×Res):=I7 [(111,F8 tab (cxA Gl AjN ls56) Tryz.f111)] (A2 AmQ)
theorem Rx:Bi Tryz.prog ⟨PN,Gl⟩:=EV mixed (.cons rfl A0 (Bd X4 ls56).1 (Bd X4 ls56).2 Tryz.func111 (by kernel_rfl) (by kernel_rfl) .nil) (FF rfl AeT)
theorem ile_nat (a b:Nat):ile (ofNat a) (ofNat b)=decide (a <= b):=by
 unfold ile;rw [Bool.eq_iff_iff];simp
theorem Adb (a b:Int):ieq a b=ieq b a:=by
 unfold ieq;rw [Bool.eq_iff_iff];simp only [beq_iff_eq];exact eq_comm
def plC (n:Nat) (g:Nat->E6) (b i:Nat):Int:=ofNat (Al (λk=>ieq (thF n g k) (thF n g b)) i)
section
variable (A:Int) (n:Nat) (g:Nat->E6)
def jZf (c:Int) (l:List (Nat×V)):List V:=jsV 132 0 Ab ((4,.ptr 0 0)::(9,.ref 1)::(10,nV n)::(11,.ref 2)::(13,.ref 3)::(15,.ptr 4 0)::(16,iV c)::l)
def hZf (tt kk:Int) (b:Nat) (x r:Nat->V):List Blk:=[.cells [iV 0,.nilS,.nilS,iV 0,iV 0,.nilS,.nilS],.row 76 6 n (λi=>eV (g i)),.row 3 1 n (λi=>iV (thF n g i)),.row 3 1 n (λi=>iV (loF n g i)),.cells [iV A,.ref 1,.ref 5,iV tt,iV kk,.ref 6,.jref 7],.row 74 5 b x,.row 3 1 b r,jE]
def kZf (b:Nat):List Blk:=hZf A n g (ofNat (rN (obF g) n b)) (ofNat (rN (mbF g) n b)) b (λq=>evV (upX n g b q)) (λ_=>iV (-1))
def SZf (c:Int) (_:Unit):St:=⟨jZf n c [],kZf A n g (toN c)⟩
def TZf (c tt kk:Int) (b:Nat) (x r:Nat->V):St:=⟨jZf n c [],hZf A n g tt kk b x r⟩
def AgA:Ex×St:=(.ex 0,⟨jsV 132 0 Ab [(4,.ptr 0 0),(15,.ptr 4 0)],kZf A n g n⟩)
def gZf (i:Nat) (_:Unit):T (Unit ⊕ (Ex×St)):=.br (ile (ofNat (rN (obF g) n i)) (thF n g i)) (.br (ile (ofNat (rN (mbF g) n i)) (loF n g i)) (.leaf (.inl ())) (.leaf (.inl ()))) (.br (ile (ofNat (rN (mbF g) n i)) (loF n g i)) (.leaf (.inl ())) (.leaf (.inl ())))
variable (b:Nat)
def Aec (c p:Int):St:=⟨jZf n (ofNat b) [(17,.ptr 8 0),(18,iV c)],kZf A n g b++[.cells [iV (thF n g b),iV p,iV (g b).src,iV (loF n g b),iV 0]]⟩
def Aee (c:Int) (_:Unit):St:=Aec A n g b c (plC n g b (toN c))
def SX:Ex×St:=(.ex 2,⟨jZf n (ofNat b) [(17,.ptr 8 0)],kZf A n g b++[.cells [iV (thF n g b),iV (plC n g b b),iV (g b).src,iV (loF n g b),iV 0]]⟩)
def Ais (i:Nat) (_:Unit):T (Unit ⊕ (Ex×St)):=.br (ieq (thF n g i) (thF n g b)) (.leaf (.inl ())) (.leaf (.inl ()))
def hpE (tt:Int) (k:Nat):List Blk:=hpX A n g (thF n g) (loF n g) tt k (λi=>evV (evF n g (dR n g k 0) i)) λi=>iV (rfF n g (dR n g k 0) i)
def YU (c:Int) (h:List Blk):St:=⟨jsV 132 0 Ab [(4,.ptr 0 0),(15,.ptr 4 0),(19,iV c)],h⟩
def YW (tt c:Int) (_:Unit):St:=YU c (hpE A n g tt (toN c))
def Pp (tt:Int):Ex×St:=(.ex 4,⟨jsV 132 0 Ab [(4,.ptr 0 0),(15,.ptr 4 0)],hpE A n g tt (kkN n g)⟩)
def vs4 (tt:Int) (i:Nat):List V:=jsV 132 0 Ab [(4,.ptr 0 0),(15,.ptr 4 0),(19,nV i),(122,nV i),(123,.ptr 4 4),(124,iV (ofNat (kkN n g))),(125,bV (ilt (ofNat i) (ofNat (kkN n g)))),(128,.agg [iV A,.ref 1,.ref 5,iV tt,iV (ofNat (kkN n g)),.ref 6,.jref 7]),(129,nV i)]
end
def Aoi:Lp:=⟨bmK 132 0 [4,9,10,11,13,15,16],8,bmK 132 0 [4,15],8,4611686018427387905⟩
def Acg:Lp:=⟨bmK 132 0 [4,9,10,11,13,15,16,17,18],9,bmK 132 0 [4,9,10,11,13,15,16,17],9,4611686018427387905⟩
def W7:Lp:=⟨bmK 132 0 [4,15,19],8,bmK 132 0 [4,15],8,4611686018427387905⟩
def ZJ (n:Nat) (g:Nat->E6):List (Nat×Lp×List (Nat×(Nat->V))):=[(0,Aoi,[(5,λq=>evV (upX n g 0 q)),(6,λ_=>iV (-1))]),(2,Acg,[]),(4,W7,[])]
noncomputable def BZf (id:Nat) (L:LT):St->T (Ex×St):=λst=>AK tab ⟨PN,L,Gl⟩ (A3 Tryz.f68 id) id st
theorem AnN {n b i:Nat} {g:Nat->E6} (hi:i<b) (hb:b <= 16) {q:Bool} (h:ieq (thF n g i) (thF n g b)=q):sel q (wr .i64 (Ai (plC n g b i) 1)) (plC n g b i)=plC n g b (toN (wr .i64 (Ai (ofNat i) 1))):=by
 have hc:=BI (λk=>ieq (thF n g k) (thF n g b)) i;rw [A5 hi (by omega)];show _=plC n g b (i+1);unfold plC;cases q with
 | true =>rw [Bz (p:=λk=>ieq (thF n g k) (thF n g b)) h,A5 (n:=b) (by omega) (by omega)];rfl
 | false =>rw [BL (p:=λk=>ieq (thF n g k) (thF n g b)) h];rfl
theorem An7 (L:LT) (A:Int) (n:Nat) (g:Nat->E6) (hn:n <= 16) {b:Nat} (hb:b<n):(A4 (BZf 2 L) Acg 4611686018427387905 (Aee A n g b 0 ())).sem=some (SX A n g b) :=
 AW (R:=exR) BG (S:=λc a _=>Aee A n g b c a) (j:=λ_=>.und) (g:=Ais n g b) (fin:=λ_=>SX A n g b) (e:=SX A n g b) (n:=b) (by omega)
  (λi a j r hi he=>DK.ok (L:=goR (λc a _=>Aee A n g b c a) exR i) (.k (ofNat_lt hi) <| .k (Ae (Nat.lt_trans hi hb)) <| .k (decide_eq_true (Nat.lt_trans hi hb)) <| .k (Ae hb) <| .k (decide_eq_true hb) <|
   .c (λh1=>.k h1 <| .e (congrArg (λp=>(Ex.nm,Aec A n g b (wr .i64 (Ai (ofNat i) 1)) p)) (AnN hi (by omega) h1))) λh1=>.k h1 <| .e (congrArg (λp=>(Ex.nm,Aec A n g b (wr .i64 (Ai (ofNat i) 1)) p)) (AnN hi (by omega) h1))) (by kernel_rfl) he)
  (λa j=>DK.ok (C:=.leaf (SX A n g b)) (L:=exR) (.k (Az (Nat.le_refl b)) .l) (by kernel_rfl) rfl) (Nat.zero_add _).symm (by omega)
  (Cv (acc:=λ_=>()) (λi _=>by unfold Ais; cases ieq (thF n g i) (thF n g b) <;> rfl) b 0 (Nat.zero_add b))
theorem TP {p:Nat->Bool} {n i:Nat} (hi:i<n) (hn:n <= 16) {q:Bool} (h:ile (ofNat (rN p n i)) (A8 p n i)=q):sel q (wr .i64 (Ai (A8 p n i) 1)) (ofNat (rN p n i))=ofNat (rN p n (i+1)):=by
 have h1:=NI p n i hi;have h2:=Uq p n i;rw [FZ hi,ile_nat] at h;rw [FZ hi,A5 (n:=n) (by omega) (by omega),rN];by_cases hl:Bg p n i<rN p n i
 ·rw [decide_eq_false (by omega)] at h
  rw [if_pos hl,<- h];rfl
 ·rw [decide_eq_true (by omega)] at h
  rw [if_neg hl,<- h,show rN p n i=Bg p n i by omega];rfl
theorem xZf (A:Int) {n:Nat} (g:Nat->E6) {i:Nat} (hi:i<n) (hn:n <= 16) {tt kk:Int} (h1:tt=ofNat (rN (obF g) n (i+1))) (h2:kk=ofNat (rN (mbF g) n (i+1))) :
  (Ex.nm,TZf A n g (wr .i64 (Ai (ofNat i) 1)) tt kk (BC i 1) (AX i (λq=>evV (upX n g i q)) (.agg [iV (thF n g i),iV (plC n g i i),iV (g i).src,iV (loF n g i),iV 0])) (AX i (λ_=>iV (-1)) (iV (-1))))=(Ex.nm,SZf A n g (wr .i64 (Ai (ofNat i) 1)) ()):=by
 have hx:=TM n g i;rw [show evV (evF n g (λ_=>false) i) = .agg [iV (thF n g i),iV (plC n g i i),iV (g i).src,iV (loF n g i),iV 0] by
  rw [Db hi];unfold plC plF;rw [show (λk=>ieq (thF n g k) (thF n g i))=λk=>ieq (thF n g i) (thF n g k) from funext λk=>Adb _ _];rfl] at hx
 rw [hx,Kt,h1,h2,A5 hi (by omega)];rfl
theorem rZf (A:Int) (n:Nat) (g:Nat->E6) (hn:n <= 16):(A4 (BZf 0 (Go.Sy.askL (ZJ n g))) Aoi 4611686018427387905 (SZf A n g 0 ())).sem=some (AgA A n g) :=
 AW (R:=exR) BG (S:=λc a _=>SZf A n g c a) (j:=λ_=>.und) (g:=gZf n g) (fin:=λ_=>AgA A n g) (e:=AgA A n g) (n:=n) (by omega)
  (λi a j r hi he=>DK.ok (L:=goR (λc a _=>SZf A n g c a) exR i) (.k (ofNat_lt hi) <| .k (Ae hi) <| .k (decide_eq_true hi) <| .k (Ae hi) <| .k (decide_eq_true hi) <| .k (Ae hi) <| .k (decide_eq_true hi) <| .k (eI (ofNat i)) <| .k (Ae hi) <| .k (eJ i) <| .k (decide_eq_true hi) <| .k (eI (thF n g i)) <| .k (eI (ofNat i)) <| .k (Ae hi) <| .r 2 (eJ i) <| .k (decide_eq_true hi) <| .k (eI (g i).src) <| .k (eI (ofNat i)) <| .k (Ae hi) <| .k (eJ i) <| .k (decide_eq_true hi) <| .k (eI (loF n g i)) <| .k (eI (thF n g i)) <| .k (eI 0) <| .k (eI (g i).src) <| .k (eI (loF n g i)) <| .k (eI 0) <| .k (eI (ofNat i)) <| .k (Ae hi) <| .k (eJ i) <| .k (decide_eq_true hi) <| .k (eI (thF n g i)) <| .k (eI (ofNat i)) <| .k (Ae hi) <| .r 2 (eJ i) <| .k (decide_eq_true hi) <| .k (eI (g i).src) <| .k (eI (ofNat i)) <| .k (Ae hi) <| .k (eJ i) <| .k (decide_eq_true hi) <| .k (eI (loF n g i)) <| .k (eI (thF n g i)) <| .k (eI 0) <| .k (eI (g i).src) <| .k (eI (loF n g i)) <| .k (eI 0) <| .a (An7 (Go.Sy.askL (ZJ n g)) A n g hn hi) <| .k (show C4 i 1 40=true from Hf (by omega)) <| .k (show C4 i 1 8=true from Hf (by omega)) <| .k (Ae hi) <| .k (decide_eq_true hi) <| .c (λh1=>.k h1 <| .k (Ae hi) <| .k (decide_eq_true hi) <| .k (Ae hi) <| .k (decide_eq_true hi) <| .c (λh2=>.k h2 <| .k (Ae hi) <| .k (decide_eq_true hi) <| .e (xZf A g hi hn (TP hi hn h1) (TP hi hn h2))) λh2=>.k h2 <| .e (xZf A g hi hn (TP hi hn h1) (TP hi hn h2))) λh1=>.k h1 <| .k (Ae hi) <| .k (decide_eq_true hi) <| .c (λh3=>.k h3 <| .k (Ae hi) <| .k (decide_eq_true hi) <| .e (xZf A g hi hn (TP hi hn h1) (TP hi hn h3))) λh3=>.k h3 <| .e (xZf A g hi hn (TP hi hn h1) (TP hi hn h3))) (by kernel_rfl) he)
  (λa j=>DK.ok (C:=.leaf (AgA A n g)) (L:=exR) (.k (Az (Nat.le_refl n)) .l) (by kernel_rfl) rfl) (Nat.zero_add _).symm (by omega)
  (Cv (acc:=λ_=>()) (λi _=>by unfold gZf; cases ile (ofNat (rN (obF g) n i)) (thF n g i) <;> cases ile (ofNat (rN (mbF g) n i)) (loF n g i) <;> rfl) n 0 (Nat.zero_add n))
theorem okC (n:Nat) (g:Nat->E6) (b:Nat):(Bo b λu=>Bo (lnR n g b u) λq=>okI (coR n g b u q))=true:=AO.2 λu hu=>AO.2 λq hq=>by
 unfold lnR at hq;unfold coR;rw [show Nat.blt u b=true from Nat.ble_eq_true_of_le hu] at hq ⊢;rw [show Nat.blt q (lnN (mbF g) (wrF g) n u)=true from Nat.ble_eq_true_of_le hq];rfl
theorem Ai8 {u b:Nat} (h:u ≠ b):Nat.blt u (b+1)=Nat.blt u b:=by
 rw [Bool.eq_iff_iff];simp only [Nat.blt_eq];omega
theorem Ame (A:Int) {n:Nat} {g:Nat->E6} (tt:Int) {i:Nat} (hi:i<kkN n g) :
  (hpX A n g (thF n g) (loF n g) tt 0 (λq=>evV (evF n g (dR n g i (Cq (mbF g) n (zN n g i))) q)) λq=>iV (rfF n g (dR n g i (Cq (mbF g) n (zN n g i))) q)).take 7++[.jag ⟨24,1,BC i 1,AX i Ab .und,0,3,1,λu=>sel (BY u i) true true,λu=>sel (BY u i) (wcN (wrF g) n (zN n g i) (Cq (mbF g) n (zN n g i))) (lnR n g i u),Eo (λu q=>coR n g i u q) i λq=>wvR n g i (Cq (mbF g) n (zN n g i)) q,none⟩]=hpE A n g tt (i+1):=by
 obtain ⟨z1,z2,z3⟩:=zk hi;have hd:=YH (H6 (mbF g) n) z1 z2;rw [show Bg (mbF g) n (zN n g i)=i from z3] at hd;rw [Kt,show dR n g i (Cq (mbF g) n (zN n g i))=dR n g (i+1) 0 from hd,show (λu=>sel (BY u i) true true)=λ_=>true from funext λu=>by cases BY u i <;> rfl,
  show (λu=>sel (BY u i) (wcN (wrF g) n (zN n g i) (Cq (mbF g) n (zN n g i))) (lnR n g i u))=lnR n g (i+1) from funext λu=>by
   unfold lnR;by_cases h:u=i
   ·subst h
    rw [show BY u u=true from Nat.beq_refl _,show Nat.blt u (u+1)=true from Nat.ble_eq_true_of_le (Nat.le_refl _)];rfl
   ·rw [show BY u i=false from nbeq_ne h,Ai8 h]
    rfl,
  show (Eo (λu q=>coR n g i u q) i λq=>wvR n g i (Cq (mbF g) n (zN n g i)) q)=λu q=>coR n g (i+1) u q from funext λu=>funext λq=>by
   unfold Eo;rw [Ec];unfold coR;by_cases h:u=i
   ·subst h
    rw [show BY u u=true from Nat.beq_refl _,show Nat.blt u (u+1)=true from Nat.ble_eq_true_of_le (Nat.le_refl _)];rfl
   ·rw [show BY u i=false from nbeq_ne h,Ai8 h]
    rfl]
 rfl
theorem An6 (L:LT) (A:Int) (n:Nat) (g:Nat->E6) (tt:Int) (hn:n <= 16):(A4 (BZf 4 L) W7 4611686018427387905 (YW A n g tt 0 ())).sem=some (Pp A n g tt):=by
 have hkn:kkN n g <= n:=BI _ _;exact AW (R:=exR) BG (S:=λc a _=>YW A n g tt c a) (j:=λ_=>.und) (g:=gGo) (fin:=λ_=>Pp A n g tt) (e:=Pp A n g tt) (n:=kkN n g) (by omega)
  (λi a j r hi he=>DK.ok (L:=goR (λc a _=>YW A n g tt c a) exR i) (.k (ofNat_lt hi) <| .k (eG [i]) <| .r 3 (eL n) <| .k (okC n g i) <| .k (eJ n) <| .k (show Au n=true from decide_eq_true (by omega)) <| .a (r56 hi hn A (thF n g) (loF n g) tt (vs4 A n g tt i) (by kernel_rfl) (by kernel_rfl)) <| .k eT <| .k (show C4 i 1 24=true from Hf (by omega)) <|
   .e (congrArg (λh=>(Ex.nm,YU (wr .i64 (Ai (ofNat i) 1)) h)) ((Ame A tt hi).trans (congrArg (hpE A n g tt) (show i+1=toN (wr .i64 (Ai (ofNat i) 1)) by rw [A5 hi (by omega)]; rfl))))) (by kernel_rfl) he)
  (λa j=>DK.ok (C:=.leaf (Pp A n g tt)) (L:=exR) (.k (Az (Nat.le_refl (kkN n g))) .l) (by kernel_rfl) rfl) (Nat.zero_add _).symm (by omega) (Adn _)
theorem Ai4 (n:Nat) (g:Nat->E6):dnF n g (loN n g) 0 0=λ_=>false:=by
 funext j;unfold dnF;rw [Ad5];simp
theorem AaC (n:Nat) (g:Nat->E6):upX n g n=evF n g (dnF n g (loN n g) 0 0):=by
 rw [Ai4,X0,Ad6]
def An5 (n:Nat) (g:Nat->E6):List Blk:=[.row 76 6 n (λi=>eV (g i)),.row 74 5 n (λi=>evV (evF n g (dR n g (kkN n g) 0) i)),.row 3 1 n (λi=>iV (rfF n g (dR n g (kkN n g) 0) i)),
 .jag ⟨24,1,kkN n g,λ_=>.und,0,3,1,λ_=>true,lnR n g (kkN n g),λk i=>coR n g (kkN n g) k i,none⟩]
theorem Afp {n:Nat} {g:Nat->E6} (hk:0<kkN n g):Aw (An5 n g) (VX n g):=by
 have hd:∀ i,i<n->dR n g (kkN n g) 0 i=true:=λi hi=>by
  show dnF n g (loN n g) (kkN n g) 0 i=true;unfold dnF;rw [decide_eq_true hi,Vn]
  ·rfl
  ·exact OY hi hk
 refine .cons (λ_ _=>rfl) (.cons (λi hi=>?_) (.cons (λi hi=>?_) (.consB (.jag (λ_ _=>.inr rfl) (λ_ _=>rfl) (λk hk'=>?_) (λk hk' q hq=>?_)) (.refl []))))
 ·rw [Db hi,Db hi,hd i hi]
 ·unfold rfF
  rw [hd i hi]
 ·have hk':k<kkN n g:=hk'
  show lnN _ _ n k=lnR n g (kkN n g) k;unfold lnR;rw [show Nat.blt k (kkN n g)=true from Nat.ble_eq_true_of_le hk'];rfl
 ·have hk':k<kkN n g:=hk'
  have hq:q<lnR n g (kkN n g) k:=hq;unfold lnR at hq;rw [show Nat.blt k (kkN n g)=true from Nat.ble_eq_true_of_le hk'] at hq;show iV _=coR n g (kkN n g) k q;unfold coR;rw [show Nat.blt k (kkN n g)=true from Nat.ble_eq_true_of_le hk',show Nat.blt q (lnN (mbF g) (wrF g) n k)=true from Nat.ble_eq_true_of_le hq];rfl
theorem Ao6 (L:LT) (A:Int) {n:Nat} {g:Nat->E6} (hy:IsCycle A n g):(A4 (BZf 4 L) W7 4611686018427387905 (YU 0 (kZf A n g n))).sem=some (Pp A n g (ofNat (ttN n g))):=by
 have h:=An6 L A n g (ofNat (ttN n g)) hy.hi;rw [show YW A n g (ofNat (ttN n g)) 0 ()=YU 0 (hpE A n g (ofNat (ttN n g)) 0) from rfl] at h;unfold hpE at h;rw [show dR n g 0 0=dnF n g (loN n g) 0 0 from rfl,<- AaC,Ai4] at h;unfold kZf;rw [show rN (obF g) n n=ttN n g from Sk hy.outer,show rN (mbF g) n n=kkN n g from Sk hy.moves];exact h
def CZf (A:Int) (n:Nat) (f:Nat->E6):AA:=.br (Dg n) (.br (ieq (Hw A n f) 0) (.leaf (.tup [VW A n (shG n f),iV 0,iV 0],An5 n (shG n f))) (.leaf (.tup [noV,iV (Hw A n f),iV (AlN A n f)],noH))) .fail
theorem p15:As Tryz.prog Gl 68 ofT:=by
 refine Am A0 mixed Tryz.func68 (by kernel_rfl) (by kernel_rfl) λvs v h' h=>?_;unfold ofT at h;split at h
 ·rename_i A u
  obtain ⟨n,f,ha,h1⟩:=CG h;obtain ⟨h8,hq⟩:=Ad h1;have m:=λ(hc:ieq (Hw A n f) 0=true)=>(EF (Bt hc)).may;have w:=show DK (λa=>a) (CZf A n f) _ from .k (eL n) <| .g λh8=>.k h8 <| .c (λhc=>.k (eN hc) <| .k (eL n) <| .k h8 <| .k (Vr.2 ⟨A,Bt hc⟩) <| .k (eL n) <| .k h8 <| .k (m hc) <| .k (EI (n:=n)) <| .k (eL n) <| .k h8 <| .k (m hc) <| .k (EI (n:=n)) <|
   .a (rZf A n (shG n f) (Bt hc).hi) <| .a (Ao6 (Go.Sy.askL (ZJ n (shG n f))) A (EF (Bt hc))) .l) λhc=>.k (eN hc) .l
  have R:=λr (h:(CZf A n f).sem=some r)=>DK.of (t:=Ay (Aj tab ⟨PN,Go.Sy.askL (ZJ n (shG n f)),Gl⟩ Tryz.f68 [iV A,AN n f] [])) h w (by kernel_rfl);unfold CZf at R;cases hc:ieq (Hw A n f) 0 with
  | true =>rw [hc] at hq;have:=Aa hq;simp only [Prod.mk.injEq] at this;obtain ⟨rfl,rfl⟩:=this;have hm:=(EF (Bt hc)).moves;exact ⟨_,⟨PN,Go.Sy.askL (ZJ n (shG n f)),Gl⟩,_,Xu ha,rfl,Rx,Ei _ _ _,R _ (by rw [h8,hc]; rfl),Afp (by show 0<Al (λk=>AG (shG n f k)) n; omega)⟩
  | false =>rw [hc] at hq;have:=Aa hq;simp only [Prod.mk.injEq] at this;obtain ⟨rfl,rfl⟩:=this;exact ⟨_,⟨PN,Go.Sy.askL (ZJ n (shG n f)),Gl⟩,_,Xu ha,rfl,Rx,Ei _ _ _,R _ (by rw [h8,hc]; rfl),Aw.refl _⟩
 ·cases h
end Go.Proofs.YtkbafjceglhjhaaGreatDoor.Sh
namespace Go.Proofs.YtkbafjceglhjhaaGreatDoor.Sh
open Go.Sy Ed
open Int (ofNat)
set_option maxHeartbeats 1000000
set_option maxRecDepth 4000
theorem C6 {n:Nat} (h:Au n=true):n <= 4611686018427387904:=of_decide_eq_true h
theorem EA {a b:Bool} (h:a=true):Ak a b=b:=by rw [h]; rfl
theorem band_f {a b:Bool} (h:a=false):Ak a b=false:=by rw [h]; rfl
theorem Ch {n m:Nat} (h:ieq (ofNat n) (ofNat m)=true):n=m:=by
 rw [Eg] at h;exact of_decide_eq_true h
def Et (n:Nat) (f:Nat->Int) (m:Nat) (g:Nat->Int):Bool:=Ak (ieq (ofNat n) (ofNat m)) (Bo n λk=>ieq (f k) (g k))
def Aot:Lp:=⟨bmK 26 0 [0,1,4,5],0,bmK 26 0 [4],0,4611686018427387905⟩
def S30 (n:Nat) (f:Nat->Int) (m:Nat) (g:Nat->Int) (c:Int) (_:Unit) (j:Nat->V):St:=⟨jsV 26 0 j [(0,.sl 1 n (λi=>iV (f i))),(1,.sl 1 m (λi=>iV (g i))),(4,bV false),(5,iV c)],[]⟩
noncomputable def B30 (L:LT):St->T (Ex×St):=λst=>AK tab ⟨A2 tb0,L,Gl⟩ (A3 Tryz.f148 0) 0 st
def Amj (_:Nat) (_:Nat->Int) (_:Nat) (_:Nat->Int) (_:Nat) (_:Unit):Ex×St:=(.rt,⟨jsV 26 0 Ab [(4,bV false)],[]⟩)
def g30 (n:Nat) (f:Nat->Int) (m:Nat) (g:Nat->Int) (i:Nat) (a:Unit):T ((Unit) ⊕ (Ex×St)):=.br (ieq (f i) (g i)) (.leaf (.inl ())) (.leaf (.inr (Amj n f m g i a)))
def AoX (_:Nat) (_:Nat->Int) (_:Nat) (_:Nat->Int) (_:Unit):Ex×St:=(.ex 0,⟨jsV 26 0 Ab [(4,bV false)],[]⟩)
theorem r30 (L:LT) (n:Nat) (f:Nat->Int) (m:Nat) (g:Nat->Int) (hm:n=m) (hn:n <= 4611686018427387904) {e:Ex×St} {a:Unit} {j:Nat->V} (h:Cm (g30 n f m g) (AoX n f m g) n 0 a=some e):(A4 (B30 L) Aot 4611686018427387905 (S30 n f m g 0 a j)).sem=some (exR e) :=
 AW BG hn (λi a j r hi h=>DK.ok (L:=goR (S30 n f m g) exR i) (.k (ofNat_lt hi) <| .k (Ae hi) <| .k (Ae (hm ▸ hi)) <| .c (λh1=>.k (eN h1) <| .l) λh1=>.k (eN h1) <| .l) (by kernel_rfl) h) (λa j=>DK.ok (C:=.leaf (AoX n f m g a)) (L:=exR) (.k (Az (Nat.le_refl n)) .l) (by kernel_rfl) rfl) (Nat.zero_add _).symm (Nat.lt_succ_of_le hn) h
def AfO:List (Nat×Lp×List (Nat×(Nat->V))):=[(0,Aot,[])]
def C30 (n:Nat) (f:Nat->Int) (m:Nat) (g:Nat->Int):AA:=.br (ieq (ofNat n) (ofNat m)) (.br (Bo n λk=>ieq (f k) (g k)) (.leaf ((bV true),[])) (.leaf ((bV false),[]))) (.leaf ((bV false),[]))
theorem Aho (n:Nat) (f:Nat->Int) (m:Nat) (g:Nat->Int):(C30 n f m g).sem=some (bV (Et n f m g),[]):=by
 unfold C30 Et;cases ieq (ofNat n) (ofNat m)
 ·rfl
 cases Bo n λk=>ieq (f k) (g k) <;> rfl
def IM:List V->AA
 | [v,u]=>apG Tp v λn f=>apG Tp u λm g=>.br (Au n) (.leaf (bV (Et n f m g),[])) .fail
 | _=>.fail
theorem p61:As Tryz.prog Gl 148 IM:=by
 refine Am A0 mixed Tryz.func148 (by kernel_rfl) (by kernel_rfl) λvs v h' h=>?_;unfold IM at h;split at h
 ·rename_i v1 u1
  obtain ⟨n,f,a1,h⟩:=Bv h;obtain ⟨m,g,a2,h⟩:=Bv h;obtain ⟨hn,h⟩:=Ad h;have:=Aa h;simp only [Prod.mk.injEq] at this;obtain ⟨rfl,rfl⟩:=this;have hn:=C6 hn;have w:DK (λa=>a) (C30 n f m g) _:=.c (λh1=>.k (eN h1) <| .c (λh2=>.a (r30 (askL AfO) n f m g (Ch h1) hn (j:=λ_=>.und) (PY (λ_ _=>rfl) h2)) <| .l) λh2=>.a (r30 (askL AfO) n f m g (Ch h1) hn (j:=λ_=>.und) (PZ (λ_ _=>rfl) h2)) <| .l) λh1=>.k (eN h1) <| .l
  have hx:=Bd C5 AfO (G:=Gl);exact ⟨_,cxA Gl tb0 AfO,_,(show Bw [v1,u1] [.sl 1 n (λi=>iV (f i)),.sl 1 m (λi=>iV (g i))] from λS w cs hv=>by
   obtain ⟨c,l,rfl,q1,c',l',rfl,q2,q3⟩:=hv;exact ⟨c,_,rfl,a1 S w c q1,c',l',rfl,a2 S w c' q2,q3⟩),rfl,hx.1,hx.2,DK.of (Aho n f m g) w (by kernel_rfl),Aw.refl _⟩
 ·cases h
def G1 (n:Nat) (ln:Nat->Nat) (co:Nat->Nat->Int) (m:Nat) (ln':Nat->Nat) (co':Nat->Nat->Int):Bool:=Ak (ieq (ofNat n) (ofNat m)) (Bo n λk=>Et (ln k) (co k) (ln' k) (co' k))
noncomputable def AjM:AE:=(148,IM)::[]
theorem AeE:Ar Tryz.prog Gl AjM:=.cons p61 .nil
def Aos:Lp:=⟨bmK 27 0 [0,1,4,5],0,bmK 27 0 [4],0,4611686018427387905⟩
def S31 (n:Nat) (C:Nat->Nat×(Nat->Int)) (m:Nat) (D:Nat->Nat×(Nat->Int)) (c:Int) (_:Unit) (j:Nat->V):St:=⟨jsV 27 0 j [(0,.sl 1 n (λu=>.sl 1 (C u).1 (λi=>iV ((C u).2 i)))),(1,.sl 1 m (λu=>.sl 1 (D u).1 (λi=>iV ((D u).2 i)))),(4,bV false),(5,iV c)],[]⟩
noncomputable def B31 (L:LT):St->T (Ex×St):=λst=>AK tab ⟨A2 AjM,L,Gl⟩ (A3 Tryz.f149 0) 0 st
def Ami (_:Nat) (_:Nat->Nat×(Nat->Int)) (_:Nat) (_:Nat->Nat×(Nat->Int)) (_:Nat) (_:Unit):Ex×St:=(.rt,⟨jsV 27 0 Ab [(4,bV false)],[]⟩)
def g31 (n:Nat) (C:Nat->Nat×(Nat->Int)) (m:Nat) (D:Nat->Nat×(Nat->Int)) (i:Nat) (a:Unit):T ((Unit) ⊕ (Ex×St)):=.br (Et (C i).1 (C i).2 (D i).1 (D i).2) (.leaf (.inl ())) (.leaf (.inr (Ami n C m D i a)))
def AoW (_:Nat) (_:Nat->Nat×(Nat->Int)) (_:Nat) (_:Nat->Nat×(Nat->Int)) (_:Unit):Ex×St:=(.ex 0,⟨jsV 27 0 Ab [(4,bV false)],[]⟩)
theorem r31 (L:LT) (n:Nat) (C:Nat->Nat×(Nat->Int)) (m:Nat) (D:Nat->Nat×(Nat->Int)) (hm:n=m) (hs:(Bo n λk=>Au (C k).1)=true) (hn:n <= 4611686018427387904) {e:Ex×St} {a:Unit} {j:Nat->V} (h:Cm (g31 n C m D) (AoW n C m D) n 0 a=some e):(A4 (B31 L) Aos 4611686018427387905 (S31 n C m D 0 a j)).sem=some (exR e) :=
 AW BG hn (λi a j r hi h=>DK.ok (L:=goR (S31 n C m D) exR i) (.k (ofNat_lt hi) <| .k (Ae hi) <| .k (Ae (hm ▸ hi)) <| .k (eL (C i).1) <| .k (eL (D i).1) <| .k (AO.1 hs i hi) <| .c (λh1=>.k (eN h1) <| .l) λh1=>.k (eN h1) <| .l) (by kernel_rfl) h) (λa j=>DK.ok (C:=.leaf (AoW n C m D a)) (L:=exR) (.k (Az (Nat.le_refl n)) .l) (by kernel_rfl) rfl) (Nat.zero_add _).symm (Nat.lt_succ_of_le hn) h
def AfN:List (Nat×Lp×List (Nat×(Nat->V))):=[(0,Aos,[])]
def C31 (n:Nat) (C:Nat->Nat×(Nat->Int)) (m:Nat) (D:Nat->Nat×(Nat->Int)):AA:=.br (ieq (ofNat n) (ofNat m)) (.br (Bo n λk=>Et (C k).1 (C k).2 (D k).1 (D k).2) (.leaf ((bV true),[])) (.leaf ((bV false),[]))) (.leaf ((bV false),[]))
theorem Ahn (n:Nat) (C:Nat->Nat×(Nat->Int)) (m:Nat) (D:Nat->Nat×(Nat->Int)):(C31 n C m D).sem=some (bV (G1 n (λi=>(C i).1) (λi=>(C i).2) m (λi=>(D i).1) (λi=>(D i).2)),[]):=by
 unfold C31 G1;cases ieq (ofNat n) (ofNat m)
 ·rfl
 cases Bo n λk=>Et (C k).1 (C k).2 (D k).1 (D k).2 <;> rfl
def Wd:List V->AA
 | [v,u]=>apG codJ v λn C=>apG codJ u λm D=>.br (Au n) (.br (Bo n λi=>Au (C i).1) (.leaf (bV (G1 n (λi=>(C i).1) (λi=>(C i).2) m (λi=>(D i).1) (λi=>(D i).2)),[])) .fail) .fail
 | _=>.fail
theorem p62:As Tryz.prog Gl 149 Wd:=by
 refine Am A0 mixed Tryz.func149 (by kernel_rfl) (by kernel_rfl) λvs v h' h=>?_;unfold Wd at h;split at h
 ·rename_i v1 u1
  obtain ⟨n,C,a1,h⟩:=Bv h;obtain ⟨m,D,a2,h⟩:=Bv h;obtain ⟨hn,h⟩:=Ad h;obtain ⟨hs,h⟩:=Ad h;have:=Aa h;simp only [Prod.mk.injEq] at this;obtain ⟨rfl,rfl⟩:=this;have w:DK (λa=>a) (C31 n C m D) _:=.c (λh1=>.k (eN h1) <| .c (λh2=>.a (r31 (askL AfN) n C m D (Ch h1) hs (C6 hn) (j:=λ_=>.und) (PY (λ_ _=>rfl) h2)) <| .l) λh2=>.a (r31 (askL AfN) n C m D (Ch h1) hs (C6 hn) (j:=λ_=>.und) (PZ (λ_ _=>rfl) h2)) <| .l) λh1=>.k (eN h1) <| .l
  have hx:=Bd AeE AfN (G:=Gl);exact ⟨_,cxA Gl AjM AfN,_,(show Bw [v1,u1] [.sl 1 n (λu=>.sl 1 (C u).1 (λi=>iV ((C u).2 i))),.sl 1 m (λu=>.sl 1 (D u).1 (λi=>iV ((D u).2 i)))] from λS w cs hv=>by
   obtain ⟨c,l,rfl,q1,c',l',rfl,q2,q3⟩:=hv;exact ⟨c,_,rfl,a1 S w c q1,c',l',rfl,a2 S w c' q2,q3⟩),rfl,hx.1,hx.2,DK.of (Ahn n C m D) w (by kernel_rfl),Aw.refl _⟩
 ·cases h
def I3 (e e':Ev5):Bool:=Ak (ieq e.th e'.th) (Ak (ieq e.pl e'.pl) (Ak (ieq e.dir e'.dir) (Ak (ieq e.loc e'.loc) (Ak (ieq e.val e'.val) true))))
noncomputable def tb16:AE:=(43,Uj)::(148,IM)::(149,Wd)::[]
theorem tb16_ok:Ar Tryz.prog Gl tb16:=.cons p42 <| .cons p61 <| .cons p62 .nil
def IK (s s':Sh7):Bool:=Ak (ieq s.arch s'.arch) (Ak (ieq s.tt s'.tt) (Ak (ieq s.kk s'.kk) (Ak (EH s.ne s.E s'.ne s'.E) (Ak (ieq (ofNat s.nx) (ofNat s'.nx)) (Ak (Et s.nr s.R s'.nr s'.R)
 (Ak (G1 s.nc (λi=>(s.C i).1) (λi=>(s.C i).2) s'.nc (λi=>(s'.C i).1) (λi=>(s'.C i).2)) (Bo s.nx λk=>I3 (s.X k) (s'.X k))))))))
def Kp (s:Sh7):Bool:=Ak (Au s.ne) (Ak (Au s.nx) (Ak (Au s.nr) (Ak (Au s.nc) (Bo s.nc λi=>Au (s.C i).1))))
def lp9:Lp:=⟨bmK 76 0 [2,3,4,5],2,bmK 76 0 [4],0,4611686018427387905⟩
def S9 (s s':Sh7) (c:Int) (_:Unit) (j:Nat->V):St:=⟨jsV 76 0 j [(2,.ptr 0 0),(3,.ptr 1 0),(4,bV false),(5,iV c)],[.cells [iV s.arch,.sl 6 s.ne (λi=>eV (s.E i)),.sl 5 s.nx (λi=>evV (s.X i)),iV s.tt,iV s.kk,.sl 1 s.nr (λi=>iV (s.R i)),.sl 1 s.nc (λu=>.sl 1 (s.C u).1 (λi=>iV ((s.C u).2 i)))],.cells [iV s'.arch,.sl 6 s'.ne (λi=>eV (s'.E i)),.sl 5 s'.nx (λi=>evV (s'.X i)),iV s'.tt,iV s'.kk,.sl 1 s'.nr (λi=>iV (s'.R i)),.sl 1 s'.nc (λu=>.sl 1 (s'.C u).1 (λi=>iV ((s'.C u).2 i)))]]⟩
noncomputable def B9 (L:LT):St->T (Ex×St):=λst=>AK tab ⟨A2 tb16,L,Gl⟩ (A3 Tryz.f102 0) 0 st
def ApH (_ _:Sh7) (_:Nat) (_:Unit):Ex×St:=(.rt,⟨jsV 76 0 Ab [(4,bV false)],[]⟩)
def g9 (s s':Sh7) (i:Nat) (a:Unit):T ((Unit) ⊕ (Ex×St)):=.br (Ak (ieq (s.X i).th (s'.X i).th) (Ak (ieq (s.X i).pl (s'.X i).pl) (Ak (ieq (s.X i).dir (s'.X i).dir) (Ak (ieq (s.X i).loc (s'.X i).loc) (Ak (ieq (s.X i).val (s'.X i).val) true))))) (.leaf (.inl ())) (.leaf (.inr (ApH s s' i a)))
def fn9 (_ _:Sh7) (_:Unit):Ex×St:=(.ex 0,⟨jsV 76 0 Ab [(4,bV false)],[]⟩)
theorem r9 (L:LT) (s s':Sh7) (hm:s.nx=s'.nx) (hn:s.nx <= 4611686018427387904) {e:Ex×St} {a:Unit} {j:Nat->V} (h:Cm (g9 s s') (fn9 s s') s.nx 0 a=some e):(A4 (B9 L) lp9 4611686018427387905 (S9 s s' 0 a j)).sem=some (exR e) :=
 AW BG hn (λi a j r hi h=>DK.ok (L:=goR (S9 s s') exR i) (.k (ofNat_lt hi) <| .k (Ae hi) <| .k (Ae (hm ▸ hi)) <| .c (λh1=>.k (eN h1) <| .l) λh1=>.k (eN h1) <| .l) (by kernel_rfl) h) (λa j=>DK.ok (C:=.leaf (fn9 s s' a)) (L:=exR) (.k (Az (Nat.le_refl s.nx)) .l) (by kernel_rfl) rfl) (Nat.zero_add _).symm (Nat.lt_succ_of_le hn) h
def ls9:List (Nat×Lp×List (Nat×(Nat->V))):=[(0,lp9,[])]
def C9 (s s':Sh7):AA:=.br (ieq s.arch s'.arch) (.br (ieq s.tt s'.tt) (.br (ieq s.kk s'.kk) (.br (EH s.ne (λi=>s.E i) s'.ne (λi=>s'.E i)) (.br (ieq (ofNat s.nx) (ofNat s'.nx)) (.br (Et s.nr s.R s'.nr s'.R) (.br (G1 s.nc (λi=>(s.C i).1) (λi i_1=>(s.C i).2 i_1) s'.nc (λi=>(s'.C i).1) (λi i_1=>(s'.C i).2 i_1)) (.br (Bo s.nx λk=>I3 (s.X k) (s'.X k)) (.leaf ((bV true),[])) (.leaf ((bV false),[]))) (.leaf ((bV false),[]))) (.leaf ((bV false),[]))) (.leaf ((bV false),[]))) (.leaf ((bV false),[]))) (.leaf ((bV false),[]))) (.leaf ((bV false),[]))) (.leaf ((bV false),[]))
theorem Amb (s s':Sh7):(C9 s s').sem=some (bV (IK s s'),[]):=by
 unfold C9 IK;cases ieq s.arch s'.arch
 ·rfl
 cases ieq s.tt s'.tt
 ·rfl
 cases ieq s.kk s'.kk
 ·rfl
 cases EH s.ne s.E s'.ne s'.E
 ·rfl
 cases ieq (ofNat s.nx) (ofNat s'.nx)
 ·rfl
 cases Et s.nr s.R s'.nr s'.R
 ·rfl
 cases G1 s.nc (λi=>(s.C i).1) (λi=>(s.C i).2) s'.nc (λi=>(s'.C i).1) (λi=>(s'.C i).2)
 ·rfl
 cases Bo s.nx λk=>I3 (s.X k) (s'.X k) <;> rfl
def Kr:List V->AA
 | [v,u]=>apS v λs=>apS u λs'=>.br (Kp s) (.leaf (bV (IK s s'),[])) .fail
 | _=>.fail
theorem p16:As Tryz.prog Gl 102 Kr:=by
 refine Am A0 mixed Tryz.func102 (by kernel_rfl) (by kernel_rfl) λvs v h' h=>?_;unfold Kr at h;split at h
 ·rename_i v1 u1
  obtain ⟨s,a1,h⟩:=apS_some h;obtain ⟨s',a2,h⟩:=apS_some h;obtain ⟨hn,h⟩:=Ad h;have:=Aa h;simp only [Prod.mk.injEq] at this;obtain ⟨rfl,rfl⟩:=this;have hn:Au s.ne=true∧Au s.nx=true∧Au s.nr=true∧Au s.nc=true∧(Bo s.nc λi=>Au (s.C i).1)=true:=by simpa [Kp,Ak] using hn
  obtain ⟨n1,n2,n3,n4,n5⟩:=hn;have w:DK (λa=>a) (C9 s s') _:=.c (λh1=>.r 6 (eN h1) <| .c (λh2=>.r 6 (eN h2) <| .c (λh3=>.r 5 (eN h3) <| .k (eL s.ne) <| .k (eL s'.ne) <| .k n1 <| .r 2 (eN h3) <| .c (λh4=>.r 8 (eN h4) <| .c (λh5=>.r 5 (eN h5) <| .k (eL s.nr) <| .k (eL s'.nr) <| .k n3 <| .r 2 (eN h5) <| .c (λh6=>.r 5 (eN h6) <| .k (eL2 s.nc s.C) <| .k (eL2 s'.nc s'.C) <| .k n4 <| .k n5 <| .r 2 (eN h6) <| .c (λh7=>.k (eN h7) <| .c (λh8=>.a (r9 (askL ls9) s s' (Ch h5) (C6 n2) (j:=λ_=>.und) (PY (λ_ _=>rfl) h8)) <| .l) λh8=>.a (r9 (askL ls9) s s' (Ch h5) (C6 n2) (j:=λ_=>.und) (PZ (λ_ _=>rfl) h8)) <| .l) λh7=>.k (eN h7) <| .l) λh6=>.r 7 (eN h6) <| .k eT <| .l) λh5=>.r 7 (eN h5) <| .r 8 eT <| .l) λh4=>.r 8 (eN h4) <| .r 15 eT <| .l) λh3=>.r 7 (eN h3) <| .r 23 eT <| .l) λh2=>.r 6 (eN h2) <| .r 30 eT <| .l) λh1=>.r 6 (eN h1) <| .r 36 eT <| .l
  have hx:=Bd tb16_ok ls9 (G:=Gl);exact ⟨_,cxA Gl tb16 ls9,_,(show Bw [v1,u1] [E2 s,E2 s'] from λS w cs hv=>by
   obtain ⟨c,l,rfl,q1,c',l',rfl,q2,q3⟩:=hv;exact ⟨c,_,rfl,a1 S w c q1,c',l',rfl,a2 S w c' q2,q3⟩),rfl,hx.1,hx.2,DK.of (Amb s s') w (by kernel_rfl),Aw.refl _⟩
 ·cases h
end Go.Proofs.YtkbafjceglhjhaaGreatDoor.Sh
namespace Go.Proofs.YtkbafjceglhjhaaGreatDoor.Ed
open Go.Sy Go
def Hx (c:UInt8):Bool:=c == 32 || c == 9 || c == 10 || c == 13
def Fj (x:Int):Bool:=bor (ieq x 32) (bor (ieq x 9) (bor (ieq x 10) (ieq x 13)))
theorem NX (c:UInt8) (n:Nat) (hn:n<256):ieq ((c.toNat:Nat):Int) (n:Int)=(c == UInt8.ofNat n):=by
 rw [Bool.eq_iff_iff];simp only [ieq,beq_iff_eq];constructor
 ·intro h
  apply UInt8.toNat_inj.1;rw [UInt8.toNat_ofNat_of_lt' (by simpa using hn)];omega
 ·intro h
  rw [h,UInt8.toNat_ofNat_of_lt' (by simpa using hn)]
theorem AdV (c:UInt8):Fj ((c.toNat:Nat):Int)=Hx c:=by
 unfold Fj Hx bor;have h1:=NX c 32 (by decide);have h2:=NX c 9 (by decide);have h3:=NX c 10 (by decide);have h4:=NX c 13 (by decide);have h1:ieq ((c.toNat:Nat):Int) 32=(c == 32):=h1;have h2:ieq ((c.toNat:Nat):Int) 9=(c == 9):=h2;have h3:ieq ((c.toNat:Nat):Int) 10=(c == 10):=h3;have h4:ieq ((c.toNat:Nat):Int) 13=(c == 13):=h4;rw [h1,h2,h3,h4];cases (c == 32) <;> cases (c == 9) <;> cases (c == 10) <;> rfl
def BM (l:List UInt8):List UInt8:=l.takeWhile λc=>!Hx c
def Dk:Nat->List UInt8->Nat->List E6->List E6×Int×Nat
 | 0,_,_,acc=>(acc,0,0)
 | _+1,[],_,acc=>(acc,0,0)
 | q+1,c::l,a,acc =>
  if Hx c=true then Dk q l (a+1) acc
  else if FN (BM (c::l))=0 then Dk q ((c::l).drop (BM (c::l)).length) (a+(BM (c::l)).length) (acc++[FO (BM (c::l))])
  else ([],30,a)
theorem Uz {b:UInt8} (hb:Hx b=true) (l:List UInt8) (q a:Nat) (acc:List E6):Dk (q+1) (b::l) a acc=Dk q l (a+1) acc:=by
 rw [Dk,if_pos hb]
theorem Aa6 (l:List UInt8):(BM l).length <= l.length:=by
 induction l with
 | nil=>exact Nat.le_refl _
 | cons c l ih =>
  unfold BM at ih ⊢;cases hc:Hx c with
  | true=>rw [List.takeWhile_cons_of_neg (by simp [hc])]; exact Nat.zero_le _
  | false =>rw [List.takeWhile_cons_of_pos (by simp [hc])];simp only [List.length_cons];omega
section
variable (L:LT) (x:Int)
include L x
theorem Ahu (h0:ieq x 32=true):(Ay (Aj tab ⟨A2 tb0,L,Gl⟩ Tryz.f105 [.val (.int .u8 x)] [])).sem=some ((bV true),[]):=by
 exact Af (ks:=[kn h0,kn h0,kn h0,kT,kT,kT,kT,kT,kT]) (by kernel_rfl)
theorem Aht (h0:ieq x 32=false) (h1:ieq x 9=true):(Ay (Aj tab ⟨A2 tb0,L,Gl⟩ Tryz.f105 [.val (.int .u8 x)] [])).sem=some ((bV true),[]):=by
 exact Af (ks:=[kn h0,kn h0,kn h0,kn h1,kn h1,kn h1,kT,kT,kT]) (by kernel_rfl)
theorem Ahs (h0:ieq x 32=false) (h1:ieq x 9=false) (h2:ieq x 10=true):(Ay (Aj tab ⟨A2 tb0,L,Gl⟩ Tryz.f105 [.val (.int .u8 x)] [])).sem=some ((bV true),[]):=by
 exact Af (ks:=[kn h0,kn h0,kn h0,kn h1,kn h1,kn h1,kn h2,kn h2,kn h2]) (by kernel_rfl)
theorem Ahr (h0:ieq x 32=false) (h1:ieq x 9=false) (h2:ieq x 10=false):(Ay (Aj tab ⟨A2 tb0,L,Gl⟩ Tryz.f105 [.val (.int .u8 x)] [])).sem=some ((bV (ieq x 13)),[]):=by
 exact Af (ks:=[kn h0,kn h0,kn h0,kn h1,kn h1,kn h1,kn h2,kn h2,kn h2]) (by kernel_rfl)
end
def PR:List V->AA
 | [.val (.int .u8 x)]=>out (bV (Fj x))
 | _=>.fail
theorem p83:As Tryz.prog Gl 105 PR:=by
 refine Am A0 mixed Tryz.func105 (by kernel_rfl) (by kernel_rfl) λvs v h' h=>?_;unfold PR at h;split at h
 ·rename_i x
  have:=Aa h;simp only [Prod.mk.injEq] at this;obtain ⟨rfl,rfl⟩:=this;have hx:=Bs C5 [];refine ⟨_,AT Gl tb0 [],_,Bw.refl _,rfl,hx.1,hx.2,?_,Aw.refl _⟩;unfold Fj;cases c1:ieq x 32 with
  | true=>exact Ahu _ x c1
  | false =>
   cases c2:ieq x 9 with
   | true=>exact Aht _ x c1 c2
   | false =>
    cases c3:ieq x 10 with
    | true=>exact Ahs _ x c1 c2 c3
    | false=>exact Ahr _ x c1 c2 c3
 ·cases h
theorem Ag7 {α:Type} {l:List α} {i:Nat} {d:α} (h:i<l.length):l.getD i d=l[i]:=by simp [List.getD,h]
theorem Gk {s:List UInt8} {a:Nat} (h:a<s.length):s.drop a=s[a]::s.drop (a+1):=List.drop_eq_getElem_cons h
theorem NE {s:List UInt8} {a:Nat} (h:a<s.length):Fj (N4 s a)=Hx s[a]:=by
 unfold N4;rw [Ag7 h];exact AdV _
def MA (l:List E6) (i:Nat):E6:=l.getD i Gq
theorem UU {l:List E6} {e:E6} {i:Nat} (h:i<l.length+1):MA (l++[e]) i=if i=l.length then e else MA l i:=by
 unfold MA;by_cases hi:i=l.length
 ·rw [if_pos hi,hi]; simp
 ·rw [if_neg hi]
  simp only [List.getD,List.getElem?_append_left (show i<l.length by omega)]
def Fe (acc:List E6):Nat->V:=Ck (λi=>eV (MA acc i)) acc.length
theorem Ni {g g':Nat->V}:∀ n,(∀ i,i<n->g i=g' i)->Ck g n=Ck g' n
 | 0,_=>rfl
 | n+1,h=>by
  show AX n (Ck g n) (g n)=AX n (Ck g' n) (g' n);rw [h n (Nat.lt_succ_self n),Ni n λi hi=>h i (by omega)]
theorem Zy (acc:List E6) (e:E6):AX acc.length (Fe acc) (eV e)=Fe (acc++[e]):=by
 have h1:Fe (acc++[e])=Ck (λi=>eV (MA (acc++[e]) i)) (acc.length+1):=by
  unfold Fe;rw [List.length_append];rfl
 rw [h1];show _=AX acc.length (Ck (λi=>eV (MA (acc++[e]) i)) acc.length) (eV (MA (acc++[e]) acc.length));rw [UU (Nat.lt_succ_self _),if_pos rfl];unfold Fe;rw [Ni (g:=λi=>eV (MA (acc++[e]) i)) (g':=λi=>eV (MA acc i)) acc.length λi hi=>by
  show eV (MA (acc++[e]) i)=eV (MA acc i);rw [UU (by omega),if_neg (by omega)]]
def JY:Nat->List UInt8->List E6->List E6×E6
 | 0,_,acc=>(acc,Gq)
 | _+1,[],acc=>(acc,Gq)
 | q+1,c::l,acc =>
  if Hx c=true then JY q l acc
  else if FN (BM (c::l))=0 then JY q ((c::l).drop (BM (c::l)).length) (acc++[FO (BM (c::l))])
  else (acc,FO (BM (c::l)))
def AdW (s:List UInt8):Bool:=ilt 262144 (Int.ofNat (Cl s))
def psR (s:List UInt8):List E6×Int×Nat:=Dk (s.length+1) s 0 []
def psL (s:List UInt8):List E6:=bif AdW s then [] else (psR s).1
def psE (s:List UInt8):Int:=bif AdW s then 2 else (psR s).2.1
def psI (s:List UInt8):Int:=bif AdW s then 0 else Int.ofNat (psR s).2.2
def psN (s:List UInt8):Nat:=(psL s).length
def psG (s:List UInt8) (i:Nat):E6:=MA (psL s) i
def psT:List V->AA
 | [.str s]=>.leaf (.tup [.ref 0,iV (psE s),iV (psI s)],[.row 76 6 (psN s) λi=>eV (psG s i)])
 | _=>.fail
theorem OB:∀ (q:Nat) (l:List UInt8) (a:Nat) (acc:List E6),(Dk q l a acc).2.1=0->(Dk q l a acc).2.2=0
 | 0,_,_,_,_=>rfl
 | q+1,[],_,_,_=>rfl
 | q+1,c::l,a,acc,h=>by
  rw [Dk] at h ⊢;split
  ·rename_i hc
   rw [if_pos hc] at h;exact OB q _ _ _ h
  ·rename_i hc
   rw [if_neg hc] at h;split
   ·rename_i hp
    rw [if_pos hp] at h;exact OB q _ _ _ h
   ·rename_i hp
    rw [if_neg hp] at h;cases h
theorem Al4 {L:LT} (hL:LLe L L) (k:Nat) (r:Ex×St):LLe (onP k (isP L k r) r L) (onP k (isP L k r) r L):=λid f f' st hf r' hr=>by
 unfold onP at hr ⊢;cases hk:Nat.beq id k with
 | true =>rw [hk] at hr;obtain ⟨h1,h2⟩:=Ad hr;unfold isP at h1;have h1:=@of_decide_eq_true _ (Classical.propDecidable _) h1;have h3:isP L k r f' st=true:=AB (hL k f f' st hf _ h1);show sel (isP L k r f' st) _ _=_;rw [h3];exact h2
 | false =>rw [hk] at hr;exact hL id f f' st hf _ hr
end Go.Proofs.YtkbafjceglhjhaaGreatDoor.Ed
