/-
  Layer 7: the document's shape of a cycle, as derivations. No conditions.
-/
import Derived.Test.YtkbafjceglhjhaaGreatDoorShE
import Derived.Test.YtkbafjceglhjhaaGreatDoorShB
import Derived.Test.YtkbafjceglhjhaaGreatDoorCyT
namespace Go.Proofs.YtkbafjceglhjhaaGreatDoor.Sh
open Go.Sy Ed
open Int (ofNat)
set_option maxHeartbeats 1000000
set_option maxRecDepth 100000
def Ae2:List V->A3:=H5 λn f=>.br (CU n) (.br (Es n f) (.leaf (.tup [.ref 0,iV 0],[.row 3 1 n λk=>iV (A7 (λk=>A4 (f k)) n k)])) .fail) .fail
def Ae1:List V->A3:=H5 λn f=>.br (CU n) (.br (Es n f) (.leaf (.tup [.ref 0,iV 0],[.row 3 1 n λk=>iV (A7 (λk=>AB (f k)) n k)])) .fail) .fail
theorem p57:An Tryz.prog Gl 109 Ae2:=An.congr Ed.p53 λvs r h=>by
 obtain ⟨v,rfl⟩:∃ v,vs=[v]:=by
  unfold Ae2 H5 at h;split at h
  ·exact ⟨_,rfl⟩
  ·cases h
 unfold Ae2 H5 at h;unfold K1 H5;dsimp only at h ⊢;unfold apL at h ⊢;split at h
 ·rename_i n g hg
  obtain ⟨h1,h⟩:=Ac h;dsimp only at h;obtain ⟨h2,h⟩:=Ac h;obtain ⟨h3,h⟩:=Ac h;rw [h1];dsimp only;rw [h2,h3];exact h
 ·cases h
theorem p58:An Tryz.prog Gl 110 Ae1:=An.congr Ed.p54 λvs r h=>by
 obtain ⟨v,rfl⟩:∃ v,vs=[v]:=by
  unfold Ae1 H5 at h;split at h
  ·exact ⟨_,rfl⟩
  ·cases h
 unfold Ae1 H5 at h;unfold K1 H5;dsimp only at h ⊢;unfold apL at h ⊢;split at h
 ·rename_i n g hg
  obtain ⟨h1,h⟩:=Ac h;dsimp only at h;obtain ⟨h2,h⟩:=Ac h;obtain ⟨h3,h⟩:=Ac h;rw [h1];dsimp only;rw [h2,h3];exact h
 ·cases h
noncomputable def Alu:A9:=(107,U4)::(108,Ac7)::(109,Ae2)::(110,Ae1)::[]
theorem AdS:Ao Tryz.prog Gl Alu:=.cons p49 <| .cons p56 <| .cons p57 <| .cons p58 .nil
noncomputable def OY:FuncId->List V->St->T (V×Res):=JC [(111,ML tab (cxA Gl Ai0 AeK) Tryz.f111)] (Ax Alu)
theorem QE:Bj Tryz.prog ⟨OY,Gl⟩:=Gm mixed (.cons rfl A2 (AU WG AeK).1 (AU WG AeK).2 Tryz.func111 (by kernel_rfl) (by kernel_rfl) .nil) (E7 rfl AdS)
theorem ile_nat (a b:Nat):ile (ofNat a) (ofNat b)=decide (a <= b):=by
 unfold ile;rw [Bool.eq_iff_iff];simp
theorem AbZ (a b:Int):ieq a b=ieq b a:=by
 unfold ieq;rw [Bool.eq_iff_iff];simp only [beq_iff_eq];exact eq_comm
def plC (n:Nat) (g:Nat->E6) (b i:Nat):Int:=ofNat (Ak (λk=>ieq (thF n g k) (thF n g b)) i)
section
variable (A:Int) (n:Nat) (g:Nat->E6)
def jZf (c:Int) (l:List (Nat×V)):List V:=jsV 132 0 Ab ((4,.ptr 0 0)::(9,.ref 1)::(10,nV n)::(11,.ref 2)::(13,.ref 3)::(15,.ptr 4 0)::(16,iV c)::l)
def hZf (tt kk:Int) (b:Nat) (x r:Nat->V):List Blk:=[.cells [iV 0,.nilS,.nilS,iV 0,iV 0,.nilS,.nilS],.row 76 6 n (λi=>eV (g i)),.row 3 1 n (λi=>iV (thF n g i)),.row 3 1 n (λi=>iV (loF n g i)),.cells [iV A,.ref 1,.ref 5,iV tt,iV kk,.ref 6,.jref 7],.row 74 5 b x,.row 3 1 b r,jE]
def kZf (b:Nat):List Blk:=hZf A n g (ofNat (rN (obF g) n b)) (ofNat (rN (mbF g) n b)) b (λq=>evV (upX n g b q)) (λ_=>iV (-1))
def SZf (c:Int) (_:Unit):St:=⟨jZf n c [],kZf A n g (toN c)⟩
def TZf (c tt kk:Int) (b:Nat) (x r:Nat->V):St:=⟨jZf n c [],hZf A n g tt kk b x r⟩
def AfF:Ex×St:=(.ex 0,⟨jsV 132 0 Ab [(4,.ptr 0 0),(15,.ptr 4 0)],kZf A n g n⟩)
def gZf (i:Nat) (_:Unit):T (Unit ⊕ (Ex×St)):=.br (ile (ofNat (rN (obF g) n i)) (thF n g i)) (.br (ile (ofNat (rN (mbF g) n i)) (loF n g i)) (.leaf (.inl ())) (.leaf (.inl ()))) (.br (ile (ofNat (rN (mbF g) n i)) (loF n g i)) (.leaf (.inl ())) (.leaf (.inl ())))
variable (b:Nat)
def Ada (c p:Int):St:=⟨jZf n (ofNat b) [(17,.ptr 8 0),(18,iV c)],kZf A n g b++[.cells [iV (thF n g b),iV p,iV (g b).src,iV (loF n g b),iV 0]]⟩
def Adh (c:Int) (_:Unit):St:=Ada A n g b c (plC n g b (toN c))
def RY:Ex×St:=(.ex 2,⟨jZf n (ofNat b) [(17,.ptr 8 0)],kZf A n g b++[.cells [iV (thF n g b),iV (plC n g b b),iV (g b).src,iV (loF n g b),iV 0]]⟩)
def Ahl (i:Nat) (_:Unit):T (Unit ⊕ (Ex×St)):=.br (ieq (thF n g i) (thF n g b)) (.leaf (.inl ())) (.leaf (.inl ()))
def hpE (tt:Int) (k:Nat):List Blk:=hpX A n g (thF n g) (loF n g) tt k (λi=>evV (evF n g (dR n g k 0) i)) λi=>iV (rfF n g (dR n g k 0) i)
def XZ (c:Int) (h:List Blk):St:=⟨jsV 132 0 Ab [(4,.ptr 0 0),(15,.ptr 4 0),(19,iV c)],h⟩
def Yb (tt c:Int) (_:Unit):St:=XZ c (hpE A n g tt (toN c))
def OA (tt:Int):Ex×St:=(.ex 4,⟨jsV 132 0 Ab [(4,.ptr 0 0),(15,.ptr 4 0)],hpE A n g tt (kkN n g)⟩)
def vs4 (tt:Int) (i:Nat):List V:=jsV 132 0 Ab [(4,.ptr 0 0),(15,.ptr 4 0),(19,nV i),(122,nV i),(123,.ptr 4 4),(124,iV (ofNat (kkN n g))),(125,bV (ilt (ofNat i) (ofNat (kkN n g)))),(128,.agg [iV A,.ref 1,.ref 5,iV tt,iV (ofNat (kkN n g)),.ref 6,.jref 7]),(129,nV i)]
end
def AmS:Lp:=⟨bmK 132 0 [4,9,10,11,13,15,16],8,bmK 132 0 [4,15],8,4611686018427387905⟩
def Abd:Lp:=⟨bmK 132 0 [4,9,10,11,13,15,16,17,18],9,bmK 132 0 [4,9,10,11,13,15,16,17],9,4611686018427387905⟩
def VG:Lp:=⟨bmK 132 0 [4,15,19],8,bmK 132 0 [4,15],8,4611686018427387905⟩
def YL (n:Nat) (g:Nat->E6):List (Nat×Lp×List (Nat×(Nat->V))):=[(0,AmS,[(5,λq=>evV (upX n g 0 q)),(6,λ_=>iV (-1))]),(2,Abd,[]),(4,VG,[])]
noncomputable def BZf (id:Nat) (L:LT):St->T (Ex×St):=λst=>A8 tab ⟨OY,L,Gl⟩ (As Tryz.f68 id) id st
theorem Am4 {n b i:Nat} {g:Nat->E6} (hi:i<b) (hb:b <= 16) {q:Bool} (h:ieq (thF n g i) (thF n g b)=q):sel q (wr .i64 (Ah (plC n g b i) 1)) (plC n g b i)=plC n g b (toN (wr .i64 (Ah (ofNat i) 1))):=by
 have hc:=BK (λk=>ieq (thF n g k) (thF n g b)) i;rw [A1 hi (by omega)];show _=plC n g b (i+1);unfold plC;cases q with
 | true =>rw [BH (p:=λk=>ieq (thF n g k) (thF n g b)) h,A1 (n:=b) (by omega) (by omega)];rfl
 | false =>rw [BZ (p:=λk=>ieq (thF n g k) (thF n g b)) h];rfl
theorem Amh (L:LT) (A:Int) (n:Nat) (g:Nat->E6) (hn:n <= 16) {b:Nat} (hb:b<n):(Au (BZf 2 L) Abd 4611686018427387905 (Adh A n g b 0 ())).sem=some (RY A n g b) :=
 AT (R:=exR) BA (S:=λc a _=>Adh A n g b c a) (j:=λ_=>.und) (g:=Ahl n g b) (fin:=λ_=>RY A n g b) (e:=RY A n g b) (n:=b) (by omega)
  (λi a j r hi he=>DK.ok (L:=goR (λc a _=>Adh A n g b c a) exR i) (.k (ofNat_lt hi) <| .k (Ae (Nat.lt_trans hi hb)) <| .k (decide_eq_true (Nat.lt_trans hi hb)) <| .k (Ae hb) <| .k (decide_eq_true hb) <|
   .c (λh1=>.k h1 <| .e (congrArg (λp=>(Ex.nm,Ada A n g b (wr .i64 (Ah (ofNat i) 1)) p)) (Am4 hi (by omega) h1))) λh1=>.k h1 <| .e (congrArg (λp=>(Ex.nm,Ada A n g b (wr .i64 (Ah (ofNat i) 1)) p)) (Am4 hi (by omega) h1))) (by kernel_rfl) he)
  (λa j=>DK.ok (C:=.leaf (RY A n g b)) (L:=exR) (.k (Az (Nat.le_refl b)) .l) (by kernel_rfl) rfl) (Nat.zero_add _).symm (by omega)
  (Co (acc:=λ_=>()) (λi _=>by unfold Ahl; cases ieq (thF n g i) (thF n g b) <;> rfl) b 0 (Nat.zero_add b))
theorem SL {p:Nat->Bool} {n i:Nat} (hi:i<n) (hn:n <= 16) {q:Bool} (h:ile (ofNat (rN p n i)) (A7 p n i)=q):sel q (wr .i64 (Ah (A7 p n i) 1)) (ofNat (rN p n i))=ofNat (rN p n (i+1)):=by
 have h1:=MW p n i hi;have h2:=To p n i;rw [FC hi,ile_nat] at h;rw [FC hi,A1 (n:=n) (by omega) (by omega),rN];by_cases hl:Bc p n i<rN p n i
 ·rw [decide_eq_false (by omega)] at h
  rw [if_pos hl,<- h];rfl
 ·rw [decide_eq_true (by omega)] at h
  rw [if_neg hl,<- h,show rN p n i=Bc p n i by omega];rfl
theorem xZf (A:Int) {n:Nat} (g:Nat->E6) {i:Nat} (hi:i<n) (hn:n <= 16) {tt kk:Int} (h1:tt=ofNat (rN (obF g) n (i+1))) (h2:kk=ofNat (rN (mbF g) n (i+1))) :
  (Ex.nm,TZf A n g (wr .i64 (Ah (ofNat i) 1)) tt kk (AD i 1) (AG i (λq=>evV (upX n g i q)) (.agg [iV (thF n g i),iV (plC n g i i),iV (g i).src,iV (loF n g i),iV 0])) (AG i (λ_=>iV (-1)) (iV (-1))))=(Ex.nm,SZf A n g (wr .i64 (Ah (ofNat i) 1)) ()):=by
 have hx:=SJ n g i;rw [show evV (evF n g (λ_=>false) i) = .agg [iV (thF n g i),iV (plC n g i i),iV (g i).src,iV (loF n g i),iV 0] by
  rw [Dq hi];unfold plC plF;rw [show (λk=>ieq (thF n g k) (thF n g i))=λk=>ieq (thF n g i) (thF n g k) from funext λk=>AbZ _ _];rfl] at hx
 rw [hx,JI,h1,h2,A1 hi (by omega)];rfl
theorem rZf (A:Int) (n:Nat) (g:Nat->E6) (hn:n <= 16):(Au (BZf 0 (Go.Sy.askL (YL n g))) AmS 4611686018427387905 (SZf A n g 0 ())).sem=some (AfF A n g) :=
 AT (R:=exR) BA (S:=λc a _=>SZf A n g c a) (j:=λ_=>.und) (g:=gZf n g) (fin:=λ_=>AfF A n g) (e:=AfF A n g) (n:=n) (by omega)
  (λi a j r hi he=>DK.ok (L:=goR (λc a _=>SZf A n g c a) exR i) (.k (ofNat_lt hi) <| .k (Ae hi) <| .k (decide_eq_true hi) <| .k (Ae hi) <| .k (decide_eq_true hi) <| .k (Ae hi) <| .k (decide_eq_true hi) <| .k (eI (ofNat i)) <| .k (Ae hi) <| .k (eJ i) <| .k (decide_eq_true hi) <| .k (eI (thF n g i)) <| .k (eI (ofNat i)) <| .k (Ae hi) <| .r 2 (eJ i) <| .k (decide_eq_true hi) <| .k (eI (g i).src) <| .k (eI (ofNat i)) <| .k (Ae hi) <| .k (eJ i) <| .k (decide_eq_true hi) <| .k (eI (loF n g i)) <| .k (eI (thF n g i)) <| .k (eI 0) <| .k (eI (g i).src) <| .k (eI (loF n g i)) <| .k (eI 0) <| .k (eI (ofNat i)) <| .k (Ae hi) <| .k (eJ i) <| .k (decide_eq_true hi) <| .k (eI (thF n g i)) <| .k (eI (ofNat i)) <| .k (Ae hi) <| .r 2 (eJ i) <| .k (decide_eq_true hi) <| .k (eI (g i).src) <| .k (eI (ofNat i)) <| .k (Ae hi) <| .k (eJ i) <| .k (decide_eq_true hi) <| .k (eI (loF n g i)) <| .k (eI (thF n g i)) <| .k (eI 0) <| .k (eI (g i).src) <| .k (eI (loF n g i)) <| .k (eI 0) <| .a (Amh (Go.Sy.askL (YL n g)) A n g hn hi) <| .k (show Bp i 1 40=true from GH (by omega)) <| .k (show Bp i 1 8=true from GH (by omega)) <| .k (Ae hi) <| .k (decide_eq_true hi) <| .c (λh1=>.k h1 <| .k (Ae hi) <| .k (decide_eq_true hi) <| .k (Ae hi) <| .k (decide_eq_true hi) <| .c (λh2=>.k h2 <| .k (Ae hi) <| .k (decide_eq_true hi) <| .e (xZf A g hi hn (SL hi hn h1) (SL hi hn h2))) λh2=>.k h2 <| .e (xZf A g hi hn (SL hi hn h1) (SL hi hn h2))) λh1=>.k h1 <| .k (Ae hi) <| .k (decide_eq_true hi) <| .c (λh3=>.k h3 <| .k (Ae hi) <| .k (decide_eq_true hi) <| .e (xZf A g hi hn (SL hi hn h1) (SL hi hn h3))) λh3=>.k h3 <| .e (xZf A g hi hn (SL hi hn h1) (SL hi hn h3))) (by kernel_rfl) he)
  (λa j=>DK.ok (C:=.leaf (AfF A n g)) (L:=exR) (.k (Az (Nat.le_refl n)) .l) (by kernel_rfl) rfl) (Nat.zero_add _).symm (by omega)
  (Co (acc:=λ_=>()) (λi _=>by unfold gZf; cases ile (ofNat (rN (obF g) n i)) (thF n g i) <;> cases ile (ofNat (rN (mbF g) n i)) (loF n g i) <;> rfl) n 0 (Nat.zero_add n))
theorem okC (n:Nat) (g:Nat->E6) (b:Nat):(Bi b λu=>Bi (lnR n g b u) λq=>okI (coR n g b u q))=true:=AE.2 λu hu=>AE.2 λq hq=>by
 unfold lnR at hq;unfold coR;rw [show Nat.blt u b=true from Nat.ble_eq_true_of_le hu] at hq ⊢;rw [show Nat.blt q (lnN (mbF g) (wrF g) n u)=true from Nat.ble_eq_true_of_le hq];rfl
theorem Ahz {u b:Nat} (h:u ≠ b):Nat.blt u (b+1)=Nat.blt u b:=by
 rw [Bool.eq_iff_iff];simp only [Nat.blt_eq];omega
theorem AkD (A:Int) {n:Nat} {g:Nat->E6} (tt:Int) {i:Nat} (hi:i<kkN n g) :
  (hpX A n g (thF n g) (loF n g) tt 0 (λq=>evV (evF n g (dR n g i (Cl (mbF g) n (zN n g i))) q)) λq=>iV (rfF n g (dR n g i (Cl (mbF g) n (zN n g i))) q)).take 7++[.jag ⟨24,1,AD i 1,AG i Ab .und,0,3,1,λu=>sel (BI u i) true true,λu=>sel (BI u i) (wcN (wrF g) n (zN n g i) (Cl (mbF g) n (zN n g i))) (lnR n g i u),CN (λu q=>coR n g i u q) i λq=>wvR n g i (Cl (mbF g) n (zN n g i)) q,none⟩]=hpE A n g tt (i+1):=by
 obtain ⟨z1,z2,z3⟩:=zk hi;have hd:=XL (Hl (mbF g) n) z1 z2;rw [show Bc (mbF g) n (zN n g i)=i from z3] at hd;rw [JI,show dR n g i (Cl (mbF g) n (zN n g i))=dR n g (i+1) 0 from hd,show (λu=>sel (BI u i) true true)=λ_=>true from funext λu=>by cases BI u i <;> rfl,
  show (λu=>sel (BI u i) (wcN (wrF g) n (zN n g i) (Cl (mbF g) n (zN n g i))) (lnR n g i u))=lnR n g (i+1) from funext λu=>by
   unfold lnR;by_cases h:u=i
   ·subst h
    rw [show BI u u=true from Nat.beq_refl _,show Nat.blt u (u+1)=true from Nat.ble_eq_true_of_le (Nat.le_refl _)];rfl
   ·rw [show BI u i=false from nbeq_ne h,Ahz h]
    rfl,
  show (CN (λu q=>coR n g i u q) i λq=>wvR n g i (Cl (mbF g) n (zN n g i)) q)=λu q=>coR n g (i+1) u q from funext λu=>funext λq=>by
   unfold CN;rw [ER];unfold coR;by_cases h:u=i
   ·subst h
    rw [show BI u u=true from Nat.beq_refl _,show Nat.blt u (u+1)=true from Nat.ble_eq_true_of_le (Nat.le_refl _)];rfl
   ·rw [show BI u i=false from nbeq_ne h,Ahz h]
    rfl]
 rfl
theorem Amg (L:LT) (A:Int) (n:Nat) (g:Nat->E6) (tt:Int) (hn:n <= 16):(Au (BZf 4 L) VG 4611686018427387905 (Yb A n g tt 0 ())).sem=some (OA A n g tt):=by
 have hkn:kkN n g <= n:=BK _ _;exact AT (R:=exR) BA (S:=λc a _=>Yb A n g tt c a) (j:=λ_=>.und) (g:=gGo) (fin:=λ_=>OA A n g tt) (e:=OA A n g tt) (n:=kkN n g) (by omega)
  (λi a j r hi he=>DK.ok (L:=goR (λc a _=>Yb A n g tt c a) exR i) (.k (ofNat_lt hi) <| .k (eG [i]) <| .r 3 (eL n) <| .k (okC n g i) <| .k (eJ n) <| .k (show Av n=true from decide_eq_true (by omega)) <| .a (r56 hi hn A (thF n g) (loF n g) tt (vs4 A n g tt i) (by kernel_rfl) (by kernel_rfl)) <| .k eT <| .k (show Bp i 1 24=true from GH (by omega)) <|
   .e (congrArg (λh=>(Ex.nm,XZ (wr .i64 (Ah (ofNat i) 1)) h)) ((AkD A tt hi).trans (congrArg (hpE A n g tt) (show i+1=toN (wr .i64 (Ah (ofNat i) 1)) by rw [A1 hi (by omega)]; rfl))))) (by kernel_rfl) he)
  (λa j=>DK.ok (C:=.leaf (OA A n g tt)) (L:=exR) (.k (Az (Nat.le_refl (kkN n g))) .l) (by kernel_rfl) rfl) (Nat.zero_add _).symm (by omega) (Acj _)
theorem Ahw (n:Nat) (g:Nat->E6):dnF n g (loN n g) 0 0=λ_=>false:=by
 funext j;unfold dnF;rw [Ac2];simp
theorem ZF (n:Nat) (g:Nat->E6):upX n g n=evF n g (dnF n g (loN n g) 0 0):=by
 rw [Ahw,W9,Ac3]
def Amf (n:Nat) (g:Nat->E6):List Blk:=[.row 76 6 n (λi=>eV (g i)),.row 74 5 n (λi=>evV (evF n g (dR n g (kkN n g) 0) i)),.row 3 1 n (λi=>iV (rfF n g (dR n g (kkN n g) 0) i)),
 .jag ⟨24,1,kkN n g,λ_=>.und,0,3,1,λ_=>true,lnR n g (kkN n g),λk i=>coR n g (kkN n g) k i,none⟩]
theorem Aet {n:Nat} {g:Nat->E6} (hk:0<kkN n g):Ap (Amf n g) (Vh n g):=by
 have hd:∀ i,i<n->dR n g (kkN n g) 0 i=true:=λi hi=>by
  show dnF n g (loN n g) (kkN n g) 0 i=true;unfold dnF;rw [decide_eq_true hi,Uv]
  ·rfl
  ·exact Ot hi hk
 refine .cons (λ_ _=>rfl) (.cons (λi hi=>?_) (.cons (λi hi=>?_) (.consB (.jag (λ_ _=>.inr rfl) (λ_ _=>rfl) (λk hk'=>?_) (λk hk' q hq=>?_)) (.refl []))))
 ·rw [Dq hi,Dq hi,hd i hi]
 ·unfold rfF
  rw [hd i hi]
 ·have hk':k<kkN n g:=hk'
  show lnN _ _ n k=lnR n g (kkN n g) k;unfold lnR;rw [show Nat.blt k (kkN n g)=true from Nat.ble_eq_true_of_le hk'];rfl
 ·have hk':k<kkN n g:=hk'
  have hq:q<lnR n g (kkN n g) k:=hq;unfold lnR at hq;rw [show Nat.blt k (kkN n g)=true from Nat.ble_eq_true_of_le hk'] at hq;show iV _=coR n g (kkN n g) k q;unfold coR;rw [show Nat.blt k (kkN n g)=true from Nat.ble_eq_true_of_le hk',show Nat.blt q (lnN (mbF g) (wrF g) n k)=true from Nat.ble_eq_true_of_le hq];rfl
theorem Anw (L:LT) (A:Int) {n:Nat} {g:Nat->E6} (hy:IsCycle A n g):(Au (BZf 4 L) VG 4611686018427387905 (XZ 0 (kZf A n g n))).sem=some (OA A n g (ofNat (ttN n g))):=by
 have h:=Amg L A n g (ofNat (ttN n g)) hy.hi;rw [show Yb A n g (ofNat (ttN n g)) 0 ()=XZ 0 (hpE A n g (ofNat (ttN n g)) 0) from rfl] at h;unfold hpE at h;rw [show dR n g 0 0=dnF n g (loN n g) 0 0 from rfl,<- ZF,Ahw] at h;unfold kZf;rw [show rN (obF g) n n=ttN n g from Rn hy.outer,show rN (mbF g) n n=kkN n g from Rn hy.moves];exact h
def CZf (A:Int) (n:Nat) (f:Nat->E6):A3:=.br (CU n) (.br (ieq (He A n f) 0) (.leaf (.tup [Vg A n (shG n f),iV 0,iV 0],Amf n (shG n f))) (.leaf (.tup [noV,iV (He A n f),iV (Aku A n f)],noH))) .fail
theorem p15:An Tryz.prog Gl 68 ofT:=by
 refine Al A2 mixed Tryz.func68 (by kernel_rfl) (by kernel_rfl) λvs v h' h=>?_;unfold ofT at h;split at h
 ·rename_i A u
  obtain ⟨n,f,ha,h1⟩:=Cz h;obtain ⟨h8,hq⟩:=Ac h1;have m:=λ(hc:ieq (He A n f) 0=true)=>(ED (Bs hc)).may;have w:=show DK (λa=>a) (CZf A n f) _ from .k (eL n) <| .g λh8=>.k h8 <| .c (λhc=>.k (eN hc) <| .k (eL n) <| .k h8 <| .k (Uz.2 ⟨A,Bs hc⟩) <| .k (eL n) <| .k h8 <| .k (m hc) <| .k (Em (n:=n)) <| .k (eL n) <| .k h8 <| .k (m hc) <| .k (Em (n:=n)) <|
   .a (rZf A n (shG n f) (Bs hc).hi) <| .a (Anw (Go.Sy.askL (YL n (shG n f))) A (ED (Bs hc))) .l) λhc=>.k (eN hc) .l
  have R:=λr (h:(CZf A n f).sem=some r)=>DK.of (t:=A0 (Ai tab ⟨OY,Go.Sy.askL (YL n (shG n f)),Gl⟩ Tryz.f68 [iV A,AL n f] [])) h w (by kernel_rfl);unfold CZf at R;cases hc:ieq (He A n f) 0 with
  | true =>rw [hc] at hq;have:=Aa hq;simp only [Prod.mk.injEq] at this;obtain ⟨rfl,rfl⟩:=this;have hm:=(ED (Bs hc)).moves;exact ⟨_,⟨OY,Go.Sy.askL (YL n (shG n f)),Gl⟩,_,W2 ha,rfl,QE,EV _ _ _,R _ (by rw [h8,hc]; rfl),Aet (by show 0<Ak (λk=>AB (shG n f k)) n; omega)⟩
  | false =>rw [hc] at hq;have:=Aa hq;simp only [Prod.mk.injEq] at this;obtain ⟨rfl,rfl⟩:=this;exact ⟨_,⟨OY,Go.Sy.askL (YL n (shG n f)),Gl⟩,_,W2 ha,rfl,QE,EV _ _ _,R _ (by rw [h8,hc]; rfl),Ap.refl _⟩
 ·cases h
end Go.Proofs.YtkbafjceglhjhaaGreatDoor.Sh
namespace Go.Proofs.YtkbafjceglhjhaaGreatDoor.Sh
open Go.Sy Ed
open Int (ofNat)
set_option maxHeartbeats 1000000
set_option maxRecDepth 4000
theorem BU {n:Nat} (h:Av n=true):n <= 4611686018427387904:=of_decide_eq_true h
theorem F6 {a b:Bool} (h:a=true):Aj a b=b:=by rw [h]; rfl
theorem W1 {a b:Bool} (h:a=false):Aj a b=false:=by rw [h]; rfl
theorem Cc {n m:Nat} (h:ieq (ofNat n) (ofNat m)=true):n=m:=by
 rw [D8] at h;exact of_decide_eq_true h
def DJ (n:Nat) (f:Nat->Int) (m:Nat) (g:Nat->Int):Bool:=Aj (ieq (ofNat n) (ofNat m)) (Bi n λk=>ieq (f k) (g k))
def Anf:Lp:=⟨bmK 26 0 [0,1,4,5],0,bmK 26 0 [4],0,4611686018427387905⟩
def S30 (n:Nat) (f:Nat->Int) (m:Nat) (g:Nat->Int) (c:Int) (_:Unit) (j:Nat->V):St:=⟨jsV 26 0 j [(0,.sl 1 n (λi=>iV (f i))),(1,.sl 1 m (λi=>iV (g i))),(4,bV false),(5,iV c)],[]⟩
noncomputable def B30 (L:LT):St->T (Ex×St):=λst=>A8 tab ⟨Ax tb0,L,Gl⟩ (As Tryz.f148 0) 0 st
def AkK (_:Nat) (_:Nat->Int) (_:Nat) (_:Nat->Int) (_:Nat) (_:Unit):Ex×St:=(.rt,⟨jsV 26 0 Ab [(4,bV false)],[]⟩)
def g30 (n:Nat) (f:Nat->Int) (m:Nat) (g:Nat->Int) (i:Nat) (a:Unit):T ((Unit) ⊕ (Ex×St)):=.br (ieq (f i) (g i)) (.leaf (.inl ())) (.leaf (.inr (AkK n f m g i a)))
def AnP (_:Nat) (_:Nat->Int) (_:Nat) (_:Nat->Int) (_:Unit):Ex×St:=(.ex 0,⟨jsV 26 0 Ab [(4,bV false)],[]⟩)
theorem r30 (L:LT) (n:Nat) (f:Nat->Int) (m:Nat) (g:Nat->Int) (hm:n=m) (hn:n <= 4611686018427387904) {e:Ex×St} {a:Unit} {j:Nat->V} (h:Ch (g30 n f m g) (AnP n f m g) n 0 a=some e):(Au (B30 L) Anf 4611686018427387905 (S30 n f m g 0 a j)).sem=some (exR e) :=
 AT BA hn (λi a j r hi h=>DK.ok (L:=goR (S30 n f m g) exR i) (.k (ofNat_lt hi) <| .k (Ae hi) <| .k (Ae (hm ▸ hi)) <| .c (λh1=>.k (eN h1) <| .l) λh1=>.k (eN h1) <| .l) (by kernel_rfl) h) (λa j=>DK.ok (C:=.leaf (AnP n f m g a)) (L:=exR) (.k (Az (Nat.le_refl n)) .l) (by kernel_rfl) rfl) (Nat.zero_add _).symm (Nat.lt_succ_of_le hn) h
def AeQ:List (Nat×Lp×List (Nat×(Nat->V))):=[(0,Anf,[])]
def C30 (n:Nat) (f:Nat->Int) (m:Nat) (g:Nat->Int):A3:=.br (ieq (ofNat n) (ofNat m)) (.br (Bi n λk=>ieq (f k) (g k)) (.leaf ((bV true),[])) (.leaf ((bV false),[]))) (.leaf ((bV false),[]))
theorem Agu (n:Nat) (f:Nat->Int) (m:Nat) (g:Nat->Int):(C30 n f m g).sem=some (bV (DJ n f m g),[]):=by
 unfold C30 DJ;cases ieq (ofNat n) (ofNat m)
 ·rfl
 cases Bi n λk=>ieq (f k) (g k) <;> rfl
def I1:List V->A3
 | [v,u]=>apG PC v λn f=>apG PC u λm g=>.br (Av n) (.leaf (bV (DJ n f m g),[])) .fail
 | _=>.fail
theorem p61:An Tryz.prog Gl 148 I1:=by
 refine Al A2 mixed Tryz.func148 (by kernel_rfl) (by kernel_rfl) λvs v h' h=>?_;unfold I1 at h;split at h
 ·rename_i v1 u1
  obtain ⟨n,f,a1,h⟩:=BB h;obtain ⟨m,g,a2,h⟩:=BB h;obtain ⟨hn,h⟩:=Ac h;have:=Aa h;simp only [Prod.mk.injEq] at this;obtain ⟨rfl,rfl⟩:=this;have hn:=BU hn;have w:DK (λa=>a) (C30 n f m g) _:=.c (λh1=>.k (eN h1) <| .c (λh2=>.a (r30 (askL AeQ) n f m g (Cc h1) hn (j:=λ_=>.und) (Pm (λ_ _=>rfl) h2)) <| .l) λh2=>.a (r30 (askL AeQ) n f m g (Cc h1) hn (j:=λ_=>.und) (Pn (λ_ _=>rfl) h2)) <| .l) λh1=>.k (eN h1) <| .l
  have hx:=AU BS AeQ (G:=Gl);exact ⟨_,cxA Gl tb0 AeQ,_,(show Bz [v1,u1] [.sl 1 n (λi=>iV (f i)),.sl 1 m (λi=>iV (g i))] from λS w cs hv=>by
   obtain ⟨c,l,rfl,q1,c',l',rfl,q2,q3⟩:=hv;exact ⟨c,_,rfl,a1 S w c q1,c',l',rfl,a2 S w c' q2,q3⟩),rfl,hx.1,hx.2,DK.of (Agu n f m g) w (by kernel_rfl),Ap.refl _⟩
 ·cases h
def FZ (n:Nat) (ln:Nat->Nat) (co:Nat->Nat->Int) (m:Nat) (ln':Nat->Nat) (co':Nat->Nat->Int):Bool:=Aj (ieq (ofNat n) (ofNat m)) (Bi n λk=>DJ (ln k) (co k) (ln' k) (co' k))
noncomputable def Aiz:A9:=(148,I1)::[]
theorem AdC:Ao Tryz.prog Gl Aiz:=.cons p61 .nil
def Ane:Lp:=⟨bmK 27 0 [0,1,4,5],0,bmK 27 0 [4],0,4611686018427387905⟩
def S31 (n:Nat) (C:Nat->Nat×(Nat->Int)) (m:Nat) (D:Nat->Nat×(Nat->Int)) (c:Int) (_:Unit) (j:Nat->V):St:=⟨jsV 27 0 j [(0,.sl 1 n (λu=>.sl 1 (C u).1 (λi=>iV ((C u).2 i)))),(1,.sl 1 m (λu=>.sl 1 (D u).1 (λi=>iV ((D u).2 i)))),(4,bV false),(5,iV c)],[]⟩
noncomputable def B31 (L:LT):St->T (Ex×St):=λst=>A8 tab ⟨Ax Aiz,L,Gl⟩ (As Tryz.f149 0) 0 st
def AkJ (_:Nat) (_:Nat->Nat×(Nat->Int)) (_:Nat) (_:Nat->Nat×(Nat->Int)) (_:Nat) (_:Unit):Ex×St:=(.rt,⟨jsV 27 0 Ab [(4,bV false)],[]⟩)
def g31 (n:Nat) (C:Nat->Nat×(Nat->Int)) (m:Nat) (D:Nat->Nat×(Nat->Int)) (i:Nat) (a:Unit):T ((Unit) ⊕ (Ex×St)):=.br (DJ (C i).1 (C i).2 (D i).1 (D i).2) (.leaf (.inl ())) (.leaf (.inr (AkJ n C m D i a)))
def AnO (_:Nat) (_:Nat->Nat×(Nat->Int)) (_:Nat) (_:Nat->Nat×(Nat->Int)) (_:Unit):Ex×St:=(.ex 0,⟨jsV 27 0 Ab [(4,bV false)],[]⟩)
theorem r31 (L:LT) (n:Nat) (C:Nat->Nat×(Nat->Int)) (m:Nat) (D:Nat->Nat×(Nat->Int)) (hm:n=m) (hs:(Bi n λk=>Av (C k).1)=true) (hn:n <= 4611686018427387904) {e:Ex×St} {a:Unit} {j:Nat->V} (h:Ch (g31 n C m D) (AnO n C m D) n 0 a=some e):(Au (B31 L) Ane 4611686018427387905 (S31 n C m D 0 a j)).sem=some (exR e) :=
 AT BA hn (λi a j r hi h=>DK.ok (L:=goR (S31 n C m D) exR i) (.k (ofNat_lt hi) <| .k (Ae hi) <| .k (Ae (hm ▸ hi)) <| .k (eL (C i).1) <| .k (eL (D i).1) <| .k (AE.1 hs i hi) <| .c (λh1=>.k (eN h1) <| .l) λh1=>.k (eN h1) <| .l) (by kernel_rfl) h) (λa j=>DK.ok (C:=.leaf (AnO n C m D a)) (L:=exR) (.k (Az (Nat.le_refl n)) .l) (by kernel_rfl) rfl) (Nat.zero_add _).symm (Nat.lt_succ_of_le hn) h
def AeP:List (Nat×Lp×List (Nat×(Nat->V))):=[(0,Ane,[])]
def C31 (n:Nat) (C:Nat->Nat×(Nat->Int)) (m:Nat) (D:Nat->Nat×(Nat->Int)):A3:=.br (ieq (ofNat n) (ofNat m)) (.br (Bi n λk=>DJ (C k).1 (C k).2 (D k).1 (D k).2) (.leaf ((bV true),[])) (.leaf ((bV false),[]))) (.leaf ((bV false),[]))
theorem Agt (n:Nat) (C:Nat->Nat×(Nat->Int)) (m:Nat) (D:Nat->Nat×(Nat->Int)):(C31 n C m D).sem=some (bV (FZ n (λi=>(C i).1) (λi=>(C i).2) m (λi=>(D i).1) (λi=>(D i).2)),[]):=by
 unfold C31 FZ;cases ieq (ofNat n) (ofNat m)
 ·rfl
 cases Bi n λk=>DJ (C k).1 (C k).2 (D k).1 (D k).2 <;> rfl
def Vp:List V->A3
 | [v,u]=>apG codJ v λn C=>apG codJ u λm D=>.br (Av n) (.br (Bi n λi=>Av (C i).1) (.leaf (bV (FZ n (λi=>(C i).1) (λi=>(C i).2) m (λi=>(D i).1) (λi=>(D i).2)),[])) .fail) .fail
 | _=>.fail
theorem p62:An Tryz.prog Gl 149 Vp:=by
 refine Al A2 mixed Tryz.func149 (by kernel_rfl) (by kernel_rfl) λvs v h' h=>?_;unfold Vp at h;split at h
 ·rename_i v1 u1
  obtain ⟨n,C,a1,h⟩:=BB h;obtain ⟨m,D,a2,h⟩:=BB h;obtain ⟨hn,h⟩:=Ac h;obtain ⟨hs,h⟩:=Ac h;have:=Aa h;simp only [Prod.mk.injEq] at this;obtain ⟨rfl,rfl⟩:=this;have w:DK (λa=>a) (C31 n C m D) _:=.c (λh1=>.k (eN h1) <| .c (λh2=>.a (r31 (askL AeP) n C m D (Cc h1) hs (BU hn) (j:=λ_=>.und) (Pm (λ_ _=>rfl) h2)) <| .l) λh2=>.a (r31 (askL AeP) n C m D (Cc h1) hs (BU hn) (j:=λ_=>.und) (Pn (λ_ _=>rfl) h2)) <| .l) λh1=>.k (eN h1) <| .l
  have hx:=AU AdC AeP (G:=Gl);exact ⟨_,cxA Gl Aiz AeP,_,(show Bz [v1,u1] [.sl 1 n (λu=>.sl 1 (C u).1 (λi=>iV ((C u).2 i))),.sl 1 m (λu=>.sl 1 (D u).1 (λi=>iV ((D u).2 i)))] from λS w cs hv=>by
   obtain ⟨c,l,rfl,q1,c',l',rfl,q2,q3⟩:=hv;exact ⟨c,_,rfl,a1 S w c q1,c',l',rfl,a2 S w c' q2,q3⟩),rfl,hx.1,hx.2,DK.of (Agt n C m D) w (by kernel_rfl),Ap.refl _⟩
 ·cases h
def Im (e e':Ev5):Bool:=Aj (ieq e.th e'.th) (Aj (ieq e.pl e'.pl) (Aj (ieq e.dir e'.dir) (Aj (ieq e.loc e'.loc) (Aj (ieq e.val e'.val) true))))
noncomputable def tb16:A9:=(43,NC)::(148,I1)::(149,Vp)::[]
theorem tb16_ok:Ao Tryz.prog Gl tb16:=.cons p42 <| .cons p61 <| .cons p62 .nil
def J5 (s s':Sh7):Bool:=Aj (ieq s.arch s'.arch) (Aj (ieq s.tt s'.tt) (Aj (ieq s.kk s'.kk) (Aj (DC s.ne s.E s'.ne s'.E) (Aj (ieq (ofNat s.nx) (ofNat s'.nx)) (Aj (DJ s.nr s.R s'.nr s'.R)
 (Aj (FZ s.nc (λi=>(s.C i).1) (λi=>(s.C i).2) s'.nc (λi=>(s'.C i).1) (λi=>(s'.C i).2)) (Bi s.nx λk=>Im (s.X k) (s'.X k))))))))
def Fu (s:Sh7):Bool:=Aj (Av s.ne) (Aj (Av s.nx) (Aj (Av s.nr) (Aj (Av s.nc) (Bi s.nc λi=>Av (s.C i).1))))
def lp9:Lp:=⟨bmK 76 0 [2,3,4,5],2,bmK 76 0 [4],0,4611686018427387905⟩
def S9 (s s':Sh7) (c:Int) (_:Unit) (j:Nat->V):St:=⟨jsV 76 0 j [(2,.ptr 0 0),(3,.ptr 1 0),(4,bV false),(5,iV c)],[.cells [iV s.arch,.sl 6 s.ne (λi=>eV (s.E i)),.sl 5 s.nx (λi=>evV (s.X i)),iV s.tt,iV s.kk,.sl 1 s.nr (λi=>iV (s.R i)),.sl 1 s.nc (λu=>.sl 1 (s.C u).1 (λi=>iV ((s.C u).2 i)))],.cells [iV s'.arch,.sl 6 s'.ne (λi=>eV (s'.E i)),.sl 5 s'.nx (λi=>evV (s'.X i)),iV s'.tt,iV s'.kk,.sl 1 s'.nr (λi=>iV (s'.R i)),.sl 1 s'.nc (λu=>.sl 1 (s'.C u).1 (λi=>iV ((s'.C u).2 i)))]]⟩
noncomputable def B9 (L:LT):St->T (Ex×St):=λst=>A8 tab ⟨Ax tb16,L,Gl⟩ (As Tryz.f102 0) 0 st
def Ao0 (_ _:Sh7) (_:Nat) (_:Unit):Ex×St:=(.rt,⟨jsV 76 0 Ab [(4,bV false)],[]⟩)
def g9 (s s':Sh7) (i:Nat) (a:Unit):T ((Unit) ⊕ (Ex×St)):=.br (Aj (ieq (s.X i).th (s'.X i).th) (Aj (ieq (s.X i).pl (s'.X i).pl) (Aj (ieq (s.X i).dir (s'.X i).dir) (Aj (ieq (s.X i).loc (s'.X i).loc) (Aj (ieq (s.X i).val (s'.X i).val) true))))) (.leaf (.inl ())) (.leaf (.inr (Ao0 s s' i a)))
def fn9 (_ _:Sh7) (_:Unit):Ex×St:=(.ex 0,⟨jsV 76 0 Ab [(4,bV false)],[]⟩)
theorem r9 (L:LT) (s s':Sh7) (hm:s.nx=s'.nx) (hn:s.nx <= 4611686018427387904) {e:Ex×St} {a:Unit} {j:Nat->V} (h:Ch (g9 s s') (fn9 s s') s.nx 0 a=some e):(Au (B9 L) lp9 4611686018427387905 (S9 s s' 0 a j)).sem=some (exR e) :=
 AT BA hn (λi a j r hi h=>DK.ok (L:=goR (S9 s s') exR i) (.k (ofNat_lt hi) <| .k (Ae hi) <| .k (Ae (hm ▸ hi)) <| .c (λh1=>.k (eN h1) <| .l) λh1=>.k (eN h1) <| .l) (by kernel_rfl) h) (λa j=>DK.ok (C:=.leaf (fn9 s s' a)) (L:=exR) (.k (Az (Nat.le_refl s.nx)) .l) (by kernel_rfl) rfl) (Nat.zero_add _).symm (Nat.lt_succ_of_le hn) h
def ls9:List (Nat×Lp×List (Nat×(Nat->V))):=[(0,lp9,[])]
def C9 (s s':Sh7):A3:=.br (ieq s.arch s'.arch) (.br (ieq s.tt s'.tt) (.br (ieq s.kk s'.kk) (.br (DC s.ne (λi=>s.E i) s'.ne (λi=>s'.E i)) (.br (ieq (ofNat s.nx) (ofNat s'.nx)) (.br (DJ s.nr s.R s'.nr s'.R) (.br (FZ s.nc (λi=>(s.C i).1) (λi i_1=>(s.C i).2 i_1) s'.nc (λi=>(s'.C i).1) (λi i_1=>(s'.C i).2 i_1)) (.br (Bi s.nx λk=>Im (s.X k) (s'.X k)) (.leaf ((bV true),[])) (.leaf ((bV false),[]))) (.leaf ((bV false),[]))) (.leaf ((bV false),[]))) (.leaf ((bV false),[]))) (.leaf ((bV false),[]))) (.leaf ((bV false),[]))) (.leaf ((bV false),[]))) (.leaf ((bV false),[]))
theorem AkA (s s':Sh7):(C9 s s').sem=some (bV (J5 s s'),[]):=by
 unfold C9 J5;cases ieq s.arch s'.arch
 ·rfl
 cases ieq s.tt s'.tt
 ·rfl
 cases ieq s.kk s'.kk
 ·rfl
 cases DC s.ne s.E s'.ne s'.E
 ·rfl
 cases ieq (ofNat s.nx) (ofNat s'.nx)
 ·rfl
 cases DJ s.nr s.R s'.nr s'.R
 ·rfl
 cases FZ s.nc (λi=>(s.C i).1) (λi=>(s.C i).2) s'.nc (λi=>(s'.C i).1) (λi=>(s'.C i).2)
 ·rfl
 cases Bi s.nx λk=>Im (s.X k) (s'.X k) <;> rfl
def JH:List V->A3
 | [v,u]=>apS v λs=>apS u λs'=>.br (Fu s) (.leaf (bV (J5 s s'),[])) .fail
 | _=>.fail
theorem p16:An Tryz.prog Gl 102 JH:=by
 refine Al A2 mixed Tryz.func102 (by kernel_rfl) (by kernel_rfl) λvs v h' h=>?_;unfold JH at h;split at h
 ·rename_i v1 u1
  obtain ⟨s,a1,h⟩:=apS_some h;obtain ⟨s',a2,h⟩:=apS_some h;obtain ⟨hn,h⟩:=Ac h;have:=Aa h;simp only [Prod.mk.injEq] at this;obtain ⟨rfl,rfl⟩:=this;have hn:Av s.ne=true∧Av s.nx=true∧Av s.nr=true∧Av s.nc=true∧(Bi s.nc λi=>Av (s.C i).1)=true:=by simpa [Fu,Aj] using hn
  obtain ⟨n1,n2,n3,n4,n5⟩:=hn;have w:DK (λa=>a) (C9 s s') _:=.c (λh1=>.r 6 (eN h1) <| .c (λh2=>.r 6 (eN h2) <| .c (λh3=>.r 5 (eN h3) <| .k (eL s.ne) <| .k (eL s'.ne) <| .k n1 <| .r 2 (eN h3) <| .c (λh4=>.r 8 (eN h4) <| .c (λh5=>.r 5 (eN h5) <| .k (eL s.nr) <| .k (eL s'.nr) <| .k n3 <| .r 2 (eN h5) <| .c (λh6=>.r 5 (eN h6) <| .k (eL2 s.nc s.C) <| .k (eL2 s'.nc s'.C) <| .k n4 <| .k n5 <| .r 2 (eN h6) <| .c (λh7=>.k (eN h7) <| .c (λh8=>.a (r9 (askL ls9) s s' (Cc h5) (BU n2) (j:=λ_=>.und) (Pm (λ_ _=>rfl) h8)) <| .l) λh8=>.a (r9 (askL ls9) s s' (Cc h5) (BU n2) (j:=λ_=>.und) (Pn (λ_ _=>rfl) h8)) <| .l) λh7=>.k (eN h7) <| .l) λh6=>.r 7 (eN h6) <| .k eT <| .l) λh5=>.r 7 (eN h5) <| .r 8 eT <| .l) λh4=>.r 8 (eN h4) <| .r 15 eT <| .l) λh3=>.r 7 (eN h3) <| .r 23 eT <| .l) λh2=>.r 6 (eN h2) <| .r 30 eT <| .l) λh1=>.r 6 (eN h1) <| .r 36 eT <| .l
  have hx:=AU tb16_ok ls9 (G:=Gl);exact ⟨_,cxA Gl tb16 ls9,_,(show Bz [v1,u1] [EY s,EY s'] from λS w cs hv=>by
   obtain ⟨c,l,rfl,q1,c',l',rfl,q2,q3⟩:=hv;exact ⟨c,_,rfl,a1 S w c q1,c',l',rfl,a2 S w c' q2,q3⟩),rfl,hx.1,hx.2,DK.of (AkA s s') w (by kernel_rfl),Ap.refl _⟩
 ·cases h
end Go.Proofs.YtkbafjceglhjhaaGreatDoor.Sh
namespace Go.Proofs.YtkbafjceglhjhaaGreatDoor.Ed
open Go.Sy Go
def Hf (c:UInt8):Bool:=c == 32 || c == 9 || c == 10 || c == 13
def EO (x:Int):Bool:=bor (ieq x 32) (bor (ieq x 9) (bor (ieq x 10) (ieq x 13)))
theorem Nk (c:UInt8) (n:Nat) (hn:n<256):ieq ((c.toNat:Nat):Int) (n:Int)=(c == UInt8.ofNat n):=by
 rw [Bool.eq_iff_iff];simp only [ieq,beq_iff_eq];constructor
 ·intro h
  apply UInt8.toNat_inj.1;rw [UInt8.toNat_ofNat_of_lt' (by simpa using hn)];omega
 ·intro h
  rw [h,UInt8.toNat_ofNat_of_lt' (by simpa using hn)]
theorem AcS (c:UInt8):EO ((c.toNat:Nat):Int)=Hf c:=by
 unfold EO Hf bor;have h1:=Nk c 32 (by decide);have h2:=Nk c 9 (by decide);have h3:=Nk c 10 (by decide);have h4:=Nk c 13 (by decide);have h1:ieq ((c.toNat:Nat):Int) 32=(c == 32):=h1;have h2:ieq ((c.toNat:Nat):Int) 9=(c == 9):=h2;have h3:ieq ((c.toNat:Nat):Int) 10=(c == 10):=h3;have h4:ieq ((c.toNat:Nat):Int) 13=(c == 13):=h4;rw [h1,h2,h3,h4];cases (c == 32) <;> cases (c == 9) <;> cases (c == 10) <;> rfl
def BF (l:List UInt8):List UInt8:=l.takeWhile λc=>!Hf c
def CS:Nat->List UInt8->Nat->List E6->List E6×Int×Nat
 | 0,_,_,acc=>(acc,0,0)
 | _+1,[],_,acc=>(acc,0,0)
 | q+1,c::l,a,acc =>
  if Hf c=true then CS q l (a+1) acc
  else if Fw (BF (c::l))=0 then CS q ((c::l).drop (BF (c::l)).length) (a+(BF (c::l)).length) (acc++[Fx (BF (c::l))])
  else ([],30,a)
theorem Tw {b:UInt8} (hb:Hf b=true) (l:List UInt8) (q a:Nat) (acc:List E6):CS (q+1) (b::l) a acc=CS q l (a+1) acc:=by
 rw [CS,if_pos hb]
theorem Z8 (l:List UInt8):(BF l).length <= l.length:=by
 induction l with
 | nil=>exact Nat.le_refl _
 | cons c l ih =>
  unfold BF at ih ⊢;cases hc:Hf c with
  | true=>rw [List.takeWhile_cons_of_neg (by simp [hc])]; exact Nat.zero_le _
  | false =>rw [List.takeWhile_cons_of_pos (by simp [hc])];simp only [List.length_cons];omega
section
variable (L:LT) (x:Int)
include L x
theorem Ag1 (h0:ieq x 32=true):(A0 (Ai tab ⟨Ax tb0,L,Gl⟩ Tryz.f105 [.val (.int .u8 x)] [])).sem=some ((bV true),[]):=by
 exact Ad (ks:=[kn h0,kn h0,kn h0,kT,kT,kT,kT,kT,kT]) (by kernel_rfl)
theorem Ag0 (h0:ieq x 32=false) (h1:ieq x 9=true):(A0 (Ai tab ⟨Ax tb0,L,Gl⟩ Tryz.f105 [.val (.int .u8 x)] [])).sem=some ((bV true),[]):=by
 exact Ad (ks:=[kn h0,kn h0,kn h0,kn h1,kn h1,kn h1,kT,kT,kT]) (by kernel_rfl)
theorem Agz (h0:ieq x 32=false) (h1:ieq x 9=false) (h2:ieq x 10=true):(A0 (Ai tab ⟨Ax tb0,L,Gl⟩ Tryz.f105 [.val (.int .u8 x)] [])).sem=some ((bV true),[]):=by
 exact Ad (ks:=[kn h0,kn h0,kn h0,kn h1,kn h1,kn h1,kn h2,kn h2,kn h2]) (by kernel_rfl)
theorem Agy (h0:ieq x 32=false) (h1:ieq x 9=false) (h2:ieq x 10=false):(A0 (Ai tab ⟨Ax tb0,L,Gl⟩ Tryz.f105 [.val (.int .u8 x)] [])).sem=some ((bV (ieq x 13)),[]):=by
 exact Ad (ks:=[kn h0,kn h0,kn h0,kn h1,kn h1,kn h1,kn h2,kn h2,kn h2]) (by kernel_rfl)
end
def Pe:List V->A3
 | [.val (.int .u8 x)]=>out (bV (EO x))
 | _=>.fail
theorem p83:An Tryz.prog Gl 105 Pe:=by
 refine Al A2 mixed Tryz.func105 (by kernel_rfl) (by kernel_rfl) λvs v h' h=>?_;unfold Pe at h;split at h
 ·rename_i x
  have:=Aa h;simp only [Prod.mk.injEq] at this;obtain ⟨rfl,rfl⟩:=this;have hx:=Bq BS [];refine ⟨_,AP Gl tb0 [],_,Bz.refl _,rfl,hx.1,hx.2,?_,Ap.refl _⟩;unfold EO;cases c1:ieq x 32 with
  | true=>exact Ag1 _ x c1
  | false =>
   cases c2:ieq x 9 with
   | true=>exact Ag0 _ x c1 c2
   | false =>
    cases c3:ieq x 10 with
    | true=>exact Agz _ x c1 c2 c3
    | false=>exact Agy _ x c1 c2 c3
 ·cases h
def lp40_2 (s:List UInt8):Lp:=⟨bmK 54 0 [0,2,3,4,5,6,7],2,bmK 54 0 [0,2,3,4,5,6,7],2,Cb s+1⟩
def lp40 (s:List UInt8):Lp:=⟨bmK 54 0 [0,2,3,4,5,6],2,bmK 54 0 [2,3,4,5],4,Cb s+1⟩
theorem AfC {α:Type} {l:List α} {i:Nat} {d:α} (h:i<l.length):l.getD i d=l[i]:=by simp [List.getD,h]
theorem FO {s:List UInt8} {a:Nat} (h:a<s.length):s.drop a=s[a]::s.drop (a+1):=List.drop_eq_getElem_cons h
theorem MR {s:List UInt8} {a:Nat} (h:a<s.length):EO (MF s a)=Hf s[a]:=by
 unfold MF;rw [AfC h];exact AcS _
def LP (l:List E6) (i:Nat):E6:=l.getD i FS
theorem Uf {l:List E6} {e:E6} {i:Nat} (h:i<l.length+1):LP (l++[e]) i=if i=l.length then e else LP l i:=by
 unfold LP;by_cases hi:i=l.length
 ·rw [if_pos hi,hi]; simp
 ·rw [if_neg hi]
  simp only [List.getD,List.getElem?_append_left (show i<l.length by omega)]
def EG (acc:List E6):Nat->V:=Cg (λi=>eV (LP acc i)) acc.length
theorem Mr {g g':Nat->V}:∀ n,(∀ i,i<n->g i=g' i)->Cg g n=Cg g' n
 | 0,_=>rfl
 | n+1,h=>by
  show AG n (Cg g n) (g n)=AG n (Cg g' n) (g' n);rw [h n (Nat.lt_succ_self n),Mr n λi hi=>h i (by omega)]
theorem Y1 (acc:List E6) (e:E6):AG acc.length (EG acc) (eV e)=EG (acc++[e]):=by
 have h1:EG (acc++[e])=Cg (λi=>eV (LP (acc++[e]) i)) (acc.length+1):=by
  unfold EG;rw [List.length_append];rfl
 rw [h1];show _=AG acc.length (Cg (λi=>eV (LP (acc++[e]) i)) acc.length) (eV (LP (acc++[e]) acc.length));rw [Uf (Nat.lt_succ_self _),if_pos rfl];unfold EG;rw [Mr (g:=λi=>eV (LP (acc++[e]) i)) (g':=λi=>eV (LP acc i)) acc.length λi hi=>by
  show eV (LP (acc++[e]) i)=eV (LP acc i);rw [Uf (by omega),if_neg (by omega)]]
def Jz:Nat->List UInt8->List E6->List E6×E6
 | 0,_,acc=>(acc,FS)
 | _+1,[],acc=>(acc,FS)
 | q+1,c::l,acc =>
  if Hf c=true then Jz q l acc
  else if Fw (BF (c::l))=0 then Jz q ((c::l).drop (BF (c::l)).length) (acc++[Fx (BF (c::l))])
  else (acc,Fx (BF (c::l)))
def AcT (s:List UInt8):Bool:=ilt 262144 (Int.ofNat (Cb s))
def psR (s:List UInt8):List E6×Int×Nat:=CS (s.length+1) s 0 []
def psL (s:List UInt8):List E6:=bif AcT s then [] else (psR s).1
def psE (s:List UInt8):Int:=bif AcT s then 2 else (psR s).2.1
def psI (s:List UInt8):Int:=bif AcT s then 0 else Int.ofNat (psR s).2.2
def psN (s:List UInt8):Nat:=(psL s).length
def psG (s:List UInt8) (i:Nat):E6:=LP (psL s) i
def psT:List V->A3
 | [.str s]=>.leaf (.tup [.ref 0,iV (psE s),iV (psI s)],[.row 76 6 (psN s) λi=>eV (psG s i)])
 | _=>.fail
theorem NS:∀ (q:Nat) (l:List UInt8) (a:Nat) (acc:List E6),(CS q l a acc).2.1=0->(CS q l a acc).2.2=0
 | 0,_,_,_,_=>rfl
 | q+1,[],_,_,_=>rfl
 | q+1,c::l,a,acc,h=>by
  rw [CS] at h ⊢;split
  ·rename_i hc
   rw [if_pos hc] at h;exact NS q _ _ _ h
  ·rename_i hc
   rw [if_neg hc] at h;split
   ·rename_i hp
    rw [if_pos hp] at h;exact NS q _ _ _ h
   ·rename_i hp
    rw [if_neg hp] at h;cases h
theorem Akg {L:LT} (hL:LLe L L) (k:Nat) (r:Ex×St):LLe (onP k (isP L k r) r L) (onP k (isP L k r) r L):=λid f f' st hf r' hr=>by
 unfold onP at hr ⊢;cases hk:Nat.beq id k with
 | true =>rw [hk] at hr;obtain ⟨h1,h2⟩:=Ac hr;unfold isP at h1;have h1:=@of_decide_eq_true _ (Classical.propDecidable _) h1;have h3:isP L k r f' st=true:=A5 (hL k f f' st hf _ h1);show sel (isP L k r f' st) _ _=_;rw [h3];exact h2
 | false =>rw [hk] at hr;exact hL id f f' st hf _ hr
end Go.Proofs.YtkbafjceglhjhaaGreatDoor.Ed
