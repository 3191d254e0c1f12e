/-
  Layer 7: the document's shape of a cycle, as derivations. No conditions.
-/
import Derived.Test.YtkgdhhieomndeaaGreatDoorShE
import Derived.Test.YtkgdhhieomndeaaGreatDoorEdX
import Derived.Test.YtkgdhhieomndeaaGreatDoorCyT
namespace Go.Proofs.YtkgdhhieomndeaaGreatDoor.Sh
open Go.Sy Ed
open Int (ofNat)
set_option maxHeartbeats 1000000
set_option maxRecDepth 100000
def Afc:List V->AE:=Gs λn f=>.br (BC n) (.br (Cp n f) (.leaf (.tup [.ref 0,iV 0],[.row 3 1 n λk=>iV (AG (λk=>AB (f k)) n k)])) .fail) .fail
def Afb:List V->AE:=Gs λn f=>.br (BC n) (.br (Cp n f) (.leaf (.tup [.ref 0,iV 0],[.row 3 1 n λk=>iV (AG (λk=>AN (f k)) n k)])) .fail) .fail
theorem p57:Ax Tryz.prog Gl 54 Afc:=Ax.congr Ed.p53 λvs r h=>by
 obtain ⟨v,rfl⟩:∃ v,vs=[v]:=by
  unfold Afc Gs at h;split at h
  ·exact ⟨_,rfl⟩
  ·cases h
 unfold Afc Gs at h;unfold K8 Gs;dsimp only at h ⊢;unfold apL at h ⊢;split at h
 ·rename_i n g hg
  obtain ⟨h1,h⟩:=Ad h;dsimp only at h;obtain ⟨h2,h⟩:=Ad h;obtain ⟨h3,h⟩:=Ad h;rw [h1];dsimp only;rw [h2,h3];exact h
 ·cases h
theorem p58:Ax Tryz.prog Gl 55 Afb:=Ax.congr Ed.p54 λvs r h=>by
 obtain ⟨v,rfl⟩:∃ v,vs=[v]:=by
  unfold Afb Gs at h;split at h
  ·exact ⟨_,rfl⟩
  ·cases h
 unfold Afb Gs at h;unfold K8 Gs;dsimp only at h ⊢;unfold apL at h ⊢;split at h
 ·rename_i n g hg
  obtain ⟨h1,h⟩:=Ad h;dsimp only at h;obtain ⟨h2,h⟩:=Ad h;obtain ⟨h3,h⟩:=Ad h;rw [h1];dsimp only;rw [h2,h3];exact h
 ·cases h
noncomputable def Al9:AK:=(52,Nr)::(53,Adw)::(54,Afc)::(55,Afb)::[]
theorem Ae9:Aq Tryz.prog Gl Al9:=.cons p49 <| .cons p56 <| .cons p57 <| .cons p58 .nil
noncomputable def Px:FuncId->List V->St->T (V×Res):=Lx [(56,PS tab (cxA Gl Ai6 Afw) Tryz.f56)] (Am Al9)
theorem QS:Bv Tryz.prog ⟨Px,Gl⟩:=Hx mixed (.cons rfl A7 (D2 X8 Afw).1 (D2 X8 Afw).2 Tryz.func56 (by kernel_rfl) (by kernel_rfl) .nil) (D5 rfl Ae9)
theorem ile_nat (a b:Nat):ile (ofNat a) (ofNat b)=decide (a <= b):=by
 unfold ile;rw [Bool.eq_iff_iff];simp
theorem AcE (a b:Int):ieq a b=ieq b a:=by
 unfold ieq;rw [Bool.eq_iff_iff];simp only [beq_iff_eq];exact eq_comm
def plC (n:Nat) (g:Nat->E6) (b i:Nat):Int:=ofNat (An (λk=>ieq (thF n g k) (thF n g b)) i)
section
variable (A:Int) (n:Nat) (g:Nat->E6)
def jZf (c:Int) (l:List (Nat×V)):List V:=jsV 132 0 Aa ((4,.ptr 0 0)::(9,.ref 1)::(10,nV n)::(11,.ref 2)::(13,.ref 3)::(15,.ptr 4 0)::(16,iV c)::l)
def hZf (tt kk:Int) (b:Nat) (x r:Nat->V):List Blk:=[.cells [iV 0,.nilS,.nilS,iV 0,iV 0,.nilS,.nilS],.row 92 6 n (λi=>eV (g i)),.row 3 1 n (λi=>iV (thF n g i)),.row 3 1 n (λi=>iV (loF n g i)),.cells [iV A,.ref 1,.ref 5,iV tt,iV kk,.ref 6,.jref 7],.row 80 5 b x,.row 3 1 b r,jE]
def kZf (b:Nat):List Blk:=hZf A n g (ofNat (rN (obF g) n b)) (ofNat (rN (mbF g) n b)) b (λq=>evV (upX n g b q)) (λ_=>iV (-1))
def SZf (c:Int) (_:Unit):St:=⟨jZf n c [],kZf A n g (toN c)⟩
def TZf (c tt kk:Int) (b:Nat) (x r:Nat->V):St:=⟨jZf n c [],hZf A n g tt kk b x r⟩
def Agk:Ex×St:=(.ex 0,⟨jsV 132 0 Aa [(4,.ptr 0 0),(15,.ptr 4 0)],kZf A n g n⟩)
def gZf (i:Nat) (_:Unit):T (Unit ⊕ (Ex×St)):=.br (ile (ofNat (rN (obF g) n i)) (thF n g i)) (.br (ile (ofNat (rN (mbF g) n i)) (loF n g i)) (.leaf (.inl ())) (.leaf (.inl ()))) (.br (ile (ofNat (rN (mbF g) n i)) (loF n g i)) (.leaf (.inl ())) (.leaf (.inl ())))
variable (b:Nat)
def AdP (c p:Int):St:=⟨jZf n (ofNat b) [(17,.ptr 8 0),(18,iV c)],kZf A n g b++[.cells [iV (thF n g b),iV p,iV (g b).src,iV (loF n g b),iV 0]]⟩
def AdS (c:Int) (_:Unit):St:=AdP A n g b c (plC n g b (toN c))
def SB:Ex×St:=(.ex 2,⟨jZf n (ofNat b) [(17,.ptr 8 0)],kZf A n g b++[.cells [iV (thF n g b),iV (plC n g b b),iV (g b).src,iV (loF n g b),iV 0]]⟩)
def AhA (i:Nat) (_:Unit):T (Unit ⊕ (Ex×St)):=.br (ieq (thF n g i) (thF n g b)) (.leaf (.inl ())) (.leaf (.inl ()))
def hpE (tt:Int) (k:Nat):List Blk:=hpX A n g (thF n g) (loF n g) tt k (λi=>evV (evF n g (dR n g k 0) i)) λi=>iV (rfF n g (dR n g k 0) i)
def YY (c:Int) (h:List Blk):St:=⟨jsV 132 0 Aa [(4,.ptr 0 0),(15,.ptr 4 0),(19,iV c)],h⟩
def YZ (tt c:Int) (_:Unit):St:=YY c (hpE A n g tt (toN c))
def OZ (tt:Int):Ex×St:=(.ex 4,⟨jsV 132 0 Aa [(4,.ptr 0 0),(15,.ptr 4 0)],hpE A n g tt (kkN n g)⟩)
def vs4 (tt:Int) (i:Nat):List V:=jsV 132 0 Aa [(4,.ptr 0 0),(15,.ptr 4 0),(19,nV i),(122,nV i),(123,.ptr 4 4),(124,iV (ofNat (kkN n g))),(125,bV (ilt (ofNat i) (ofNat (kkN n g)))),(128,.agg [iV A,.ref 1,.ref 5,iV tt,iV (ofNat (kkN n g)),.ref 6,.jref 7]),(129,nV i)]
end
def AmZ:Lp:=⟨bmK 132 0 [4,9,10,11,13,15,16],8,bmK 132 0 [4,15],8,4611686018427387905⟩
def Acb:Lp:=⟨bmK 132 0 [4,9,10,11,13,15,16,17,18],9,bmK 132 0 [4,9,10,11,13,15,16,17],9,4611686018427387905⟩
def W8:Lp:=⟨bmK 132 0 [4,15,19],8,bmK 132 0 [4,15],8,4611686018427387905⟩
def ZH (n:Nat) (g:Nat->E6):List (Nat×Lp×List (Nat×(Nat->V))):=[(0,AmZ,[(5,λq=>evV (upX n g 0 q)),(6,λ_=>iV (-1))]),(2,Acb,[]),(4,W8,[])]
noncomputable def BZf (id:Nat) (L:LT):St->T (Ex×St):=λst=>AD tab ⟨Px,L,Gl⟩ (Au Tryz.f33 id) id st
theorem AmO {n b i:Nat} {g:Nat->E6} (hi:i<b) (hb:b <= 16) {q:Bool} (h:ieq (thF n g i) (thF n g b)=q):sel q (wr .i64 (Ak (plC n g b i) 1)) (plC n g b i)=plC n g b (toN (wr .i64 (Ak (ofNat i) 1))):=by
 have hc:=Bm (λk=>ieq (thF n g k) (thF n g b)) i;rw [Ap hi (by omega)];show _=plC n g b (i+1);unfold plC;cases q with
 | true =>rw [B7 (p:=λk=>ieq (thF n g k) (thF n g b)) h,Ap (n:=b) (by omega) (by omega)];rfl
 | false =>rw [Cc (p:=λk=>ieq (thF n g k) (thF n g b)) h];rfl
theorem AmJ (L:LT) (A:Int) (n:Nat) (g:Nat->E6) (hn:n <= 16) {b:Nat} (hb:b<n):(A3 (BZf 2 L) Acb 4611686018427387905 (AdS A n g b 0 ())).sem=some (SB A n g b) :=
 Bq (R:=exR) BZ (S:=λc a _=>AdS A n g b c a) (j:=λ_=>.und) (g:=AhA n g b) (fin:=λ_=>SB A n g b) (e:=SB A n g b) (n:=b) (by omega)
  (λi a j r hi he=>DK.ok (L:=goR (λc a _=>AdS A n g b c a) exR i) (.k (ofNat_lt hi) <| .k (Ag (Nat.lt_trans hi hb)) <| .k (decide_eq_true (Nat.lt_trans hi hb)) <| .k (Ag hb) <| .k (decide_eq_true hb) <|
   .c (λh1=>.k h1 <| .e (congrArg (λp=>(Ex.nm,AdP A n g b (wr .i64 (Ak (ofNat i) 1)) p)) (AmO hi (by omega) h1))) λh1=>.k h1 <| .e (congrArg (λp=>(Ex.nm,AdP A n g b (wr .i64 (Ak (ofNat i) 1)) p)) (AmO hi (by omega) h1))) (by kernel_rfl) he)
  (λa j=>DK.ok (C:=.leaf (SB A n g b)) (L:=exR) (.k (Aw (Nat.le_refl b)) .l) (by kernel_rfl) rfl) (Nat.zero_add _).symm (by omega)
  (FZ (acc:=λ_=>()) (λi _=>by unfold AhA; cases ieq (thF n g i) (thF n g b) <;> rfl) b 0 (Nat.zero_add b))
theorem Tv {p:Nat->Bool} {n i:Nat} (hi:i<n) (hn:n <= 16) {q:Bool} (h:ile (ofNat (rN p n i)) (AG p n i)=q):sel q (wr .i64 (Ak (AG p n i) 1)) (ofNat (rN p n i))=ofNat (rN p n (i+1)):=by
 have h1:=N2 p n i hi;have h2:=Ua p n i;rw [Ey hi,ile_nat] at h;rw [Ey hi,Ap (n:=n) (by omega) (by omega),rN];by_cases hl:AZ p n i<rN p n i
 ·rw [decide_eq_false (by omega)] at h
  rw [if_pos hl,<- h];rfl
 ·rw [decide_eq_true (by omega)] at h
  rw [if_neg hl,<- h,show rN p n i=AZ p n i by omega];rfl
theorem xZf (A:Int) {n:Nat} (g:Nat->E6) {i:Nat} (hi:i<n) (hn:n <= 16) {tt kk:Int} (h1:tt=ofNat (rN (obF g) n (i+1))) (h2:kk=ofNat (rN (mbF g) n (i+1))) :
  (Ex.nm,TZf A n g (wr .i64 (Ak (ofNat i) 1)) tt kk (AV i 1) (As i (λq=>evV (upX n g i q)) (.agg [iV (thF n g i),iV (plC n g i i),iV (g i).src,iV (loF n g i),iV 0])) (As i (λ_=>iV (-1)) (iV (-1))))=(Ex.nm,SZf A n g (wr .i64 (Ak (ofNat i) 1)) ()):=by
 have hx:=Tt n g i;rw [show evV (evF n g (λ_=>false) i) = .agg [iV (thF n g i),iV (plC n g i i),iV (g i).src,iV (loF n g i),iV 0] by
  rw [CH hi];unfold plC plF;rw [show (λk=>ieq (thF n g k) (thF n g i))=λk=>ieq (thF n g i) (thF n g k) from funext λk=>AcE _ _];rfl] at hx
 rw [hx,JU,h1,h2,Ap hi (by omega)];rfl
theorem rZf (A:Int) (n:Nat) (g:Nat->E6) (hn:n <= 16):(A3 (BZf 0 (Go.Sy.askL (ZH n g))) AmZ 4611686018427387905 (SZf A n g 0 ())).sem=some (Agk A n g) :=
 Bq (R:=exR) BZ (S:=λc a _=>SZf A n g c a) (j:=λ_=>.und) (g:=gZf n g) (fin:=λ_=>Agk A n g) (e:=Agk A n g) (n:=n) (by omega)
  (λi a j r hi he=>DK.ok (L:=goR (λc a _=>SZf A n g c a) exR i) (.k (ofNat_lt hi) <| .k (Ag hi) <| .k (decide_eq_true hi) <| .k (Ag hi) <| .k (decide_eq_true hi) <| .k (Ag hi) <| .k (decide_eq_true hi) <| .k (eI (ofNat i)) <| .k (Ag hi) <| .k (eJ i) <| .k (decide_eq_true hi) <| .k (eI (thF n g i)) <| .k (eI (ofNat i)) <| .k (Ag hi) <| .r 2 (eJ i) <| .k (decide_eq_true hi) <| .k (eI (g i).src) <| .k (eI (ofNat i)) <| .k (Ag hi) <| .k (eJ i) <| .k (decide_eq_true hi) <| .k (eI (loF n g i)) <| .k (eI (thF n g i)) <| .k (eI 0) <| .k (eI (g i).src) <| .k (eI (loF n g i)) <| .k (eI 0) <| .k (eI (ofNat i)) <| .k (Ag hi) <| .k (eJ i) <| .k (decide_eq_true hi) <| .k (eI (thF n g i)) <| .k (eI (ofNat i)) <| .k (Ag hi) <| .r 2 (eJ i) <| .k (decide_eq_true hi) <| .k (eI (g i).src) <| .k (eI (ofNat i)) <| .k (Ag hi) <| .k (eJ i) <| .k (decide_eq_true hi) <| .k (eI (loF n g i)) <| .k (eI (thF n g i)) <| .k (eI 0) <| .k (eI (g i).src) <| .k (eI (loF n g i)) <| .k (eI 0) <| .a (AmJ (Go.Sy.askL (ZH n g)) A n g hn hi) <| .k (show Bn i 1 40=true from C0 (by omega)) <| .k (show Bn i 1 8=true from C0 (by omega)) <| .k (Ag hi) <| .k (decide_eq_true hi) <| .c (λh1=>.k h1 <| .k (Ag hi) <| .k (decide_eq_true hi) <| .k (Ag hi) <| .k (decide_eq_true hi) <| .c (λh2=>.k h2 <| .k (Ag hi) <| .k (decide_eq_true hi) <| .e (xZf A g hi hn (Tv hi hn h1) (Tv hi hn h2))) λh2=>.k h2 <| .e (xZf A g hi hn (Tv hi hn h1) (Tv hi hn h2))) λh1=>.k h1 <| .k (Ag hi) <| .k (decide_eq_true hi) <| .c (λh3=>.k h3 <| .k (Ag hi) <| .k (decide_eq_true hi) <| .e (xZf A g hi hn (Tv hi hn h1) (Tv hi hn h3))) λh3=>.k h3 <| .e (xZf A g hi hn (Tv hi hn h1) (Tv hi hn h3))) (by kernel_rfl) he)
  (λa j=>DK.ok (C:=.leaf (Agk A n g)) (L:=exR) (.k (Aw (Nat.le_refl n)) .l) (by kernel_rfl) rfl) (Nat.zero_add _).symm (by omega)
  (FZ (acc:=λ_=>()) (λi _=>by unfold gZf; cases ile (ofNat (rN (obF g) n i)) (thF n g i) <;> cases ile (ofNat (rN (mbF g) n i)) (loF n g i) <;> rfl) n 0 (Nat.zero_add n))
theorem okC (n:Nat) (g:Nat->E6) (b:Nat):(A4 b λu=>A4 (lnR n g b u) λq=>okI (coR n g b u q))=true:=A0.2 λu hu=>A0.2 λq hq=>by
 unfold lnR at hq;unfold coR;rw [show Nat.blt u b=true from Nat.ble_eq_true_of_le hu] at hq ⊢;rw [show Nat.blt q (lnN (mbF g) (wrF g) n u)=true from Nat.ble_eq_true_of_le hq];rfl
theorem AhK {u b:Nat} (h:u ≠ b):Nat.blt u (b+1)=Nat.blt u b:=by
 rw [Bool.eq_iff_iff];simp only [Nat.blt_eq];omega
theorem AkO (A:Int) {n:Nat} {g:Nat->E6} (tt:Int) {i:Nat} (hi:i<kkN n g) :
  (hpX A n g (thF n g) (loF n g) tt 0 (λq=>evV (evF n g (dR n g i (Cl (mbF g) n (zN n g i))) q)) λq=>iV (rfF n g (dR n g i (Cl (mbF g) n (zN n g i))) q)).take 7++[.jag ⟨24,1,AV i 1,As i Aa .und,0,3,1,λu=>sel (AW u i) true true,λu=>sel (AW u i) (wcN (wrF g) n (zN n g i) (Cl (mbF g) n (zN n g i))) (lnR n g i u),Cm (λu q=>coR n g i u q) i λq=>wvR n g i (Cl (mbF g) n (zN n g i)) q⟩]=hpE A n g tt (i+1):=by
 obtain ⟨z1,z2,z3⟩:=zk hi;have hd:=YK (Hj (mbF g) n) z1 z2;rw [show AZ (mbF g) n (zN n g i)=i from z3] at hd;rw [JU,show dR n g i (Cl (mbF g) n (zN n g i))=dR n g (i+1) 0 from hd,show (λu=>sel (AW u i) true true)=λ_=>true from funext λu=>by cases AW u i <;> rfl,
  show (λu=>sel (AW u i) (wcN (wrF g) n (zN n g i) (Cl (mbF g) n (zN n g i))) (lnR n g i u))=lnR n g (i+1) from funext λu=>by
   unfold lnR;by_cases h:u=i
   ·subst h
    rw [show AW u u=true from Nat.beq_refl _,show Nat.blt u (u+1)=true from Nat.ble_eq_true_of_le (Nat.le_refl _)];rfl
   ·rw [show AW u i=false from nbeq_ne h,AhK h]
    rfl,
  show (Cm (λu q=>coR n g i u q) i λq=>wvR n g i (Cl (mbF g) n (zN n g i)) q)=λu q=>coR n g (i+1) u q from funext λu=>funext λq=>by
   unfold Cm;rw [Fy];unfold coR;by_cases h:u=i
   ·subst h
    rw [show AW u u=true from Nat.beq_refl _,show Nat.blt u (u+1)=true from Nat.ble_eq_true_of_le (Nat.le_refl _)];rfl
   ·rw [show AW u i=false from nbeq_ne h,AhK h]
    rfl]
 rfl
theorem AmI (L:LT) (A:Int) (n:Nat) (g:Nat->E6) (tt:Int) (hn:n <= 16):(A3 (BZf 4 L) W8 4611686018427387905 (YZ A n g tt 0 ())).sem=some (OZ A n g tt):=by
 have hkn:kkN n g <= n:=Bm _ _;exact Bq (R:=exR) BZ (S:=λc a _=>YZ A n g tt c a) (j:=λ_=>.und) (g:=gGo) (fin:=λ_=>OZ A n g tt) (e:=OZ A n g tt) (n:=kkN n g) (by omega)
  (λi a j r hi he=>DK.ok (L:=goR (λc a _=>YZ A n g tt c a) exR i) (.k (ofNat_lt hi) <| .k (eG [i]) <| .r 3 (eL n) <| .k (okC n g i) <| .k (eJ n) <| .k (show Af n=true from decide_eq_true (by omega)) <| .a (r56 hi hn A (thF n g) (loF n g) tt (vs4 A n g tt i) (by kernel_rfl) (by kernel_rfl)) <| .k eT <| .k (show Bn i 1 24=true from C0 (by omega)) <|
   .e (congrArg (λh=>(Ex.nm,YY (wr .i64 (Ak (ofNat i) 1)) h)) ((AkO A tt hi).trans (congrArg (hpE A n g tt) (show i+1=toN (wr .i64 (Ak (ofNat i) 1)) by rw [Ap hi (by omega)]; rfl))))) (by kernel_rfl) he)
  (λa j=>DK.ok (C:=.leaf (OZ A n g tt)) (L:=exR) (.k (Aw (Nat.le_refl (kkN n g))) .l) (by kernel_rfl) rfl) (Nat.zero_add _).symm (by omega) (AcN _)
theorem AhG (n:Nat) (g:Nat->E6):dnF n g (loN n g) 0 0=λ_=>false:=by
 funext j;unfold dnF;rw [Adr];simp
theorem Aa9 (n:Nat) (g:Nat->E6):upX n g n=evF n g (dnF n g (loN n g) 0 0):=by
 rw [AhG,X2,Ads]
def AmH (n:Nat) (g:Nat->E6):List Blk:=[.row 92 6 n (λi=>eV (g i)),.row 80 5 n (λi=>evV (evF n g (dR n g (kkN n g) 0) i)),.row 3 1 n (λi=>iV (rfF n g (dR n g (kkN n g) 0) i)),
 .jag ⟨24,1,kkN n g,λ_=>.und,0,3,1,λ_=>true,lnR n g (kkN n g),λk i=>coR n g (kkN n g) k i⟩]
theorem AeU {n:Nat} {g:Nat->E6} (hk:0<kkN n g):Av (AmH n g) (Oh n g):=by
 have hd:∀ i,i<n->dR n g (kkN n g) 0 i=true:=λi hi=>by
  show dnF n g (loN n g) (kkN n g) 0 i=true;unfold dnF;rw [decide_eq_true hi,Vg]
  ·rfl
  ·exact OL hi hk
 refine .cons (λ_ _=>rfl) (.cons (λi hi=>?_) (.cons (λi hi=>?_) (.consB (.jag (λ_ _=>.inr rfl) (λ_ _=>rfl) (λk hk'=>?_) (λk hk' q hq=>?_)) (.refl []))))
 ·rw [CH hi,CH hi,hd i hi]
 ·unfold rfF
  rw [hd i hi]
 ·have hk':k<kkN n g:=hk'
  show lnN _ _ n k=lnR n g (kkN n g) k;unfold lnR;rw [show Nat.blt k (kkN n g)=true from Nat.ble_eq_true_of_le hk'];rfl
 ·have hk':k<kkN n g:=hk'
  have hq:q<lnR n g (kkN n g) k:=hq;unfold lnR at hq;rw [show Nat.blt k (kkN n g)=true from Nat.ble_eq_true_of_le hk'] at hq;show iV _=coR n g (kkN n g) k q;unfold coR;rw [show Nat.blt k (kkN n g)=true from Nat.ble_eq_true_of_le hk',show Nat.blt q (lnN (mbF g) (wrF g) n k)=true from Nat.ble_eq_true_of_le hq];rfl
theorem Anp (L:LT) (A:Int) {n:Nat} {g:Nat->E6} (hy:IsCycle A n g):(A3 (BZf 4 L) W8 4611686018427387905 (YY 0 (kZf A n g n))).sem=some (OZ A n g (ofNat (ttN n g))):=by
 have h:=AmI L A n g (ofNat (ttN n g)) hy.hi;rw [show YZ A n g (ofNat (ttN n g)) 0 ()=YY 0 (hpE A n g (ofNat (ttN n g)) 0) from rfl] at h;unfold hpE at h;rw [show dR n g 0 0=dnF n g (loN n g) 0 0 from rfl,<- Aa9,AhG] at h;unfold kZf;rw [show rN (obF g) n n=ttN n g from RJ hy.outer,show rN (mbF g) n n=kkN n g from RJ hy.moves];exact h
def CZf (A:Int) (n:Nat) (f:Nat->E6):AE:=.br (BC n) (.br (ieq (BK A n f) 0) (.leaf (.tup [Ry A n (shG n f),iV 0,iV 0],AmH n (shG n f))) (.leaf (.tup [noV,iV (BK A n f),iV (D4 A n f)],noH))) .fail
theorem p15:Ax Tryz.prog Gl 33 ofT:=by
 refine Aj A7 mixed Tryz.func33 (by kernel_rfl) (by kernel_rfl) λvs v h' h=>?_;unfold ofT at h;split at h
 ·rename_i A u
  obtain ⟨n,f,ha,h1⟩:=Co h;obtain ⟨h8,hq⟩:=Ad h1;have m:=λ(hc:ieq (BK A n f) 0=true)=>(Dl (Bl hc)).may;have w:=show DK (λa=>a) (CZf A n f) _ from .k (eL n) <| .g λh8=>.k h8 <| .c (λhc=>.k (eN hc) <| .k (eL n) <| .k h8 <| .k (Vk.2 ⟨A,Bl hc⟩) <| .k (eL n) <| .k h8 <| .k (m hc) <| .k (En (n:=n)) <| .k (eL n) <| .k h8 <| .k (m hc) <| .k (En (n:=n)) <|
   .a (rZf A n (shG n f) (Bl hc).hi) <| .a (Anp (Go.Sy.askL (ZH n (shG n f))) A (Dl (Bl hc))) .l) λhc=>.k (eN hc) .l
  have R:=λr (h:(CZf A n f).sem=some r)=>DK.of (t:=Ay (Ai tab ⟨Px,Go.Sy.askL (ZH n (shG n f)),Gl⟩ Tryz.f33 [iV A,AS n f] [])) h w (by kernel_rfl);unfold CZf at R;cases hc:ieq (BK A n f) 0 with
  | true =>rw [hc] at hq;have:=Ab hq;simp only [Prod.mk.injEq] at this;obtain ⟨rfl,rfl⟩:=this;have hm:=(Dl (Bl hc)).moves;exact ⟨_,⟨Px,Go.Sy.askL (ZH n (shG n f)),Gl⟩,_,Xy ha,rfl,QS,J6 _ _ _,R _ (by rw [h8,hc]; rfl),AeU (by show 0<An (λk=>AN (shG n f k)) n; omega)⟩
  | false =>rw [hc] at hq;have:=Ab hq;simp only [Prod.mk.injEq] at this;obtain ⟨rfl,rfl⟩:=this;exact ⟨_,⟨Px,Go.Sy.askL (ZH n (shG n f)),Gl⟩,_,Xy ha,rfl,QS,J6 _ _ _,R _ (by rw [h8,hc]; rfl),Av.refl _⟩
 ·cases h
end Go.Proofs.YtkgdhhieomndeaaGreatDoor.Sh
namespace Go.Proofs.YtkgdhhieomndeaaGreatDoor.Sh
open Go.Sy Ed
open Int (ofNat)
set_option maxHeartbeats 1000000
set_option maxRecDepth 4000
theorem CU {n:Nat} (h:Af n=true):n <= 4611686018427387904:=of_decide_eq_true h
theorem Bp {a b:Bool} (h:a=true):Ao a b=b:=by rw [h]; rfl
theorem Xw {a b:Bool} (h:a=false):Ao a b=false:=by rw [h]; rfl
theorem Cf {n m:Nat} (h:ieq (ofNat n) (ofNat m)=true):n=m:=by
 rw [DD] at h;exact of_decide_eq_true h
def Da (n:Nat) (f:Nat->Int) (m:Nat) (g:Nat->Int):Bool:=Ao (ieq (ofNat n) (ofNat m)) (A4 n λk=>ieq (f k) (g k))
def Anj:Lp:=⟨bmK 26 0 [0,1,4,5],0,bmK 26 0 [4],0,4611686018427387905⟩
def S30 (n:Nat) (f:Nat->Int) (m:Nat) (g:Nat->Int) (c:Int) (_:Unit) (j:Nat->V):St:=⟨jsV 26 0 j [(0,.sl 1 n (λi=>iV (f i))),(1,.sl 1 m (λi=>iV (g i))),(4,bV false),(5,iV c)],[]⟩
noncomputable def B30 (L:LT):St->T (Ex×St):=λst=>AD tab ⟨Am tb0,L,Gl⟩ (Au Tryz.f30 0) 0 st
def AkT (_:Nat) (_:Nat->Int) (_:Nat) (_:Nat->Int) (_:Nat) (_:Unit):Ex×St:=(.rt,⟨jsV 26 0 Aa [(4,bV false)],[]⟩)
def g30 (n:Nat) (f:Nat->Int) (m:Nat) (g:Nat->Int) (i:Nat) (a:Unit):T ((Unit) ⊕ (Ex×St)):=.br (ieq (f i) (g i)) (.leaf (.inl ())) (.leaf (.inr (AkT n f m g i a)))
def AnG (_:Nat) (_:Nat->Int) (_:Nat) (_:Nat->Int) (_:Unit):Ex×St:=(.ex 0,⟨jsV 26 0 Aa [(4,bV false)],[]⟩)
theorem r30 (L:LT) (n:Nat) (f:Nat->Int) (m:Nat) (g:Nat->Int) (hm:n=m) (hn:n <= 4611686018427387904) {e:Ex×St} {a:Unit} {j:Nat->V} (h:BR (g30 n f m g) (AnG n f m g) n 0 a=some e):(A3 (B30 L) Anj 4611686018427387905 (S30 n f m g 0 a j)).sem=some (exR e) :=
 Bq BZ hn (λi a j r hi h=>DK.ok (L:=goR (S30 n f m g) exR i) (.k (ofNat_lt hi) <| .k (Ag hi) <| .k (Ag (hm ▸ hi)) <| .c (λh1=>.k (eN h1) <| .l) λh1=>.k (eN h1) <| .l) (by kernel_rfl) h) (λa j=>DK.ok (C:=.leaf (AnG n f m g a)) (L:=exR) (.k (Aw (Nat.le_refl n)) .l) (by kernel_rfl) rfl) (Nat.zero_add _).symm (Nat.lt_succ_of_le hn) h
def Afz:List (Nat×Lp×List (Nat×(Nat->V))):=[(0,Anj,[])]
def C30 (n:Nat) (f:Nat->Int) (m:Nat) (g:Nat->Int):AE:=.br (ieq (ofNat n) (ofNat m)) (.br (A4 n λk=>ieq (f k) (g k)) (.leaf ((bV true),[])) (.leaf ((bV false),[]))) (.leaf ((bV false),[]))
theorem AgB (n:Nat) (f:Nat->Int) (m:Nat) (g:Nat->Int):(C30 n f m g).sem=some (bV (Da n f m g),[]):=by
 unfold C30 Da;cases ieq (ofNat n) (ofNat m)
 ·rfl
 cases A4 n λk=>ieq (f k) (g k) <;> rfl
def I6:List V->AE
 | [v,u]=>apG SR v λn f=>apG SR u λm g=>.br (Af n) (.leaf (bV (Da n f m g),[])) .fail
 | _=>.fail
theorem p61:Ax Tryz.prog Gl 30 I6:=by
 refine Aj A7 mixed Tryz.func30 (by kernel_rfl) (by kernel_rfl) λvs v h' h=>?_;unfold I6 at h;split at h
 ·rename_i v1 u1
  obtain ⟨n,f,a1,h⟩:=Bz h;obtain ⟨m,g,a2,h⟩:=Bz h;obtain ⟨hn,h⟩:=Ad h;have:=Ab h;simp only [Prod.mk.injEq] at this;obtain ⟨rfl,rfl⟩:=this;have hn:=CU hn;have w:DK (λa=>a) (C30 n f m g) _:=.c (λh1=>.k (eN h1) <| .c (λh2=>.a (r30 (askL Afz) n f m g (Cf h1) hn (j:=λ_=>.und) (P9 (λ_ _=>rfl) h2)) <| .l) λh2=>.a (r30 (askL Afz) n f m g (Cf h1) hn (j:=λ_=>.und) (PC (λ_ _=>rfl) h2)) <| .l) λh1=>.k (eN h1) <| .l
  have hx:=D2 CS Afz (G:=Gl);exact ⟨_,cxA Gl tb0 Afz,_,(show Bj [v1,u1] [.sl 1 n (λi=>iV (f i)),.sl 1 m (λi=>iV (g i))] from λS w cs hv=>by
   obtain ⟨c,l,rfl,q1,c',l',rfl,q2,q3⟩:=hv;exact ⟨c,_,rfl,a1 S w c q1,c',l',rfl,a2 S w c' q2,q3⟩),rfl,hx.1,hx.2,DK.of (AgB n f m g) w (by kernel_rfl),Av.refl _⟩
 ·cases h
def El (n:Nat) (ln:Nat->Nat) (co:Nat->Nat->Int) (m:Nat) (ln':Nat->Nat) (co':Nat->Nat->Int):Bool:=Ao (ieq (ofNat n) (ofNat m)) (A4 n λk=>Da (ln k) (co k) (ln' k) (co' k))
noncomputable def Ai5:AK:=(30,I6)::[]
theorem Aex:Aq Tryz.prog Gl Ai5:=.cons p61 .nil
def Ani:Lp:=⟨bmK 27 0 [0,1,4,5],0,bmK 27 0 [4],0,4611686018427387905⟩
def S31 (n:Nat) (C:Nat->Nat×(Nat->Int)) (m:Nat) (D:Nat->Nat×(Nat->Int)) (c:Int) (_:Unit) (j:Nat->V):St:=⟨jsV 27 0 j [(0,.sl 1 n (λu=>.sl 1 (C u).1 (λi=>iV ((C u).2 i)))),(1,.sl 1 m (λu=>.sl 1 (D u).1 (λi=>iV ((D u).2 i)))),(4,bV false),(5,iV c)],[]⟩
noncomputable def B31 (L:LT):St->T (Ex×St):=λst=>AD tab ⟨Am Ai5,L,Gl⟩ (Au Tryz.f31 0) 0 st
def AkS (_:Nat) (_:Nat->Nat×(Nat->Int)) (_:Nat) (_:Nat->Nat×(Nat->Int)) (_:Nat) (_:Unit):Ex×St:=(.rt,⟨jsV 27 0 Aa [(4,bV false)],[]⟩)
def g31 (n:Nat) (C:Nat->Nat×(Nat->Int)) (m:Nat) (D:Nat->Nat×(Nat->Int)) (i:Nat) (a:Unit):T ((Unit) ⊕ (Ex×St)):=.br (Da (C i).1 (C i).2 (D i).1 (D i).2) (.leaf (.inl ())) (.leaf (.inr (AkS n C m D i a)))
def AnF (_:Nat) (_:Nat->Nat×(Nat->Int)) (_:Nat) (_:Nat->Nat×(Nat->Int)) (_:Unit):Ex×St:=(.ex 0,⟨jsV 27 0 Aa [(4,bV false)],[]⟩)
theorem r31 (L:LT) (n:Nat) (C:Nat->Nat×(Nat->Int)) (m:Nat) (D:Nat->Nat×(Nat->Int)) (hm:n=m) (hs:(A4 n λk=>Af (C k).1)=true) (hn:n <= 4611686018427387904) {e:Ex×St} {a:Unit} {j:Nat->V} (h:BR (g31 n C m D) (AnF n C m D) n 0 a=some e):(A3 (B31 L) Ani 4611686018427387905 (S31 n C m D 0 a j)).sem=some (exR e) :=
 Bq BZ hn (λi a j r hi h=>DK.ok (L:=goR (S31 n C m D) exR i) (.k (ofNat_lt hi) <| .k (Ag hi) <| .k (Ag (hm ▸ hi)) <| .k (eL (C i).1) <| .k (eL (D i).1) <| .k (A0.1 hs i hi) <| .c (λh1=>.k (eN h1) <| .l) λh1=>.k (eN h1) <| .l) (by kernel_rfl) h) (λa j=>DK.ok (C:=.leaf (AnF n C m D a)) (L:=exR) (.k (Aw (Nat.le_refl n)) .l) (by kernel_rfl) rfl) (Nat.zero_add _).symm (Nat.lt_succ_of_le hn) h
def Afy:List (Nat×Lp×List (Nat×(Nat->V))):=[(0,Ani,[])]
def C31 (n:Nat) (C:Nat->Nat×(Nat->Int)) (m:Nat) (D:Nat->Nat×(Nat->Int)):AE:=.br (ieq (ofNat n) (ofNat m)) (.br (A4 n λk=>Da (C k).1 (C k).2 (D k).1 (D k).2) (.leaf ((bV true),[])) (.leaf ((bV false),[]))) (.leaf ((bV false),[]))
theorem AgA (n:Nat) (C:Nat->Nat×(Nat->Int)) (m:Nat) (D:Nat->Nat×(Nat->Int)):(C31 n C m D).sem=some (bV (El n (λi=>(C i).1) (λi=>(C i).2) m (λi=>(D i).1) (λi=>(D i).2)),[]):=by
 unfold C31 El;cases ieq (ofNat n) (ofNat m)
 ·rfl
 cases A4 n λk=>Da (C k).1 (C k).2 (D k).1 (D k).2 <;> rfl
def VZ:List V->AE
 | [v,u]=>apG Aag v λn C=>apG Aag u λm D=>.br (Af n) (.br (A4 n λi=>Af (C i).1) (.leaf (bV (El n (λi=>(C i).1) (λi=>(C i).2) m (λi=>(D i).1) (λi=>(D i).2)),[])) .fail) .fail
 | _=>.fail
theorem p62:Ax Tryz.prog Gl 31 VZ:=by
 refine Aj A7 mixed Tryz.func31 (by kernel_rfl) (by kernel_rfl) λvs v h' h=>?_;unfold VZ at h;split at h
 ·rename_i v1 u1
  obtain ⟨n,C,a1,h⟩:=Bz h;obtain ⟨m,D,a2,h⟩:=Bz h;obtain ⟨hn,h⟩:=Ad h;obtain ⟨hs,h⟩:=Ad h;have:=Ab h;simp only [Prod.mk.injEq] at this;obtain ⟨rfl,rfl⟩:=this;have w:DK (λa=>a) (C31 n C m D) _:=.c (λh1=>.k (eN h1) <| .c (λh2=>.a (r31 (askL Afy) n C m D (Cf h1) hs (CU hn) (j:=λ_=>.und) (P9 (λ_ _=>rfl) h2)) <| .l) λh2=>.a (r31 (askL Afy) n C m D (Cf h1) hs (CU hn) (j:=λ_=>.und) (PC (λ_ _=>rfl) h2)) <| .l) λh1=>.k (eN h1) <| .l
  have hx:=D2 Aex Afy (G:=Gl);exact ⟨_,cxA Gl Ai5 Afy,_,(show Bj [v1,u1] [.sl 1 n (λu=>.sl 1 (C u).1 (λi=>iV ((C u).2 i))),.sl 1 m (λu=>.sl 1 (D u).1 (λi=>iV ((D u).2 i)))] from λS w cs hv=>by
   obtain ⟨c,l,rfl,q1,c',l',rfl,q2,q3⟩:=hv;exact ⟨c,_,rfl,a1 S w c q1,c',l',rfl,a2 S w c' q2,q3⟩),rfl,hx.1,hx.2,DK.of (AgA n C m D) w (by kernel_rfl),Av.refl _⟩
 ·cases h
def FM (e e':Ev5):Bool:=Ao (ieq e.th e'.th) (Ao (ieq e.pl e'.pl) (Ao (ieq e.dir e'.dir) (Ao (ieq e.loc e'.loc) (Ao (ieq e.val e'.val) true))))
noncomputable def tb16:AK:=(29,XF)::(30,I6)::(31,VZ)::[]
theorem tb16_ok:Aq Tryz.prog Gl tb16:=.cons p42 <| .cons p61 <| .cons p62 .nil
def Fv (s s':Sh7):Bool:=Ao (ieq s.arch s'.arch) (Ao (ieq s.tt s'.tt) (Ao (ieq s.kk s'.kk) (Ao (CB s.ne s.E s'.ne s'.E) (Ao (ieq (ofNat s.nx) (ofNat s'.nx)) (Ao (Da s.nr s.R s'.nr s'.R)
 (Ao (El s.nc (λi=>(s.C i).1) (λi=>(s.C i).2) s'.nc (λi=>(s'.C i).1) (λi=>(s'.C i).2)) (A4 s.nx λk=>FM (s.X k) (s'.X k))))))))
def BG (s:Sh7):Bool:=Ao (Af s.ne) (Ao (Af s.nx) (Ao (Af s.nr) (Ao (Af s.nc) (A4 s.nc λi=>Af (s.C i).1))))
def lp9:Lp:=⟨bmK 76 0 [2,3,4,5],2,bmK 76 0 [4],0,4611686018427387905⟩
def S9 (s s':Sh7) (c:Int) (_:Unit) (j:Nat->V):St:=⟨jsV 76 0 j [(2,.ptr 0 0),(3,.ptr 1 0),(4,bV false),(5,iV c)],[.cells [iV s.arch,.sl 6 s.ne (λi=>eV (s.E i)),.sl 5 s.nx (λi=>evV (s.X i)),iV s.tt,iV s.kk,.sl 1 s.nr (λi=>iV (s.R i)),.sl 1 s.nc (λu=>.sl 1 (s.C u).1 (λi=>iV ((s.C u).2 i)))],.cells [iV s'.arch,.sl 6 s'.ne (λi=>eV (s'.E i)),.sl 5 s'.nx (λi=>evV (s'.X i)),iV s'.tt,iV s'.kk,.sl 1 s'.nr (λi=>iV (s'.R i)),.sl 1 s'.nc (λu=>.sl 1 (s'.C u).1 (λi=>iV ((s'.C u).2 i)))]]⟩
noncomputable def B9 (L:LT):St->T (Ex×St):=λst=>AD tab ⟨Am tb16,L,Gl⟩ (Au Tryz.f9 0) 0 st
def Aov (_ _:Sh7) (_:Nat) (_:Unit):Ex×St:=(.rt,⟨jsV 76 0 Aa [(4,bV false)],[]⟩)
def g9 (s s':Sh7) (i:Nat) (a:Unit):T ((Unit) ⊕ (Ex×St)):=.br (Ao (ieq (s.X i).th (s'.X i).th) (Ao (ieq (s.X i).pl (s'.X i).pl) (Ao (ieq (s.X i).dir (s'.X i).dir) (Ao (ieq (s.X i).loc (s'.X i).loc) (Ao (ieq (s.X i).val (s'.X i).val) true))))) (.leaf (.inl ())) (.leaf (.inr (Aov s s' i a)))
def fn9 (_ _:Sh7) (_:Unit):Ex×St:=(.ex 0,⟨jsV 76 0 Aa [(4,bV false)],[]⟩)
theorem r9 (L:LT) (s s':Sh7) (hm:s.nx=s'.nx) (hn:s.nx <= 4611686018427387904) {e:Ex×St} {a:Unit} {j:Nat->V} (h:BR (g9 s s') (fn9 s s') s.nx 0 a=some e):(A3 (B9 L) lp9 4611686018427387905 (S9 s s' 0 a j)).sem=some (exR e) :=
 Bq BZ hn (λi a j r hi h=>DK.ok (L:=goR (S9 s s') exR i) (.k (ofNat_lt hi) <| .k (Ag hi) <| .k (Ag (hm ▸ hi)) <| .c (λh1=>.k (eN h1) <| .l) λh1=>.k (eN h1) <| .l) (by kernel_rfl) h) (λa j=>DK.ok (C:=.leaf (fn9 s s' a)) (L:=exR) (.k (Aw (Nat.le_refl s.nx)) .l) (by kernel_rfl) rfl) (Nat.zero_add _).symm (Nat.lt_succ_of_le hn) h
def ls9:List (Nat×Lp×List (Nat×(Nat->V))):=[(0,lp9,[])]
def C9 (s s':Sh7):AE:=.br (ieq s.arch s'.arch) (.br (ieq s.tt s'.tt) (.br (ieq s.kk s'.kk) (.br (CB s.ne (λi=>s.E i) s'.ne (λi=>s'.E i)) (.br (ieq (ofNat s.nx) (ofNat s'.nx)) (.br (Da s.nr s.R s'.nr s'.R) (.br (El s.nc (λi=>(s.C i).1) (λi i_1=>(s.C i).2 i_1) s'.nc (λi=>(s'.C i).1) (λi i_1=>(s'.C i).2 i_1)) (.br (A4 s.nx λk=>FM (s.X k) (s'.X k)) (.leaf ((bV true),[])) (.leaf ((bV false),[]))) (.leaf ((bV false),[]))) (.leaf ((bV false),[]))) (.leaf ((bV false),[]))) (.leaf ((bV false),[]))) (.leaf ((bV false),[]))) (.leaf ((bV false),[]))) (.leaf ((bV false),[]))
theorem AkK (s s':Sh7):(C9 s s').sem=some (bV (Fv s s'),[]):=by
 unfold C9 Fv;cases ieq s.arch s'.arch
 ·rfl
 cases ieq s.tt s'.tt
 ·rfl
 cases ieq s.kk s'.kk
 ·rfl
 cases CB s.ne s.E s'.ne s'.E
 ·rfl
 cases ieq (ofNat s.nx) (ofNat s'.nx)
 ·rfl
 cases Da s.nr s.R s'.nr s'.R
 ·rfl
 cases El s.nc (λi=>(s.C i).1) (λi=>(s.C i).2) s'.nc (λi=>(s'.C i).1) (λi=>(s'.C i).2)
 ·rfl
 cases A4 s.nx λk=>FM (s.X k) (s'.X k) <;> rfl
def I5:List V->AE
 | [v,u]=>apS v λs=>apS u λs'=>.br (BG s) (.leaf (bV (Fv s s'),[])) .fail
 | _=>.fail
theorem p16:Ax Tryz.prog Gl 9 I5:=by
 refine Aj A7 mixed Tryz.func9 (by kernel_rfl) (by kernel_rfl) λvs v h' h=>?_;unfold I5 at h;split at h
 ·rename_i v1 u1
  obtain ⟨s,a1,h⟩:=apS_some h;obtain ⟨s',a2,h⟩:=apS_some h;obtain ⟨hn,h⟩:=Ad h;have:=Ab h;simp only [Prod.mk.injEq] at this;obtain ⟨rfl,rfl⟩:=this;have hn:Af s.ne=true∧Af s.nx=true∧Af s.nr=true∧Af s.nc=true∧(A4 s.nc λi=>Af (s.C i).1)=true:=by simpa [BG,Ao] using hn
  obtain ⟨n1,n2,n3,n4,n5⟩:=hn;have w:DK (λa=>a) (C9 s s') _:=.c (λh1=>.r 6 (eN h1) <| .c (λh2=>.r 6 (eN h2) <| .c (λh3=>.r 5 (eN h3) <| .k (eL s.ne) <| .k (eL s'.ne) <| .k n1 <| .r 2 (eN h3) <| .c (λh4=>.r 8 (eN h4) <| .c (λh5=>.r 5 (eN h5) <| .k (eL s.nr) <| .k (eL s'.nr) <| .k n3 <| .r 2 (eN h5) <| .c (λh6=>.r 5 (eN h6) <| .k (eL2 s.nc s.C) <| .k (eL2 s'.nc s'.C) <| .k n4 <| .k n5 <| .r 2 (eN h6) <| .c (λh7=>.k (eN h7) <| .c (λh8=>.a (r9 (askL ls9) s s' (Cf h5) (CU n2) (j:=λ_=>.und) (P9 (λ_ _=>rfl) h8)) <| .l) λh8=>.a (r9 (askL ls9) s s' (Cf h5) (CU n2) (j:=λ_=>.und) (PC (λ_ _=>rfl) h8)) <| .l) λh7=>.k (eN h7) <| .l) λh6=>.r 7 (eN h6) <| .k eT <| .l) λh5=>.r 7 (eN h5) <| .r 8 eT <| .l) λh4=>.r 8 (eN h4) <| .r 15 eT <| .l) λh3=>.r 7 (eN h3) <| .r 23 eT <| .l) λh2=>.r 6 (eN h2) <| .r 30 eT <| .l) λh1=>.r 6 (eN h1) <| .r 36 eT <| .l
  have hx:=D2 tb16_ok ls9 (G:=Gl);exact ⟨_,cxA Gl tb16 ls9,_,(show Bj [v1,u1] [VS s,VS s'] from λS w cs hv=>by
   obtain ⟨c,l,rfl,q1,c',l',rfl,q2,q3⟩:=hv;exact ⟨c,_,rfl,a1 S w c q1,c',l',rfl,a2 S w c' q2,q3⟩),rfl,hx.1,hx.2,DK.of (AkK s s') w (by kernel_rfl),Av.refl _⟩
 ·cases h
end Go.Proofs.YtkgdhhieomndeaaGreatDoor.Sh
namespace Go.Proofs.YtkgdhhieomndeaaGreatDoor.Ed
open Go.Sy Go
def Ha (c:UInt8):Bool:=c == 32 || c == 9 || c == 10 || c == 13
def Fp (x:Int):Bool:=bor (ieq x 32) (bor (ieq x 9) (bor (ieq x 10) (ieq x 13)))
theorem NL (c:UInt8) (n:Nat) (hn:n<256):ieq ((c.toNat:Nat):Int) (n:Int)=(c == UInt8.ofNat n):=by
 rw [Bool.eq_iff_iff];simp only [ieq,beq_iff_eq];constructor
 ·intro h
  apply UInt8.toNat_inj.1;rw [UInt8.toNat_ofNat_of_lt' (by simpa using hn)];omega
 ·intro h
  rw [h,UInt8.toNat_ofNat_of_lt' (by simpa using hn)]
theorem AdI (c:UInt8):Fp ((c.toNat:Nat):Int)=Ha c:=by
 unfold Fp Ha bor;have h1:=NL c 32 (by decide);have h2:=NL c 9 (by decide);have h3:=NL c 10 (by decide);have h4:=NL c 13 (by decide);have h1:ieq ((c.toNat:Nat):Int) 32=(c == 32):=h1;have h2:ieq ((c.toNat:Nat):Int) 9=(c == 9):=h2;have h3:ieq ((c.toNat:Nat):Int) 10=(c == 10):=h3;have h4:ieq ((c.toNat:Nat):Int) 13=(c == 13):=h4;rw [h1,h2,h3,h4];cases (c == 32) <;> cases (c == 9) <;> cases (c == 10) <;> rfl
def BO (l:List UInt8):List UInt8:=l.takeWhile λc=>!Ha c
def CX:Nat->List UInt8->Nat->List E6->List E6×Int×Nat
 | 0,_,_,acc=>(acc,0,0)
 | _+1,[],_,acc=>(acc,0,0)
 | q+1,c::l,a,acc =>
  if Ha c=true then CX q l (a+1) acc
  else if Fg (BO (c::l))=0 then CX q ((c::l).drop (BO (c::l)).length) (a+(BO (c::l)).length) (acc++[Fh (BO (c::l))])
  else ([],30,a)
theorem Uj {b:UInt8} (hb:Ha b=true) (l:List UInt8) (q a:Nat) (acc:List E6):CX (q+1) (b::l) a acc=CX q l (a+1) acc:=by
 rw [CX,if_pos hb]
theorem Aa2 (l:List UInt8):(BO l).length <= l.length:=by
 induction l with
 | nil=>exact Nat.le_refl _
 | cons c l ih =>
  unfold BO at ih ⊢;cases hc:Ha c with
  | true=>rw [List.takeWhile_cons_of_neg (by simp [hc])]; exact Nat.zero_le _
  | false =>rw [List.takeWhile_cons_of_pos (by simp [hc])];simp only [List.length_cons];omega
section
variable (L:LT) (x:Int)
include L x
theorem Alm (h0:ieq x 32=true):(Ay (Ai tab ⟨Am tb0,L,Gl⟩ Tryz.f50 [.val (.int .u8 x)] [])).sem=some ((bV true),[]):=by
 exact Ac (ks:=[kn h0,kn h0,kn h0,kT,kT,kT,kT,kT,kT]) (by kernel_rfl)
theorem Alk (h0:ieq x 32=false) (h1:ieq x 9=true):(Ay (Ai tab ⟨Am tb0,L,Gl⟩ Tryz.f50 [.val (.int .u8 x)] [])).sem=some ((bV true),[]):=by
 exact Ac (ks:=[kn h0,kn h0,kn h0,kn h1,kn h1,kn h1,kT,kT,kT]) (by kernel_rfl)
theorem Alj (h0:ieq x 32=false) (h1:ieq x 9=false) (h2:ieq x 10=true):(Ay (Ai tab ⟨Am tb0,L,Gl⟩ Tryz.f50 [.val (.int .u8 x)] [])).sem=some ((bV true),[]):=by
 exact Ac (ks:=[kn h0,kn h0,kn h0,kn h1,kn h1,kn h1,kn h2,kn h2,kn h2]) (by kernel_rfl)
theorem Ali (h0:ieq x 32=false) (h1:ieq x 9=false) (h2:ieq x 10=false):(Ay (Ai tab ⟨Am tb0,L,Gl⟩ Tryz.f50 [.val (.int .u8 x)] [])).sem=some ((bV (ieq x 13)),[]):=by
 exact Ac (ks:=[kn h0,kn h0,kn h0,kn h1,kn h1,kn h1,kn h2,kn h2,kn h2]) (by kernel_rfl)
end
def Xt:List V->AE
 | [.val (.int .u8 x)]=>out (bV (Fp x))
 | _=>.fail
theorem Agg {α:Type} {l:List α} {i:Nat} {d:α} (h:i<l.length):l.getD i d=l[i]:=by simp [List.getD,h]
theorem FC {s:List UInt8} {a:Nat} (h:a<s.length):s.drop a=s[a]::s.drop (a+1):=List.drop_eq_getElem_cons h
theorem Nw {s:List UInt8} {a:Nat} (h:a<s.length):Fp (ED s a)=Ha s[a]:=by
 unfold ED;rw [Agg h];exact AdI _
def Ml (l:List E6) (i:Nat):E6:=l.getD i ES
theorem UH {l:List E6} {e:E6} {i:Nat} (h:i<l.length+1):Ml (l++[e]) i=if i=l.length then e else Ml l i:=by
 unfold Ml;by_cases hi:i=l.length
 ·rw [if_pos hi,hi]; simp
 ·rw [if_neg hi]
  simp only [List.getD,List.getElem?_append_left (show i<l.length by omega)]
def EF (acc:List E6):Nat->V:=By (λi=>eV (Ml acc i)) acc.length
theorem ML {g g':Nat->V}:∀ n,(∀ i,i<n->g i=g' i)->By g n=By g' n
 | 0,_=>rfl
 | n+1,h=>by
  show As n (By g n) (g n)=As n (By g' n) (g' n);rw [h n (Nat.lt_succ_self n),ML n λi hi=>h i (by omega)]
theorem Zy (acc:List E6) (e:E6):As acc.length (EF acc) (eV e)=EF (acc++[e]):=by
 have h1:EF (acc++[e])=By (λi=>eV (Ml (acc++[e]) i)) (acc.length+1):=by
  unfold EF;rw [List.length_append];rfl
 rw [h1];show _=As acc.length (By (λi=>eV (Ml (acc++[e]) i)) acc.length) (eV (Ml (acc++[e]) acc.length));rw [UH (Nat.lt_succ_self _),if_pos rfl];unfold EF;rw [ML (g:=λi=>eV (Ml (acc++[e]) i)) (g':=λi=>eV (Ml acc i)) acc.length λi hi=>by
  show eV (Ml (acc++[e]) i)=eV (Ml acc i);rw [UH (by omega),if_neg (by omega)]]
def JB:Nat->List UInt8->List E6->List E6×E6
 | 0,_,acc=>(acc,ES)
 | _+1,[],acc=>(acc,ES)
 | q+1,c::l,acc =>
  if Ha c=true then JB q l acc
  else if Fg (BO (c::l))=0 then JB q ((c::l).drop (BO (c::l)).length) (acc++[Fh (BO (c::l))])
  else (acc,Fh (BO (c::l)))
def AdJ (s:List UInt8):Bool:=ilt 262144 (Int.ofNat (B5 s))
def psR (s:List UInt8):List E6×Int×Nat:=CX (s.length+1) s 0 []
def psL (s:List UInt8):List E6:=bif AdJ s then [] else (psR s).1
def psE (s:List UInt8):Int:=bif AdJ s then 2 else (psR s).2.1
def psI (s:List UInt8):Int:=bif AdJ s then 0 else Int.ofNat (psR s).2.2
def psN (s:List UInt8):Nat:=(psL s).length
def psG (s:List UInt8) (i:Nat):E6:=Ml (psL s) i
def psT:List V->AE
 | [.str s]=>.leaf (.tup [.ref 0,iV (psE s),iV (psI s)],[.row 92 6 (psN s) λi=>eV (psG s i)])
 | _=>.fail
theorem Oz:∀ (q:Nat) (l:List UInt8) (a:Nat) (acc:List E6),(CX q l a acc).2.1=0->(CX q l a acc).2.2=0
 | 0,_,_,_,_=>rfl
 | q+1,[],_,_,_=>rfl
 | q+1,c::l,a,acc,h=>by
  rw [CX] at h ⊢;split
  ·rename_i hc
   rw [if_pos hc] at h;exact Oz q _ _ _ h
  ·rename_i hc
   rw [if_neg hc] at h;split
   ·rename_i hp
    rw [if_pos hp] at h;exact Oz q _ _ _ h
   ·rename_i hp
    rw [if_neg hp] at h;cases h
theorem Akk {L:LT} (hL:LLe L L) (k:Nat) (r:Ex×St):LLe (onP k (isP L k r) r L) (onP k (isP L k r) r L):=λid f f' st hf r' hr=>by
 unfold onP at hr ⊢;cases hk:Nat.beq id k with
 | true =>rw [hk] at hr;obtain ⟨h1,h2⟩:=Ad hr;unfold isP at h1;have h1:=@of_decide_eq_true _ (Classical.propDecidable _) h1;have h3:isP L k r f' st=true:=Az (hL k f f' st hf _ h1);show sel (isP L k r f' st) _ _=_;rw [h3];exact h2
 | false =>rw [hk] at hr;exact hL id f f' st hf _ hr
end Go.Proofs.YtkgdhhieomndeaaGreatDoor.Ed
