/-
  Layer 7: the document's shape of a cycle, as derivations. No conditions.
-/
import Derived.Test.YtkbafjceglhjhaaGreatDoorShE
import Derived.Test.YtkbafjceglhjhaaGreatDoorEdX
import Derived.Test.YtkbafjceglhjhaaGreatDoorCyT
import Derived.Test.YtkbafjceglhjhaaGreatDoorCyZ
namespace Go.Proofs.YtkbafjceglhjhaaGreatDoor.Sh
open Go.Sy Ed
open Int (ofNat)
set_option maxHeartbeats 1000000
set_option maxRecDepth 100000
def AbY:List V->A9:=GK λn f=>.br (CJ n) (.br (Ef n f) (.leaf (.tup [.ref 0,iV 0],[.row 3 1 n λk=>iV (Az (λk=>A2 (f k)) n k)])) .fail) .fail
def AbX:List V->A9:=GK λn f=>.br (CJ n) (.br (Ef n f) (.leaf (.tup [.ref 0,iV 0],[.row 3 1 n λk=>iV (Az (λk=>A7 (f k)) n k)])) .fail) .fail
theorem p57:As Tryz.prog Gl 109 AbY:=As.congr Ed.p53 λvs r h=>by
 obtain ⟨v,rfl⟩:∃ v,vs=[v]:=by
  unfold AbY GK at h;split at h
  ·exact ⟨_,rfl⟩
  ·cases h
 unfold AbY GK at h;unfold JI GK;dsimp only at h ⊢;unfold apL at h ⊢;split at h
 ·rename_i n g hg
  obtain ⟨h1,h⟩:=Ac h;dsimp only at h;obtain ⟨h2,h⟩:=Ac h;obtain ⟨h3,h⟩:=Ac h;rw [h1];dsimp only;rw [h2,h3];exact h
 ·cases h
theorem p58:As Tryz.prog Gl 110 AbX:=As.congr Ed.p54 λvs r h=>by
 obtain ⟨v,rfl⟩:∃ v,vs=[v]:=by
  unfold AbX GK at h;split at h
  ·exact ⟨_,rfl⟩
  ·cases h
 unfold AbX GK at h;unfold JI GK;dsimp only at h ⊢;unfold apL at h ⊢;split at h
 ·rename_i n g hg
  obtain ⟨h1,h⟩:=Ac h;dsimp only at h;obtain ⟨h2,h⟩:=Ac h;obtain ⟨h3,h⟩:=Ac h;rw [h1];dsimp only;rw [h2,h3];exact h
 ·cases h
noncomputable def Ai4:AM:=(107,XE)::(108,Aar)::(109,AbY)::(110,AbX)::[]
theorem Ab4:Ar Tryz.prog Gl Ai4:=.cons p49 <| .cons p56 <| .cons p57 <| .cons p58 .nil
noncomputable def NR:FuncId->List V->St->T (V×Res):=LL [(111,Oo tab (cxA Gl AfQ Acu) Tryz.f111)] (A0 Ai4)
theorem Pm:Bl Tryz.prog ⟨NR,Gl⟩:=HY mixed (.cons rfl A8 (Bs Vl Acu).1 (Bs Vl Acu).2 Tryz.func111 (by kernel_rfl) (by kernel_rfl) .nil) (FA rfl Ab4)
theorem ile_nat (a b:Nat):ile (ofNat a) (ofNat b)=decide (a <= b):=by
 unfold ile;rw [Bool.eq_iff_iff];simp
theorem ZN (a b:Int):ieq a b=ieq b a:=by
 unfold ieq;rw [Bool.eq_iff_iff];simp only [beq_iff_eq];exact eq_comm
def plC (n:Nat) (g:Nat->E6) (b i:Nat):Int:=ofNat (Ai (λk=>ieq (thF n g k) (thF n g b)) i)
section
variable (A:Int) (n:Nat) (g:Nat->E6)
def jZf (c:Int) (l:List (Nat×V)):List V:=jsV 132 0 Ab ((4,.ptr 0 0)::(9,.ref 1)::(10,nV n)::(11,.ref 2)::(13,.ref 3)::(15,.ptr 4 0)::(16,iV c)::l)
def hZf (tt kk:Int) (b:Nat) (x r:Nat->V):List Blk:=[.cells [iV 0,.nilS,.nilS,iV 0,iV 0,.nilS,.nilS],.row 76 6 n (λi=>eV (g i)),.row 3 1 n (λi=>iV (thF n g i)),.row 3 1 n (λi=>iV (loF n g i)),.cells [iV A,.ref 1,.ref 5,iV tt,iV kk,.ref 6,.jref 7],.row 74 5 b x,.row 3 1 b r,jE]
def kZf (b:Nat):List Blk:=hZf A n g (ofNat (rN (obF g) n b)) (ofNat (rN (mbF g) n b)) b (λq=>evV (upX n g b q)) (λ_=>iV (-1))
def SZf (c:Int) (_:Unit):St:=⟨jZf n c [],kZf A n g (toN c)⟩
def TZf (c tt kk:Int) (b:Nat) (x r:Nat->V):St:=⟨jZf n c [],hZf A n g tt kk b x r⟩
def Adc:Ex×St:=(.ex 0,⟨jsV 132 0 Ab [(4,.ptr 0 0),(15,.ptr 4 0)],kZf A n g n⟩)
def gZf (i:Nat) (_:Unit):T (Unit ⊕ (Ex×St)):=.br (ile (ofNat (rN (obF g) n i)) (thF n g i)) (.br (ile (ofNat (rN (mbF g) n i)) (loF n g i)) (.leaf (.inl ())) (.leaf (.inl ()))) (.br (ile (ofNat (rN (mbF g) n i)) (loF n g i)) (.leaf (.inl ())) (.leaf (.inl ())))
variable (b:Nat)
def AaI (c p:Int):St:=⟨jZf n (ofNat b) [(17,.ptr 8 0),(18,iV c)],kZf A n g b++[.cells [iV (thF n g b),iV p,iV (g b).src,iV (loF n g b),iV 0]]⟩
def AaL (c:Int) (_:Unit):St:=AaI A n g b c (plC n g b (toN c))
def Q2:Ex×St:=(.ex 2,⟨jZf n (ofNat b) [(17,.ptr 8 0)],kZf A n g b++[.cells [iV (thF n g b),iV (plC n g b b),iV (g b).src,iV (loF n g b),iV 0]]⟩)
def AeA (i:Nat) (_:Unit):T (Unit ⊕ (Ex×St)):=.br (ieq (thF n g i) (thF n g b)) (.leaf (.inl ())) (.leaf (.inl ()))
def hpE (tt:Int) (k:Nat):List Blk:=hpX A n g (thF n g) (loF n g) tt k (λi=>evV (evF n g (dR n g k 0) i)) λi=>iV (rfF n g (dR n g k 0) i)
def W5 (c:Int) (h:List Blk):St:=⟨jsV 132 0 Ab [(4,.ptr 0 0),(15,.ptr 4 0),(19,iV c)],h⟩
def W7 (tt c:Int) (_:Unit):St:=W5 c (hpE A n g tt (toN c))
def Nz (tt:Int):Ex×St:=(.ex 4,⟨jsV 132 0 Ab [(4,.ptr 0 0),(15,.ptr 4 0)],hpE A n g tt (kkN n g)⟩)
def vs4 (tt:Int) (i:Nat):List V:=jsV 132 0 Ab [(4,.ptr 0 0),(15,.ptr 4 0),(19,nV i),(122,nV i),(123,.ptr 4 4),(124,iV (ofNat (kkN n g))),(125,bV (ilt (ofNat i) (ofNat (kkN n g)))),(128,.agg [iV A,.ref 1,.ref 5,iV tt,iV (ofNat (kkN n g)),.ref 6,.jref 7]),(129,nV i)]
end
def AjC:Lp:=⟨bmK 132 0 [4,9,10,11,13,15,16],8,bmK 132 0 [4,15],8,4611686018427387905⟩
def Zl:Lp:=⟨bmK 132 0 [4,9,10,11,13,15,16,17,18],9,bmK 132 0 [4,9,10,11,13,15,16,17],9,4611686018427387905⟩
def Uq:Lp:=⟨bmK 132 0 [4,15,19],8,bmK 132 0 [4,15],8,4611686018427387905⟩
def Xo (n:Nat) (g:Nat->E6):List (Nat×Lp×List (Nat×(Nat->V))):=[(0,AjC,[(5,λq=>evV (upX n g 0 q)),(6,λ_=>iV (-1))]),(2,Zl,[]),(4,Uq,[])]
noncomputable def BZf (id:Nat) (L:LT):St->T (Ex×St):=λst=>AL tab ⟨NR,L,Gl⟩ (A3 Tryz.f68 id) id st
theorem Ajr {n b i:Nat} {g:Nat->E6} (hi:i<b) (hb:b <= 16) {q:Bool} (h:ieq (thF n g i) (thF n g b)=q):sel q (wr .i64 (Ah (plC n g b i) 1)) (plC n g b i)=plC n g b (toN (wr .i64 (Ah (ofNat i) 1))):=by
 have hc:=By (λk=>ieq (thF n g k) (thF n g b)) i;rw [A1 hi (by omega)];show _=plC n g b (i+1);unfold plC;cases q with
 | true =>rw [Bp (p:=λk=>ieq (thF n g k) (thF n g b)) h,A1 (n:=b) (by omega) (by omega)];rfl
 | false =>rw [B6 (p:=λk=>ieq (thF n g k) (thF n g b)) h];rfl
theorem Ajg (L:LT) (A:Int) (n:Nat) (g:Nat->E6) (hn:n <= 16) {b:Nat} (hb:b<n):(A4 (BZf 2 L) Zl 4611686018427387905 (AaL A n g b 0 ())).sem=some (Q2 A n g b) :=
 AD (R:=exR) Bq (S:=λc a _=>AaL A n g b c a) (j:=λ_=>.und) (g:=AeA n g b) (fin:=λ_=>Q2 A n g b) (e:=Q2 A n g b) (n:=b) (by omega)
  (λi a j r hi he=>DK.ok (L:=goR (λc a _=>AaL A n g b c a) exR i) (.k (ofNat_lt hi) <| .k (Ae (Nat.lt_trans hi hb)) <| .k (decide_eq_true (Nat.lt_trans hi hb)) <| .k (Ae hb) <| .k (decide_eq_true hb) <|
   .c (λh1=>.k h1 <| .e (congrArg (λp=>(Ex.nm,AaI A n g b (wr .i64 (Ah (ofNat i) 1)) p)) (Ajr hi (by omega) h1))) λh1=>.k h1 <| .e (congrArg (λp=>(Ex.nm,AaI A n g b (wr .i64 (Ah (ofNat i) 1)) p)) (Ajr hi (by omega) h1))) (by kernel_rfl) he)
  (λa j=>DK.ok (C:=.leaf (Q2 A n g b)) (L:=exR) (.k (Au (Nat.le_refl b)) .l) (by kernel_rfl) rfl) (Nat.zero_add _).symm (by omega)
  (BE (acc:=λ_=>()) (λi _=>by unfold AeA; cases ieq (thF n g i) (thF n g b) <;> rfl) b 0 (Nat.zero_add b))
theorem Rn {p:Nat->Bool} {n i:Nat} (hi:i<n) (hn:n <= 16) {q:Bool} (h:ile (ofNat (rN p n i)) (Az p n i)=q):sel q (wr .i64 (Ah (Az p n i) 1)) (ofNat (rN p n i))=ofNat (rN p n (i+1)):=by
 have h1:=Md p n i hi;have h2:=RL p n i;rw [Fe hi,ile_nat] at h;rw [Fe hi,A1 (n:=n) (by omega) (by omega),rN];by_cases hl:AX p n i<rN p n i
 ·rw [decide_eq_false (by omega)] at h
  rw [if_pos hl,<- h];rfl
 ·rw [decide_eq_true (by omega)] at h
  rw [if_neg hl,<- h,show rN p n i=AX p n i by omega];rfl
theorem xZf (A:Int) {n:Nat} (g:Nat->E6) {i:Nat} (hi:i<n) (hn:n <= 16) {tt kk:Int} (h1:tt=ofNat (rN (obF g) n (i+1))) (h2:kk=ofNat (rN (mbF g) n (i+1))) :
  (Ex.nm,TZf A n g (wr .i64 (Ah (ofNat i) 1)) tt kk (B1 i 1) (Bb i (λq=>evV (upX n g i q)) (.agg [iV (thF n g i),iV (plC n g i i),iV (g i).src,iV (loF n g i),iV 0])) (Bb i (λ_=>iV (-1)) (iV (-1))))=(Ex.nm,SZf A n g (wr .i64 (Ah (ofNat i) 1)) ()):=by
 have hx:=Rk n g i;rw [show evV (evF n g (λ_=>false) i) = .agg [iV (thF n g i),iV (plC n g i i),iV (g i).src,iV (loF n g i),iV 0] by
  rw [Cz hi];unfold plC plF;rw [show (λk=>ieq (thF n g k) (thF n g i))=λk=>ieq (thF n g i) (thF n g k) from funext λk=>ZN _ _];rfl] at hx
 rw [hx,IY,h1,h2,A1 hi (by omega)];rfl
theorem rZf (A:Int) (n:Nat) (g:Nat->E6) (hn:n <= 16):(A4 (BZf 0 (Go.Sy.askL (Xo n g))) AjC 4611686018427387905 (SZf A n g 0 ())).sem=some (Adc A n g) :=
 AD (R:=exR) Bq (S:=λc a _=>SZf A n g c a) (j:=λ_=>.und) (g:=gZf n g) (fin:=λ_=>Adc A n g) (e:=Adc A n g) (n:=n) (by omega)
  (λi a j r hi he=>DK.ok (L:=goR (λc a _=>SZf A n g c a) exR i) (.k (ofNat_lt hi) <| .k (Ae hi) <| .k (decide_eq_true hi) <| .k (Ae hi) <| .k (decide_eq_true hi) <| .k (Ae hi) <| .k (decide_eq_true hi) <| .k (eI (ofNat i)) <| .k (Ae hi) <| .k (eJ i) <| .k (decide_eq_true hi) <| .k (eI (thF n g i)) <| .k (eI (ofNat i)) <| .k (Ae hi) <| .r 2 (eJ i) <| .k (decide_eq_true hi) <| .k (eI (g i).src) <| .k (eI (ofNat i)) <| .k (Ae hi) <| .k (eJ i) <| .k (decide_eq_true hi) <| .k (eI (loF n g i)) <| .k (eI (thF n g i)) <| .k (eI 0) <| .k (eI (g i).src) <| .k (eI (loF n g i)) <| .k (eI 0) <| .k (eI (ofNat i)) <| .k (Ae hi) <| .k (eJ i) <| .k (decide_eq_true hi) <| .k (eI (thF n g i)) <| .k (eI (ofNat i)) <| .k (Ae hi) <| .r 2 (eJ i) <| .k (decide_eq_true hi) <| .k (eI (g i).src) <| .k (eI (ofNat i)) <| .k (Ae hi) <| .k (eJ i) <| .k (decide_eq_true hi) <| .k (eI (loF n g i)) <| .k (eI (thF n g i)) <| .k (eI 0) <| .k (eI (g i).src) <| .k (eI (loF n g i)) <| .k (eI 0) <| .a (Ajg (Go.Sy.askL (Xo n g)) A n g hn hi) <| .k (show Cp i 1 40=true from Gc (by omega)) <| .k (show Cp i 1 8=true from Gc (by omega)) <| .k (Ae hi) <| .k (decide_eq_true hi) <| .c (λh1=>.k h1 <| .k (Ae hi) <| .k (decide_eq_true hi) <| .k (Ae hi) <| .k (decide_eq_true hi) <| .c (λh2=>.k h2 <| .k (Ae hi) <| .k (decide_eq_true hi) <| .e (xZf A g hi hn (Rn hi hn h1) (Rn hi hn h2))) λh2=>.k h2 <| .e (xZf A g hi hn (Rn hi hn h1) (Rn hi hn h2))) λh1=>.k h1 <| .k (Ae hi) <| .k (decide_eq_true hi) <| .c (λh3=>.k h3 <| .k (Ae hi) <| .k (decide_eq_true hi) <| .e (xZf A g hi hn (Rn hi hn h1) (Rn hi hn h3))) λh3=>.k h3 <| .e (xZf A g hi hn (Rn hi hn h1) (Rn hi hn h3))) (by kernel_rfl) he)
  (λa j=>DK.ok (C:=.leaf (Adc A n g)) (L:=exR) (.k (Au (Nat.le_refl n)) .l) (by kernel_rfl) rfl) (Nat.zero_add _).symm (by omega)
  (BE (acc:=λ_=>()) (λi _=>by unfold gZf; cases ile (ofNat (rN (obF g) n i)) (thF n g i) <;> cases ile (ofNat (rN (mbF g) n i)) (loF n g i) <;> rfl) n 0 (Nat.zero_add n))
theorem okC (n:Nat) (g:Nat->E6) (b:Nat):(Be b λu=>Be (lnR n g b u) λq=>okI (coR n g b u q))=true:=AE.2 λu hu=>AE.2 λq hq=>by
 unfold lnR at hq;unfold coR;rw [show Nat.blt u b=true from Nat.ble_eq_true_of_le hu] at hq ⊢;rw [show Nat.blt q (lnN (mbF g) (wrF g) n u)=true from Nat.ble_eq_true_of_le hq];rfl
theorem AeP {u b:Nat} (h:u ≠ b):Nat.blt u (b+1)=Nat.blt u b:=by
 rw [Bool.eq_iff_iff];simp only [Nat.blt_eq];omega
theorem AhR (A:Int) {n:Nat} {g:Nat->E6} (tt:Int) {i:Nat} (hi:i<kkN n g) :
  (hpX A n g (thF n g) (loF n g) tt 0 (λq=>evV (evF n g (dR n g i (BY (mbF g) n (zN n g i))) q)) λq=>iV (rfF n g (dR n g i (BY (mbF g) n (zN n g i))) q)).take 7++[.jag ⟨24,1,B1 i 1,Bb i Ab .und,0,3,1,λu=>sel (BM u i) true true,λu=>sel (BM u i) (wcN (wrF g) n (zN n g i) (BY (mbF g) n (zN n g i))) (lnR n g i u),Es (λu q=>coR n g i u q) i λq=>wvR n g i (BY (mbF g) n (zN n g i)) q,none⟩]=hpE A n g tt (i+1):=by
 obtain ⟨z1,z2,z3⟩:=zk hi;have hd:=Ws (G3 (mbF g) n) z1 z2;rw [show AX (mbF g) n (zN n g i)=i from z3] at hd;rw [IY,show dR n g i (BY (mbF g) n (zN n g i))=dR n g (i+1) 0 from hd,show (λu=>sel (BM u i) true true)=λ_=>true from funext λu=>by cases BM u i <;> rfl,
  show (λu=>sel (BM u i) (wcN (wrF g) n (zN n g i) (BY (mbF g) n (zN n g i))) (lnR n g i u))=lnR n g (i+1) from funext λu=>by
   unfold lnR;by_cases h:u=i
   ·subst h
    rw [show BM u u=true from Nat.beq_refl _,show Nat.blt u (u+1)=true from Nat.ble_eq_true_of_le (Nat.le_refl _)];rfl
   ·rw [show BM u i=false from nbeq_ne h,AeP h]
    rfl,
  show (Es (λu q=>coR n g i u q) i λq=>wvR n g i (BY (mbF g) n (zN n g i)) q)=λu q=>coR n g (i+1) u q from funext λu=>funext λq=>by
   unfold Es;rw [FI];unfold coR;by_cases h:u=i
   ·subst h
    rw [show BM u u=true from Nat.beq_refl _,show Nat.blt u (u+1)=true from Nat.ble_eq_true_of_le (Nat.le_refl _)];rfl
   ·rw [show BM u i=false from nbeq_ne h,AeP h]
    rfl]
 rfl
theorem Ajf (L:LT) (A:Int) (n:Nat) (g:Nat->E6) (tt:Int) (hn:n <= 16):(A4 (BZf 4 L) Uq 4611686018427387905 (W7 A n g tt 0 ())).sem=some (Nz A n g tt):=by
 have hkn:kkN n g <= n:=By _ _;exact AD (R:=exR) Bq (S:=λc a _=>W7 A n g tt c a) (j:=λ_=>.und) (g:=gGo) (fin:=λ_=>Nz A n g tt) (e:=Nz A n g tt) (n:=kkN n g) (by omega)
  (λi a j r hi he=>DK.ok (L:=goR (λc a _=>W7 A n g tt c a) exR i) (.k (ofNat_lt hi) <| .k (eG [i]) <| .r 3 (eL n) <| .k (okC n g i) <| .k (eJ n) <| .k (show Ao n=true from decide_eq_true (by omega)) <| .a (r56 hi hn A (thF n g) (loF n g) tt (vs4 A n g tt i) (by kernel_rfl) (by kernel_rfl)) <| .k eT <| .k (show Cp i 1 24=true from Gc (by omega)) <|
   .e (congrArg (λh=>(Ex.nm,W5 (wr .i64 (Ah (ofNat i) 1)) h)) ((AhR A tt hi).trans (congrArg (hpE A n g tt) (show i+1=toN (wr .i64 (Ah (ofNat i) 1)) by rw [A1 hi (by omega)]; rfl))))) (by kernel_rfl) he)
  (λa j=>DK.ok (C:=.leaf (Nz A n g tt)) (L:=exR) (.k (Au (Nat.le_refl (kkN n g))) .l) (by kernel_rfl) rfl) (Nat.zero_add _).symm (by omega) (ZV _)
theorem AeL (n:Nat) (g:Nat->E6):dnF n g (loN n g) 0 0=λ_=>false:=by
 funext j;unfold dnF;rw [Aam];simp
theorem Yb (n:Nat) (g:Nat->E6):upX n g n=evF n g (dnF n g (loN n g) 0 0):=by
 rw [AeL,Vg,Aan]
def Aje (n:Nat) (g:Nat->E6):List Blk:=[.row 76 6 n (λi=>eV (g i)),.row 74 5 n (λi=>evV (evF n g (dR n g (kkN n g) 0) i)),.row 3 1 n (λi=>iV (rfF n g (dR n g (kkN n g) 0) i)),
 .jag ⟨24,1,kkN n g,λ_=>.und,0,3,1,λ_=>true,lnR n g (kkN n g),λk i=>coR n g (kkN n g) k i,none⟩]
theorem AbQ {n:Nat} {g:Nat->E6} (hk:0<kkN n g):Aw (Aje n g) (TJ n g):=by
 have hd:∀ i,i<n->dR n g (kkN n g) 0 i=true:=λi hi=>by
  show dnF n g (loN n g) (kkN n g) 0 i=true;unfold dnF;rw [decide_eq_true hi,SO]
  ·rfl
  ·exact Ni hi hk
 refine .cons (λ_ _=>rfl) (.cons (λi hi=>?_) (.cons (λi hi=>?_) (.consB (.jag (λ_ _=>.inr rfl) (λ_ _=>rfl) (λk hk'=>?_) (λk hk' q hq=>?_)) (.refl []))))
 ·rw [Cz hi,Cz hi,hd i hi]
 ·unfold rfF
  rw [hd i hi]
 ·have hk':k<kkN n g:=hk'
  show lnN _ _ n k=lnR n g (kkN n g) k;unfold lnR;rw [show Nat.blt k (kkN n g)=true from Nat.ble_eq_true_of_le hk'];rfl
 ·have hk':k<kkN n g:=hk'
  have hq:q<lnR n g (kkN n g) k:=hq;unfold lnR at hq;rw [show Nat.blt k (kkN n g)=true from Nat.ble_eq_true_of_le hk'] at hq;show iV _=coR n g (kkN n g) k q;unfold coR;rw [show Nat.blt k (kkN n g)=true from Nat.ble_eq_true_of_le hk',show Nat.blt q (lnN (mbF g) (wrF g) n k)=true from Nat.ble_eq_true_of_le hq];rfl
theorem AjY (L:LT) (A:Int) {n:Nat} {g:Nat->E6} (hy:IsCycle A n g):(A4 (BZf 4 L) Uq 4611686018427387905 (W5 0 (kZf A n g n))).sem=some (Nz A n g (ofNat (ttN n g))):=by
 have h:=Ajf L A n g (ofNat (ttN n g)) hy.hi;rw [show W7 A n g (ofNat (ttN n g)) 0 ()=W5 0 (hpE A n g (ofNat (ttN n g)) 0) from rfl] at h;unfold hpE at h;rw [show dR n g 0 0=dnF n g (loN n g) 0 0 from rfl,<- Yb,AeL] at h;unfold kZf;rw [show rN (obF g) n n=ttN n g from PR hy.outer,show rN (mbF g) n n=kkN n g from PR hy.moves];exact h
def CZf (A:Int) (n:Nat) (f:Nat->E6):A9:=.br (CJ n) (.br (ieq (Gw A n f) 0) (.leaf (.tup [TI A n (shG n f),iV 0,iV 0],Aje n (shG n f))) (.leaf (.tup [noV,iV (Gw A n f),iV (AhC A n f)],noH))) .fail
theorem p15:As Tryz.prog Gl 68 ofT:=by
 refine Am A8 mixed Tryz.func68 (by kernel_rfl) (by kernel_rfl) λvs v h' h=>?_;unfold ofT at h;split at h
 ·rename_i A u
  obtain ⟨n,f,ha,h1⟩:=Ck h;obtain ⟨h8,hq⟩:=Ac h1;have m:=λ(hc:ieq (Gw A n f) 0=true)=>(Ev (Bj hc)).may;have w:=show DK (λa=>a) (CZf A n f) _ from .k (eL n) <| .g λh8=>.k h8 <| .c (λhc=>.k (eN hc) <| .k (eL n) <| .k h8 <| .k (SU.2 ⟨A,Bj hc⟩) <| .k (eL n) <| .k h8 <| .k (m hc) <| .k (DZ (n:=n)) <| .k (eL n) <| .k h8 <| .k (m hc) <| .k (DZ (n:=n)) <|
   .a (rZf A n (shG n f) (Bj hc).hi) <| .a (AjY (Go.Sy.askL (Xo n (shG n f))) A (Ev (Bj hc))) .l) λhc=>.k (eN hc) .l
  have R:=λr (h:(CZf A n f).sem=some r)=>DK.of (t:=Ax (Ak tab ⟨NR,Go.Sy.askL (Xo n (shG n f)),Gl⟩ Tryz.f68 [iV A,AC n f] [])) h w (by kernel_rfl);unfold CZf at R;cases hc:ieq (Gw A n f) 0 with
  | true =>rw [hc] at hq;have:=Aa hq;simp only [Prod.mk.injEq] at this;obtain ⟨rfl,rfl⟩:=this;have hm:=(Ev (Bj hc)).moves;exact ⟨_,⟨NR,Go.Sy.askL (Xo n (shG n f)),Gl⟩,_,UY ha,rfl,Pm,Ga _ _ _,R _ (by rw [h8,hc]; rfl),AbQ (by show 0<Ai (λk=>A7 (shG n f k)) n; omega)⟩
  | false =>rw [hc] at hq;have:=Aa hq;simp only [Prod.mk.injEq] at this;obtain ⟨rfl,rfl⟩:=this;exact ⟨_,⟨NR,Go.Sy.askL (Xo n (shG n f)),Gl⟩,_,UY ha,rfl,Pm,Ga _ _ _,R _ (by rw [h8,hc]; rfl),Aw.refl _⟩
 ·cases h
end Go.Proofs.YtkbafjceglhjhaaGreatDoor.Sh
namespace Go.Proofs.YtkbafjceglhjhaaGreatDoor.Sh
open Go.Sy Ed
open Int (ofNat)
set_option maxHeartbeats 1000000
set_option maxRecDepth 4000
theorem Ci {n:Nat} (h:Ao n=true):n <= 4611686018427387904:=of_decide_eq_true h
theorem Js {a b:Bool} (h:a=true):Aj a b=b:=by rw [h]; rfl
theorem UX {a b:Bool} (h:a=false):Aj a b=false:=by rw [h]; rfl
theorem BP {n m:Nat} (h:ieq (ofNat n) (ofNat m)=true):n=m:=by
 rw [Dw] at h;exact of_decide_eq_true h
def D3 (n:Nat) (f:Nat->Int) (m:Nat) (g:Nat->Int):Bool:=Aj (ieq (ofNat n) (ofNat m)) (Be n λk=>ieq (f k) (g k))
def AjN:Lp:=⟨bmK 26 0 [0,1,4,5],0,bmK 26 0 [4],0,4611686018427387905⟩
def S30 (n:Nat) (f:Nat->Int) (m:Nat) (g:Nat->Int) (c:Int) (a:Unit) (j:Nat->V):St:=⟨jsV 26 0 j [(0,.sl 1 n (λi=>iV (f i))),(1,.sl 1 m (λi=>iV (g i))),(4,bV false),(5,iV c)],[]⟩
noncomputable def B30 (L:LT):St->T (Ex×St):=λst=>AL tab ⟨A0 tb0,L,Gl⟩ (A3 Tryz.f148 0) 0 st
def AhW (n:Nat) (f:Nat->Int) (m:Nat) (g:Nat->Int) (i:Nat) (a:Unit):Ex×St:=(.rt,⟨jsV 26 0 Ab [(4,bV false)],[]⟩)
def g30 (n:Nat) (f:Nat->Int) (m:Nat) (g:Nat->Int) (i:Nat) (a:Unit):T ((Unit) ⊕ (Ex×St)):=.br (ieq (f i) (g i)) (.leaf (.inl ())) (.leaf (.inr (AhW n f m g i a)))
def Ak0 (n:Nat) (f:Nat->Int) (m:Nat) (g:Nat->Int) (a:Unit):Ex×St:=(.ex 0,⟨jsV 26 0 Ab [(4,bV false)],[]⟩)
theorem r30 (L:LT) (n:Nat) (f:Nat->Int) (m:Nat) (g:Nat->Int) (hm:n=m) (hn:n <= 4611686018427387904) {e:Ex×St} {a:Unit} {j:Nat->V} (h:BV (g30 n f m g) (Ak0 n f m g) n 0 a=some e):(A4 (B30 L) AjN 4611686018427387905 (S30 n f m g 0 a j)).sem=some (exR e) :=
 AD Bq hn (λi a j r hi h=>DK.ok (L:=goR (S30 n f m g) exR i) (.k (ofNat_lt hi) <| .k (Ae hi) <| .k (Ae (hm ▸ hi)) <| .c (λh1=>.k (eN h1) <| .l) λh1=>.k (eN h1) <| .l) (by kernel_rfl) h) (λa j=>DK.ok (C:=.leaf (Ak0 n f m g a)) (L:=exR) (.k (Au (Nat.le_refl n)) .l) (by kernel_rfl) rfl) (Nat.zero_add _).symm (Nat.lt_succ_of_le hn) h
def Acy:List (Nat×Lp×List (Nat×(Nat->V))):=[(0,AjN,[])]
def C30 (n:Nat) (f:Nat->Int) (m:Nat) (g:Nat->Int):A9:=.br (ieq (ofNat n) (ofNat m)) (.br (Be n λk=>ieq (f k) (g k)) (.leaf ((bV true),[])) (.leaf ((bV false),[]))) (.leaf ((bV false),[]))
theorem AdB (n:Nat) (f:Nat->Int) (m:Nat) (g:Nat->Int):(C30 n f m g).sem=some (bV (D3 n f m g),[]):=by
 unfold C30 D3;cases ieq (ofNat n) (ofNat m)
 ·rfl
 cases Be n λk=>ieq (f k) (g k) <;> rfl
def HF:List V->A9
 | [v,u]=>apG QL v λn f=>apG QL u λm g=>.br (Ao n) (.leaf (bV (D3 n f m g),[])) .fail
 | _=>.fail
theorem p61:As Tryz.prog Gl 148 HF:=by
 refine Am A8 mixed Tryz.func148 (by kernel_rfl) (by kernel_rfl) λvs v h' h=>?_;unfold HF at h;split at h
 ·rename_i v1 u1
  obtain ⟨n,f,a1,h⟩:=BX h;obtain ⟨m,g,a2,h⟩:=BX h;obtain ⟨hn,h⟩:=Ac h;have:=Aa h;simp only [Prod.mk.injEq] at this;obtain ⟨rfl,rfl⟩:=this;have hn:=Ci hn;have w:DK (λa=>a) (C30 n f m g) _:=.c (λh1=>.k (eN h1) <| .c (λh2=>.a (r30 (askL Acy) n f m g (BP h1) hn (j:=λ_=>.und) (NW (λ_ _=>rfl) h2)) <| .l) λh2=>.a (r30 (askL Acy) n f m g (BP h1) hn (j:=λ_=>.und) (NX (λ_ _=>rfl) h2)) <| .l) λh1=>.k (eN h1) <| .l
  have hx:=Bs CN Acy (G:=Gl);exact ⟨_,cxA Gl tb0 Acy,_,(show BC [v1,u1] [.sl 1 n (λi=>iV (f i)),.sl 1 m (λi=>iV (g i))] from λS w cs hv=>by
   obtain ⟨c,l,rfl,q1,c',l',rfl,q2,q3⟩:=hv;exact ⟨c,_,rfl,a1 S w c q1,c',l',rfl,a2 S w c' q2,q3⟩),rfl,hx.1,hx.2,DK.of (AdB n f m g) w (by kernel_rfl),Aw.refl _⟩
 ·cases h
def Fz (n:Nat) (ln:Nat->Nat) (co:Nat->Nat->Int) (m:Nat) (ln':Nat->Nat) (co':Nat->Nat->Int):Bool:=Aj (ieq (ofNat n) (ofNat m)) (Be n λk=>D3 (ln k) (co k) (ln' k) (co' k))
noncomputable def AfP:AM:=(148,HF)::[]
theorem Abr:Ar Tryz.prog Gl AfP:=.cons p61 .nil
def AjM:Lp:=⟨bmK 27 0 [0,1,4,5],0,bmK 27 0 [4],0,4611686018427387905⟩
def S31 (n:Nat) (C:Nat->Nat×(Nat->Int)) (m:Nat) (D:Nat->Nat×(Nat->Int)) (c:Int) (a:Unit) (j:Nat->V):St:=⟨jsV 27 0 j [(0,.sl 1 n (λu=>.sl 1 (C u).1 (λi=>iV ((C u).2 i)))),(1,.sl 1 m (λu=>.sl 1 (D u).1 (λi=>iV ((D u).2 i)))),(4,bV false),(5,iV c)],[]⟩
noncomputable def B31 (L:LT):St->T (Ex×St):=λst=>AL tab ⟨A0 AfP,L,Gl⟩ (A3 Tryz.f149 0) 0 st
def AhV (n:Nat) (C:Nat->Nat×(Nat->Int)) (m:Nat) (D:Nat->Nat×(Nat->Int)) (i:Nat) (a:Unit):Ex×St:=(.rt,⟨jsV 27 0 Ab [(4,bV false)],[]⟩)
def g31 (n:Nat) (C:Nat->Nat×(Nat->Int)) (m:Nat) (D:Nat->Nat×(Nat->Int)) (i:Nat) (a:Unit):T ((Unit) ⊕ (Ex×St)):=.br (D3 (C i).1 (C i).2 (D i).1 (D i).2) (.leaf (.inl ())) (.leaf (.inr (AhV n C m D i a)))
def Akz (n:Nat) (C:Nat->Nat×(Nat->Int)) (m:Nat) (D:Nat->Nat×(Nat->Int)) (a:Unit):Ex×St:=(.ex 0,⟨jsV 27 0 Ab [(4,bV false)],[]⟩)
theorem r31 (L:LT) (n:Nat) (C:Nat->Nat×(Nat->Int)) (m:Nat) (D:Nat->Nat×(Nat->Int)) (hm:n=m) (hs:(Be n λk=>Ao (C k).1)=true) (hn:n <= 4611686018427387904) {e:Ex×St} {a:Unit} {j:Nat->V} (h:BV (g31 n C m D) (Akz n C m D) n 0 a=some e):(A4 (B31 L) AjM 4611686018427387905 (S31 n C m D 0 a j)).sem=some (exR e) :=
 AD Bq hn (λi a j r hi h=>DK.ok (L:=goR (S31 n C m D) exR i) (.k (ofNat_lt hi) <| .k (Ae hi) <| .k (Ae (hm ▸ hi)) <| .k (eL (C i).1) <| .k (eL (D i).1) <| .k (AE.1 hs i hi) <| .c (λh1=>.k (eN h1) <| .l) λh1=>.k (eN h1) <| .l) (by kernel_rfl) h) (λa j=>DK.ok (C:=.leaf (Akz n C m D a)) (L:=exR) (.k (Au (Nat.le_refl n)) .l) (by kernel_rfl) rfl) (Nat.zero_add _).symm (Nat.lt_succ_of_le hn) h
def Acx:List (Nat×Lp×List (Nat×(Nat->V))):=[(0,AjM,[])]
def C31 (n:Nat) (C:Nat->Nat×(Nat->Int)) (m:Nat) (D:Nat->Nat×(Nat->Int)):A9:=.br (ieq (ofNat n) (ofNat m)) (.br (Be n λk=>D3 (C k).1 (C k).2 (D k).1 (D k).2) (.leaf ((bV true),[])) (.leaf ((bV false),[]))) (.leaf ((bV false),[]))
theorem AdA (n:Nat) (C:Nat->Nat×(Nat->Int)) (m:Nat) (D:Nat->Nat×(Nat->Int)):(C31 n C m D).sem=some (bV (Fz n (λi=>(C i).1) (λi=>(C i).2) m (λi=>(D i).1) (λi=>(D i).2)),[]):=by
 unfold C31 Fz;cases ieq (ofNat n) (ofNat m)
 ·rfl
 cases Be n λk=>D3 (C k).1 (C k).2 (D k).1 (D k).2 <;> rfl
def TP:List V->A9
 | [v,u]=>apG codJ v λn C=>apG codJ u λm D=>.br (Ao n) (.br (Be n λi=>Ao (C i).1) (.leaf (bV (Fz n (λi=>(C i).1) (λi=>(C i).2) m (λi=>(D i).1) (λi=>(D i).2)),[])) .fail) .fail
 | _=>.fail
theorem p62:As Tryz.prog Gl 149 TP:=by
 refine Am A8 mixed Tryz.func149 (by kernel_rfl) (by kernel_rfl) λvs v h' h=>?_;unfold TP at h;split at h
 ·rename_i v1 u1
  obtain ⟨n,C,a1,h⟩:=BX h;obtain ⟨m,D,a2,h⟩:=BX h;obtain ⟨hn,h⟩:=Ac h;obtain ⟨hs,h⟩:=Ac h;have:=Aa h;simp only [Prod.mk.injEq] at this;obtain ⟨rfl,rfl⟩:=this;have w:DK (λa=>a) (C31 n C m D) _:=.c (λh1=>.k (eN h1) <| .c (λh2=>.a (r31 (askL Acx) n C m D (BP h1) hs (Ci hn) (j:=λ_=>.und) (NW (λ_ _=>rfl) h2)) <| .l) λh2=>.a (r31 (askL Acx) n C m D (BP h1) hs (Ci hn) (j:=λ_=>.und) (NX (λ_ _=>rfl) h2)) <| .l) λh1=>.k (eN h1) <| .l
  have hx:=Bs Abr Acx (G:=Gl);exact ⟨_,cxA Gl AfP Acx,_,(show BC [v1,u1] [.sl 1 n (λu=>.sl 1 (C u).1 (λi=>iV ((C u).2 i))),.sl 1 m (λu=>.sl 1 (D u).1 (λi=>iV ((D u).2 i)))] from λS w cs hv=>by
   obtain ⟨c,l,rfl,q1,c',l',rfl,q2,q3⟩:=hv;exact ⟨c,_,rfl,a1 S w c q1,c',l',rfl,a2 S w c' q2,q3⟩),rfl,hx.1,hx.2,DK.of (AdA n C m D) w (by kernel_rfl),Aw.refl _⟩
 ·cases h
def H3 (e e':Ev5):Bool:=Aj (ieq e.th e'.th) (Aj (ieq e.pl e'.pl) (Aj (ieq e.dir e'.dir) (Aj (ieq e.loc e'.loc) (Aj (ieq e.val e'.val) true))))
noncomputable def tb16:AM:=(43,RD)::(148,HF)::(149,TP)::[]
theorem tb16_ok:Ar Tryz.prog Gl tb16:=.cons p42 <| .cons p61 <| .cons p62 .nil
def IK (s s':Sh7):Bool:=Aj (ieq s.arch s'.arch) (Aj (ieq s.tt s'.tt) (Aj (ieq s.kk s'.kk) (Aj (DY s.ne s.E s'.ne s'.E) (Aj (ieq (ofNat s.nx) (ofNat s'.nx)) (Aj (D3 s.nr s.R s'.nr s'.R)
 (Aj (Fz s.nc (λi=>(s.C i).1) (λi=>(s.C i).2) s'.nc (λi=>(s'.C i).1) (λi=>(s'.C i).2)) (Be s.nx λk=>H3 (s.X k) (s'.X k))))))))
def IV (s:Sh7):Bool:=Aj (Ao s.ne) (Aj (Ao s.nx) (Aj (Ao s.nr) (Aj (Ao s.nc) (Be s.nc λi=>Ao (s.C i).1))))
def lp9:Lp:=⟨bmK 76 0 [2,3,4,5],2,bmK 76 0 [4],0,4611686018427387905⟩
def S9 (s s':Sh7) (c:Int) (a:Unit) (j:Nat->V):St:=⟨jsV 76 0 j [(2,.ptr 0 0),(3,.ptr 1 0),(4,bV false),(5,iV c)],[.cells [iV s.arch,.sl 6 s.ne (λi=>eV (s.E i)),.sl 5 s.nx (λi=>evV (s.X i)),iV s.tt,iV s.kk,.sl 1 s.nr (λi=>iV (s.R i)),.sl 1 s.nc (λu=>.sl 1 (s.C u).1 (λi=>iV ((s.C u).2 i)))],.cells [iV s'.arch,.sl 6 s'.ne (λi=>eV (s'.E i)),.sl 5 s'.nx (λi=>evV (s'.X i)),iV s'.tt,iV s'.kk,.sl 1 s'.nr (λi=>iV (s'.R i)),.sl 1 s'.nc (λu=>.sl 1 (s'.C u).1 (λi=>iV ((s'.C u).2 i)))]]⟩
noncomputable def B9 (L:LT):St->T (Ex×St):=λst=>AL tab ⟨A0 tb16,L,Gl⟩ (A3 Tryz.f102 0) 0 st
def AkY (s s':Sh7) (i:Nat) (a:Unit):Ex×St:=(.rt,⟨jsV 76 0 Ab [(4,bV false)],[]⟩)
def g9 (s s':Sh7) (i:Nat) (a:Unit):T ((Unit) ⊕ (Ex×St)):=.br (Aj (ieq (s.X i).th (s'.X i).th) (Aj (ieq (s.X i).pl (s'.X i).pl) (Aj (ieq (s.X i).dir (s'.X i).dir) (Aj (ieq (s.X i).loc (s'.X i).loc) (Aj (ieq (s.X i).val (s'.X i).val) true))))) (.leaf (.inl ())) (.leaf (.inr (AkY s s' i a)))
def fn9 (s s':Sh7) (a:Unit):Ex×St:=(.ex 0,⟨jsV 76 0 Ab [(4,bV false)],[]⟩)
theorem r9 (L:LT) (s s':Sh7) (hm:s.nx=s'.nx) (hn:s.nx <= 4611686018427387904) {e:Ex×St} {a:Unit} {j:Nat->V} (h:BV (g9 s s') (fn9 s s') s.nx 0 a=some e):(A4 (B9 L) lp9 4611686018427387905 (S9 s s' 0 a j)).sem=some (exR e) :=
 AD Bq hn (λi a j r hi h=>DK.ok (L:=goR (S9 s s') exR i) (.k (ofNat_lt hi) <| .k (Ae hi) <| .k (Ae (hm ▸ hi)) <| .c (λh1=>.k (eN h1) <| .l) λh1=>.k (eN h1) <| .l) (by kernel_rfl) h) (λa j=>DK.ok (C:=.leaf (fn9 s s' a)) (L:=exR) (.k (Au (Nat.le_refl s.nx)) .l) (by kernel_rfl) rfl) (Nat.zero_add _).symm (Nat.lt_succ_of_le hn) h
def ls9:List (Nat×Lp×List (Nat×(Nat->V))):=[(0,lp9,[])]
def C9 (s s':Sh7):A9:=.br (ieq s.arch s'.arch) (.br (ieq s.tt s'.tt) (.br (ieq s.kk s'.kk) (.br (DY s.ne (λi=>s.E i) s'.ne (λi=>s'.E i)) (.br (ieq (ofNat s.nx) (ofNat s'.nx)) (.br (D3 s.nr s.R s'.nr s'.R) (.br (Fz s.nc (λi=>(s.C i).1) (λi i_1=>(s.C i).2 i_1) s'.nc (λi=>(s'.C i).1) (λi i_1=>(s'.C i).2 i_1)) (.br (Be s.nx λk=>H3 (s.X k) (s'.X k)) (.leaf ((bV true),[])) (.leaf ((bV false),[]))) (.leaf ((bV false),[]))) (.leaf ((bV false),[]))) (.leaf ((bV false),[]))) (.leaf ((bV false),[]))) (.leaf ((bV false),[]))) (.leaf ((bV false),[]))) (.leaf ((bV false),[]))
theorem AhO (s s':Sh7):(C9 s s').sem=some (bV (IK s s'),[]):=by
 unfold C9 IK;cases ieq s.arch s'.arch
 ·rfl
 cases ieq s.tt s'.tt
 ·rfl
 cases ieq s.kk s'.kk
 ·rfl
 cases DY s.ne s.E s'.ne s'.E
 ·rfl
 cases ieq (ofNat s.nx) (ofNat s'.nx)
 ·rfl
 cases D3 s.nr s.R s'.nr s'.R
 ·rfl
 cases Fz s.nc (λi=>(s.C i).1) (λi=>(s.C i).2) s'.nc (λi=>(s'.C i).1) (λi=>(s'.C i).2)
 ·rfl
 cases Be s.nx λk=>H3 (s.X k) (s'.X k) <;> rfl
def IX:List V->A9
 | [v,u]=>apS v λs=>apS u λs'=>.br (IV s) (.leaf (bV (IK s s'),[])) .fail
 | _=>.fail
theorem p16:As Tryz.prog Gl 102 IX:=by
 refine Am A8 mixed Tryz.func102 (by kernel_rfl) (by kernel_rfl) λvs v h' h=>?_;unfold IX at h;split at h
 ·rename_i v1 u1
  obtain ⟨s,a1,h⟩:=apS_some h;obtain ⟨s',a2,h⟩:=apS_some h;obtain ⟨hn,h⟩:=Ac h;have:=Aa h;simp only [Prod.mk.injEq] at this;obtain ⟨rfl,rfl⟩:=this;have hn:Ao s.ne=true∧Ao s.nx=true∧Ao s.nr=true∧Ao s.nc=true∧(Be s.nc λi=>Ao (s.C i).1)=true:=by simpa [IV,Aj] using hn
  obtain ⟨n1,n2,n3,n4,n5⟩:=hn;have w:DK (λa=>a) (C9 s s') _:=.c (λh1=>.r 6 (eN h1) <| .c (λh2=>.r 6 (eN h2) <| .c (λh3=>.r 5 (eN h3) <| .k (eL s.ne) <| .k (eL s'.ne) <| .k n1 <| .r 2 (eN h3) <| .c (λh4=>.r 8 (eN h4) <| .c (λh5=>.r 5 (eN h5) <| .k (eL s.nr) <| .k (eL s'.nr) <| .k n3 <| .r 2 (eN h5) <| .c (λh6=>.r 5 (eN h6) <| .k (eL2 s.nc s.C) <| .k (eL2 s'.nc s'.C) <| .k n4 <| .k n5 <| .r 2 (eN h6) <| .c (λh7=>.k (eN h7) <| .c (λh8=>.a (r9 (askL ls9) s s' (BP h5) (Ci n2) (j:=λ_=>.und) (NW (λ_ _=>rfl) h8)) <| .l) λh8=>.a (r9 (askL ls9) s s' (BP h5) (Ci n2) (j:=λ_=>.und) (NX (λ_ _=>rfl) h8)) <| .l) λh7=>.k (eN h7) <| .l) λh6=>.r 7 (eN h6) <| .k eT <| .l) λh5=>.r 7 (eN h5) <| .r 8 eT <| .l) λh4=>.r 8 (eN h4) <| .r 15 eT <| .l) λh3=>.r 7 (eN h3) <| .r 23 eT <| .l) λh2=>.r 6 (eN h2) <| .r 30 eT <| .l) λh1=>.r 6 (eN h1) <| .r 36 eT <| .l
  have hx:=Bs tb16_ok ls9 (G:=Gl);exact ⟨_,cxA Gl tb16 ls9,_,(show BC [v1,u1] [GQ s,GQ s'] from λS w cs hv=>by
   obtain ⟨c,l,rfl,q1,c',l',rfl,q2,q3⟩:=hv;exact ⟨c,_,rfl,a1 S w c q1,c',l',rfl,a2 S w c' q2,q3⟩),rfl,hx.1,hx.2,DK.of (AhO s s') w (by kernel_rfl),Aw.refl _⟩
 ·cases h
end Go.Proofs.YtkbafjceglhjhaaGreatDoor.Sh
namespace Go.Proofs.YtkbafjceglhjhaaGreatDoor.Ed
open Go.Sy Go
def UU (x:Int):Bool:=bor (ieq x 32) (bor (ieq x 9) (bor (ieq x 10) (ieq x 13)))
section
variable (L:LT) (x:Int)
include L x
theorem AdH (h0:ieq x 32=true):(Ax (Ak tab ⟨A0 tb0,L,Gl⟩ Tryz.f105 [.val (.int .u8 x)] [])).sem=some ((bV true),[]):=by
 exact Ad (ks:=[kn h0,kn h0,kn h0,kT,kT,kT,kT,kT,kT]) (by kernel_rfl)
theorem AdG (h0:ieq x 32=false) (h1:ieq x 9=true):(Ax (Ak tab ⟨A0 tb0,L,Gl⟩ Tryz.f105 [.val (.int .u8 x)] [])).sem=some ((bV true),[]):=by
 exact Ad (ks:=[kn h0,kn h0,kn h0,kn h1,kn h1,kn h1,kT,kT,kT]) (by kernel_rfl)
theorem AdF (h0:ieq x 32=false) (h1:ieq x 9=false) (h2:ieq x 10=true):(Ax (Ak tab ⟨A0 tb0,L,Gl⟩ Tryz.f105 [.val (.int .u8 x)] [])).sem=some ((bV true),[]):=by
 exact Ad (ks:=[kn h0,kn h0,kn h0,kn h1,kn h1,kn h1,kn h2,kn h2,kn h2]) (by kernel_rfl)
theorem AdE (h0:ieq x 32=false) (h1:ieq x 9=false) (h2:ieq x 10=false):(Ax (Ak tab ⟨A0 tb0,L,Gl⟩ Tryz.f105 [.val (.int .u8 x)] [])).sem=some ((bV (ieq x 13)),[]):=by
 exact Ad (ks:=[kn h0,kn h0,kn h0,kn h1,kn h1,kn h1,kn h2,kn h2,kn h2]) (by kernel_rfl)
end
def QQ:List V->A9
 | [.val (.int .u8 x)]=>out (bV (UU x))
 | _=>.fail
theorem p83:As Tryz.prog Gl 105 QQ:=by
 refine Am A8 mixed Tryz.func105 (by kernel_rfl) (by kernel_rfl) λvs v h' h=>?_;unfold QQ at h;split at h
 ·rename_i x
  have:=Aa h;simp only [Prod.mk.injEq] at this;obtain ⟨rfl,rfl⟩:=this;have hx:=Bi CN [];refine ⟨_,Bd Gl tb0 [],_,BC.refl _,rfl,hx.1,hx.2,?_,Aw.refl _⟩;unfold UU;cases c1:ieq x 32 with
  | true=>exact AdH _ x c1
  | false =>
   cases c2:ieq x 9 with
   | true=>exact AdG _ x c1 c2
   | false =>
    cases c3:ieq x 10 with
    | true=>exact AdF _ x c1 c2 c3
    | false=>exact AdE _ x c1 c2 c3
 ·cases h
end Go.Proofs.YtkbafjceglhjhaaGreatDoor.Ed
namespace Go.Proofs.YtkbafjceglhjhaaGreatDoor.Ed
open Go.Sy Go
theorem e84 (Γ:Cx) (vs:List V) (h:List Blk):Ak tab Γ Tryz.f105 vs h=Ak tab Γ Tryz.f105 vs h:=by kernel_rfl
theorem p84:As Tryz.prog Gl 105 QQ:=by
 refine Am A8 mixed Tryz.func105 (by kernel_rfl) (by kernel_rfl) λvs v h' h=>?_;unfold QQ at h;split at h
 ·rename_i x
  have:=Aa h;simp only [Prod.mk.injEq] at this;obtain ⟨rfl,rfl⟩:=this;have hx:=Bi CN [];refine ⟨_,Bd Gl tb0 [],_,BC.refl _,rfl,hx.1,hx.2,?_,Aw.refl _⟩;rw [e84];unfold UU;cases c1:ieq x 32 with
  | true=>exact AdH _ x c1
  | false =>
   cases c2:ieq x 9 with
   | true=>exact AdG _ x c1 c2
   | false =>
    cases c3:ieq x 10 with
    | true=>exact AdF _ x c1 c2 c3
    | false=>exact AdE _ x c1 c2 c3
 ·cases h
end Go.Proofs.YtkbafjceglhjhaaGreatDoor.Ed
namespace Go.Proofs.YtkbafjceglhjhaaGreatDoor.Sh
open Go.Sy Ed
open Int (ofNat)
set_option maxRecDepth 4000
def locL:List UInt8:=[120,121,122,97,98,99,100,101,102,103,104,105,106,107,108,109]
def FD (x:Int):Int:=bif bor (ilt x 0) (ile 16 x) then 4 else 0
def E1 (x:Int):List UInt8:=bif bor (ilt x 0) (ile 16 x) then [] else [locL.getD x.toNat 0]
def Ahj:List V->A9
 | [.val (.int .i64 x)]=>.leaf (.tup [.str (E1 x),iV (FD x)],[])
 | _=>.fail
theorem AcD:(Ax (Ak tab (Bd Gl tb0 []) Tryz.f39 [nV 0] [])).sem=some (.tup [.str (E1 (ofNat 0)),iV (FD (ofNat 0))],[]):=by kernel_rfl
theorem AcC:(Ax (Ak tab (Bd Gl tb0 []) Tryz.f39 [nV 1] [])).sem=some (.tup [.str (E1 (ofNat 1)),iV (FD (ofNat 1))],[]):=by kernel_rfl
theorem AcB:(Ax (Ak tab (Bd Gl tb0 []) Tryz.f39 [nV 2] [])).sem=some (.tup [.str (E1 (ofNat 2)),iV (FD (ofNat 2))],[]):=by kernel_rfl
theorem AcA:(Ax (Ak tab (Bd Gl tb0 []) Tryz.f39 [nV 3] [])).sem=some (.tup [.str (E1 (ofNat 3)),iV (FD (ofNat 3))],[]):=by kernel_rfl
theorem Ac9:(Ax (Ak tab (Bd Gl tb0 []) Tryz.f39 [nV 4] [])).sem=some (.tup [.str (E1 (ofNat 4)),iV (FD (ofNat 4))],[]):=by kernel_rfl
theorem Ac8:(Ax (Ak tab (Bd Gl tb0 []) Tryz.f39 [nV 5] [])).sem=some (.tup [.str (E1 (ofNat 5)),iV (FD (ofNat 5))],[]):=by kernel_rfl
theorem Ac7:(Ax (Ak tab (Bd Gl tb0 []) Tryz.f39 [nV 6] [])).sem=some (.tup [.str (E1 (ofNat 6)),iV (FD (ofNat 6))],[]):=by kernel_rfl
theorem Ac6:(Ax (Ak tab (Bd Gl tb0 []) Tryz.f39 [nV 7] [])).sem=some (.tup [.str (E1 (ofNat 7)),iV (FD (ofNat 7))],[]):=by kernel_rfl
theorem Ac5:(Ax (Ak tab (Bd Gl tb0 []) Tryz.f39 [nV 8] [])).sem=some (.tup [.str (E1 (ofNat 8)),iV (FD (ofNat 8))],[]):=by kernel_rfl
theorem Ac4:(Ax (Ak tab (Bd Gl tb0 []) Tryz.f39 [nV 9] [])).sem=some (.tup [.str (E1 (ofNat 9)),iV (FD (ofNat 9))],[]):=by kernel_rfl
theorem Z1:(Ax (Ak tab (Bd Gl tb0 []) Tryz.f39 [nV 10] [])).sem=some (.tup [.str (E1 (ofNat 10)),iV (FD (ofNat 10))],[]):=by kernel_rfl
theorem Z0:(Ax (Ak tab (Bd Gl tb0 []) Tryz.f39 [nV 11] [])).sem=some (.tup [.str (E1 (ofNat 11)),iV (FD (ofNat 11))],[]):=by kernel_rfl
theorem Zz:(Ax (Ak tab (Bd Gl tb0 []) Tryz.f39 [nV 12] [])).sem=some (.tup [.str (E1 (ofNat 12)),iV (FD (ofNat 12))],[]):=by kernel_rfl
theorem Zy:(Ax (Ak tab (Bd Gl tb0 []) Tryz.f39 [nV 13] [])).sem=some (.tup [.str (E1 (ofNat 13)),iV (FD (ofNat 13))],[]):=by kernel_rfl
theorem Zx:(Ax (Ak tab (Bd Gl tb0 []) Tryz.f39 [nV 14] [])).sem=some (.tup [.str (E1 (ofNat 14)),iV (FD (ofNat 14))],[]):=by kernel_rfl
theorem Zw:(Ax (Ak tab (Bd Gl tb0 []) Tryz.f39 [nV 15] [])).sem=some (.tup [.str (E1 (ofNat 15)),iV (FD (ofNat 15))],[]):=by kernel_rfl
theorem AjS (k:Nat) (hk:k<16):(Ax (Ak tab (Bd Gl tb0 []) Tryz.f39 [nV k] [])).sem=some (.tup [.str (E1 (ofNat k)),iV (FD (ofNat k))],[]):=by
 have:k=0 ∨ k=1 ∨ k=2 ∨ k=3 ∨ k=4 ∨ k=5 ∨ k=6 ∨ k=7 ∨ k=8 ∨ k=9 ∨ k=10 ∨ k=11 ∨ k=12 ∨ k=13 ∨ k=14 ∨ k=15:=by omega
 rcases this with rfl | rfl | rfl | rfl | rfl | rfl | rfl | rfl | rfl | rfl | rfl | rfl | rfl | rfl | rfl | rfl
 ·exact AcD
 ·exact AcC
 ·exact AcB
 ·exact AcA
 ·exact Ac9
 ·exact Ac8
 ·exact Ac7
 ·exact Ac6
 ·exact Ac5
 ·exact Ac4
 ·exact Z1
 ·exact Z0
 ·exact Zz
 ·exact Zy
 ·exact Zx
 ·exact Zw
theorem p37:As Tryz.prog Gl 39 Ahj:=by
 refine As.congr (AG A8 mixed Tryz.func39 (by kernel_rfl) (by kernel_rfl) (Γ:=Bd Gl tb0 []) (Bi CN [])) λvs r h=>?_;unfold Ahj at h;split at h
 ·rename_i x
  rw [Aa h];show (Ax (Ak tab (Bd Gl tb0 []) Tryz.f39 [iV x] [])).sem=_;cases c0:ilt x 0 with
  | true =>rw [show E1 x=[] by unfold E1 bor; rw [c0]; rfl,show FD x=4 by unfold FD bor; rw [c0]; rfl];exact Ad (ks:=[kn c0,kn c0,kn c0,kT]) (by kernel_rfl)/-W:w37n-/
  | false =>
   cases c1:ile 16 x with
   | true =>rw [show E1 x=[] by unfold E1 bor; rw [c0,c1]; rfl,show FD x=4 by unfold FD bor; rw [c0,c1]; rfl];exact Ad (ks:=[kn c0,kn c0,kn c0,kn c1]) (by kernel_rfl)/-W:w37g-/
   | false =>have h1:¬ x<0:=of_decide_eq_false c0;have h2:¬ (16:Int) <= x:=of_decide_eq_false c1;obtain ⟨k,rfl⟩:∃ k:Nat,x=ofNat k:=⟨x.toNat,by simp only [Int.ofNat_eq_natCast]; omega⟩;exact AjS k (by simp only [Int.ofNat_eq_natCast] at h2; omega)
 ·cases h
end Go.Proofs.YtkbafjceglhjhaaGreatDoor.Sh
