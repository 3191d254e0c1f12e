/-
  Layer 7: the document's shape of a cycle, as derivations. No conditions.
-/
import Derived.Test.YtkbafjceglhjhaaGreatDoorShE
import Derived.Test.YtkbafjceglhjhaaGreatDoorEdX
import Derived.Test.YtkbafjceglhjhaaGreatDoorCyT
import Derived.Test.YtkbafjceglhjhaaGreatDoorCyZ
namespace Go.Proofs.YtkbafjceglhjhaaGreatDoor.Sh
open Go.Sy Ed
open Int (ofNat)
set_option maxHeartbeats 1000000
set_option maxRecDepth 100000
def AaP:List V->AB:=G8 λn f=>.br (CJ n) (.br (DX n f) (.leaf (.tup [.ref 0,iV 0],[.row 3 1 n λk=>iV (A1 (λk=>Ay (f k)) n k)])) .fail) .fail
def AaO:List V->AB:=G8 λn f=>.br (CJ n) (.br (DX n f) (.leaf (.tup [.ref 0,iV 0],[.row 3 1 n λk=>iV (A1 (λk=>A4 (f k)) n k)])) .fail) .fail
theorem p57:As Tryz.prog Gl 109 AaP:=As.congr Ed.p53 λvs r h=>by
 obtain ⟨v,rfl⟩:∃ v,vs=[v]:=by
  unfold AaP G8 at h;split at h
  ·exact ⟨_,rfl⟩
  ·cases h
 unfold AaP G8 at h;unfold J2 G8;dsimp only at h ⊢;unfold apL at h ⊢;split at h
 ·rename_i n g hg
  obtain ⟨h1,h⟩:=Ab h;dsimp only at h;obtain ⟨h2,h⟩:=Ab h;obtain ⟨h3,h⟩:=Ab h;rw [h1];dsimp only;rw [h2,h3];exact h
 ·cases h
theorem p58:As Tryz.prog Gl 110 AaO:=As.congr Ed.p54 λvs r h=>by
 obtain ⟨v,rfl⟩:∃ v,vs=[v]:=by
  unfold AaO G8 at h;split at h
  ·exact ⟨_,rfl⟩
  ·cases h
 unfold AaO G8 at h;unfold J2 G8;dsimp only at h ⊢;unfold apL at h ⊢;split at h
 ·rename_i n g hg
  obtain ⟨h1,h⟩:=Ab h;dsimp only at h;obtain ⟨h2,h⟩:=Ab h;obtain ⟨h3,h⟩:=Ab h;rw [h1];dsimp only;rw [h2,h3];exact h
 ·cases h
noncomputable def Agm:AK:=(107,WN)::(108,Zq)::(109,AaP)::(110,AaO)::[]
theorem Aat:Ar Tryz.prog Gl Agm:=.cons p49 <| .cons p56 <| .cons p57 <| .cons p58 .nil
noncomputable def N3:FuncId->List V->St->T (V×Res):=Lx [(111,NN tab (cxA Gl AdQ Abh) Tryz.f111)] (Az Agm)
theorem ON:Bg Tryz.prog ⟨N3,Gl⟩:=HK mixed (.cons rfl AA (Bz U7 Abh).1 (Bz U7 Abh).2 Tryz.func111 (by kernel_rfl) (by kernel_rfl) .nil) (F5 rfl Aat)
theorem ile_nat (a b:Nat):ile (ofNat a) (ofNat b)=decide (a <= b):=by
 unfold ile;rw [Bool.eq_iff_iff];simp
theorem YN (a b:Int):ieq a b=ieq b a:=by
 unfold ieq;rw [Bool.eq_iff_iff];simp only [beq_iff_eq];exact eq_comm
def plC (n:Nat) (g:Nat->E6) (b i:Nat):Int:=ofNat (Ai (λk=>ieq (thF n g k) (thF n g b)) i)
section
variable (A:Int) (n:Nat) (g:Nat->E6)
def jZf (c:Int) (l:List (Nat×V)):List V:=jsV 132 0 Ac ((4,.ptr 0 0)::(9,.ref 1)::(10,nV n)::(11,.ref 2)::(13,.ref 3)::(15,.ptr 4 0)::(16,iV c)::l)
def hZf (tt kk:Int) (b:Nat) (x r:Nat->V):List Blk:=[.cells [iV 0,.nilS,.nilS,iV 0,iV 0,.nilS,.nilS],.row 76 6 n (λi=>eV (g i)),.row 3 1 n (λi=>iV (thF n g i)),.row 3 1 n (λi=>iV (loF n g i)),.cells [iV A,.ref 1,.ref 5,iV tt,iV kk,.ref 6,.jref 7],.row 74 5 b x,.row 3 1 b r,jE]
def kZf (b:Nat):List Blk:=hZf A n g (ofNat (rN (obF g) n b)) (ofNat (rN (mbF g) n b)) b (λq=>evV (upX n g b q)) (λ_=>iV (-1))
def SZf (c:Int) (_:Unit):St:=⟨jZf n c [],kZf A n g (toN c)⟩
def TZf (c tt kk:Int) (b:Nat) (x r:Nat->V):St:=⟨jZf n c [],hZf A n g tt kk b x r⟩
def AbB:Ex×St:=(.ex 0,⟨jsV 132 0 Ac [(4,.ptr 0 0),(15,.ptr 4 0)],kZf A n g n⟩)
def gZf (i:Nat) (_:Unit):T (Unit ⊕ (Ex×St)):=.br (ile (ofNat (rN (obF g) n i)) (thF n g i)) (.br (ile (ofNat (rN (mbF g) n i)) (loF n g i)) (.leaf (.inl ())) (.leaf (.inl ()))) (.br (ile (ofNat (rN (mbF g) n i)) (loF n g i)) (.leaf (.inl ())) (.leaf (.inl ())))
variable (b:Nat)
def ZC (c p:Int):St:=⟨jZf n (ofNat b) [(17,.ptr 8 0),(18,iV c)],kZf A n g b++[.cells [iV (thF n g b),iV p,iV (g b).src,iV (loF n g b),iV 0]]⟩
def ZF (c:Int) (_:Unit):St:=ZC A n g b c (plC n g b (toN c))
def PZ:Ex×St:=(.ex 2,⟨jZf n (ofNat b) [(17,.ptr 8 0)],kZf A n g b++[.cells [iV (thF n g b),iV (plC n g b b),iV (g b).src,iV (loF n g b),iV 0]]⟩)
def AcV (i:Nat) (_:Unit):T (Unit ⊕ (Ex×St)):=.br (ieq (thF n g i) (thF n g b)) (.leaf (.inl ())) (.leaf (.inl ()))
def hpE (tt:Int) (k:Nat):List Blk:=hpX A n g (thF n g) (loF n g) tt k (λi=>evV (evF n g (dR n g k 0) i)) λi=>iV (rfF n g (dR n g k 0) i)
def VH (c:Int) (h:List Blk):St:=⟨jsV 132 0 Ac [(4,.ptr 0 0),(15,.ptr 4 0),(19,iV c)],h⟩
def VI (tt c:Int) (_:Unit):St:=VH c (hpE A n g tt (toN c))
def Nc (tt:Int):Ex×St:=(.ex 4,⟨jsV 132 0 Ac [(4,.ptr 0 0),(15,.ptr 4 0)],hpE A n g tt (kkN n g)⟩)
def vs4 (tt:Int) (i:Nat):List V:=jsV 132 0 Ac [(4,.ptr 0 0),(15,.ptr 4 0),(19,nV i),(122,nV i),(123,.ptr 4 4),(124,iV (ofNat (kkN n g))),(125,bV (ilt (ofNat i) (ofNat (kkN n g)))),(128,.agg [iV A,.ref 1,.ref 5,iV tt,iV (ofNat (kkN n g)),.ref 6,.jref 7]),(129,nV i)]
end
def Aho:Lp:=⟨bmK 132 0 [4,9,10,11,13,15,16],8,bmK 132 0 [4,15],8,4611686018427387905⟩
def Yu:Lp:=⟨bmK 132 0 [4,9,10,11,13,15,16,17,18],9,bmK 132 0 [4,9,10,11,13,15,16,17],9,4611686018427387905⟩
def TF:Lp:=⟨bmK 132 0 [4,15,19],8,bmK 132 0 [4,15],8,4611686018427387905⟩
def Wx (n:Nat) (g:Nat->E6):List (Nat×Lp×List (Nat×(Nat->V))):=[(0,Aho,[(5,λq=>evV (upX n g 0 q)),(6,λ_=>iV (-1))]),(2,Yu,[]),(4,TF,[])]
noncomputable def BZf (id:Nat) (L:LT):St->T (Ex×St):=λst=>AI tab ⟨N3,L,Gl⟩ (A0 Tryz.f68 id) id st
theorem AgW {n b i:Nat} {g:Nat->E6} (hi:i<b) (hb:b <= 16) {q:Bool} (h:ieq (thF n g i) (thF n g b)=q):sel q (wr .i64 (Ah (plC n g b i) 1)) (plC n g b i)=plC n g b (toN (wr .i64 (Ah (ofNat i) 1))):=by
 have hc:=B5 (λk=>ieq (thF n g k) (thF n g b)) i;rw [Ax hi (by omega)];show _=plC n g b (i+1);unfold plC;cases q with
 | true =>rw [Bs (p:=λk=>ieq (thF n g k) (thF n g b)) h,Ax (n:=b) (by omega) (by omega)];rfl
 | false =>rw [B0 (p:=λk=>ieq (thF n g k) (thF n g b)) h];rfl
theorem AgL (L:LT) (A:Int) (n:Nat) (g:Nat->E6) (hn:n <= 16) {b:Nat} (hb:b<n):(A3 (BZf 2 L) Yu 4611686018427387905 (ZF A n g b 0 ())).sem=some (PZ A n g b) :=
 AY (R:=exR) BB (S:=λc a _=>ZF A n g b c a) (j:=λ_=>.und) (g:=AcV n g b) (fin:=λ_=>PZ A n g b) (e:=PZ A n g b) (n:=b) (by omega)
  (λi a j r hi he=>DK.ok (L:=goR (λc a _=>ZF A n g b c a) exR i) (.k (ofNat_lt hi) <| .k (Ae (Nat.lt_trans hi hb)) <| .k (decide_eq_true (Nat.lt_trans hi hb)) <| .k (Ae hb) <| .k (decide_eq_true hb) <|
   .c (λh1=>.k h1 <| .e (congrArg (λp=>(Ex.nm,ZC A n g b (wr .i64 (Ah (ofNat i) 1)) p)) (AgW hi (by omega) h1))) λh1=>.k h1 <| .e (congrArg (λp=>(Ex.nm,ZC A n g b (wr .i64 (Ah (ofNat i) 1)) p)) (AgW hi (by omega) h1))) (by kernel_rfl) he)
  (λa j=>DK.ok (C:=.leaf (PZ A n g b)) (L:=exR) (.k (Av (Nat.le_refl b)) .l) (by kernel_rfl) rfl) (Nat.zero_add _).symm (by omega)
  (CP (acc:=λ_=>()) (λi _=>by unfold AcV; cases ieq (thF n g i) (thF n g b) <;> rfl) b 0 (Nat.zero_add b))
theorem QC {p:Nat->Bool} {n i:Nat} (hi:i<n) (hn:n <= 16) {q:Bool} (h:ile (ofNat (rN p n i)) (A1 p n i)=q):sel q (wr .i64 (Ah (A1 p n i) 1)) (ofNat (rN p n i))=ofNat (rN p n (i+1)):=by
 have h1:=LL p n i hi;have h2:=Rb p n i;rw [EW hi,ile_nat] at h;rw [EW hi,Ax (n:=n) (by omega) (by omega),rN];by_cases hl:AS p n i<rN p n i
 ·rw [decide_eq_false (by omega)] at h
  rw [if_pos hl,<- h];rfl
 ·rw [decide_eq_true (by omega)] at h
  rw [if_neg hl,<- h,show rN p n i=AS p n i by omega];rfl
theorem xZf (A:Int) {n:Nat} (g:Nat->E6) {i:Nat} (hi:i<n) (hn:n <= 16) {tt kk:Int} (h1:tt=ofNat (rN (obF g) n (i+1))) (h2:kk=ofNat (rN (mbF g) n (i+1))) :
  (Ex.nm,TZf A n g (wr .i64 (Ah (ofNat i) 1)) tt kk (B1 i 1) (Be i (λq=>evV (upX n g i q)) (.agg [iV (thF n g i),iV (plC n g i i),iV (g i).src,iV (loF n g i),iV 0])) (Be i (λ_=>iV (-1)) (iV (-1))))=(Ex.nm,SZf A n g (wr .i64 (Ah (ofNat i) 1)) ()):=by
 have hx:=Q9 n g i;rw [show evV (evF n g (λ_=>false) i) = .agg [iV (thF n g i),iV (plC n g i i),iV (g i).src,iV (loF n g i),iV 0] by
  rw [CZ hi];unfold plC plF;rw [show (λk=>ieq (thF n g k) (thF n g i))=λk=>ieq (thF n g i) (thF n g k) from funext λk=>YN _ _];rfl] at hx
 rw [hx,IK,h1,h2,Ax hi (by omega)];rfl
theorem rZf (A:Int) (n:Nat) (g:Nat->E6) (hn:n <= 16):(A3 (BZf 0 (Go.Sy.askL (Wx n g))) Aho 4611686018427387905 (SZf A n g 0 ())).sem=some (AbB A n g) :=
 AY (R:=exR) BB (S:=λc a _=>SZf A n g c a) (j:=λ_=>.und) (g:=gZf n g) (fin:=λ_=>AbB A n g) (e:=AbB A n g) (n:=n) (by omega)
  (λi a j r hi he=>DK.ok (L:=goR (λc a _=>SZf A n g c a) exR i) (.k (ofNat_lt hi) <| .k (Ae hi) <| .k (decide_eq_true hi) <| .k (Ae hi) <| .k (decide_eq_true hi) <| .k (Ae hi) <| .k (decide_eq_true hi) <| .k (eI (ofNat i)) <| .k (Ae hi) <| .k (eJ i) <| .k (decide_eq_true hi) <| .k (eI (thF n g i)) <| .k (eI (ofNat i)) <| .k (Ae hi) <| .r 2 (eJ i) <| .k (decide_eq_true hi) <| .k (eI (g i).src) <| .k (eI (ofNat i)) <| .k (Ae hi) <| .k (eJ i) <| .k (decide_eq_true hi) <| .k (eI (loF n g i)) <| .k (eI (thF n g i)) <| .k (eI 0) <| .k (eI (g i).src) <| .k (eI (loF n g i)) <| .k (eI 0) <| .k (eI (ofNat i)) <| .k (Ae hi) <| .k (eJ i) <| .k (decide_eq_true hi) <| .k (eI (thF n g i)) <| .k (eI (ofNat i)) <| .k (Ae hi) <| .r 2 (eJ i) <| .k (decide_eq_true hi) <| .k (eI (g i).src) <| .k (eI (ofNat i)) <| .k (Ae hi) <| .k (eJ i) <| .k (decide_eq_true hi) <| .k (eI (loF n g i)) <| .k (eI (thF n g i)) <| .k (eI 0) <| .k (eI (g i).src) <| .k (eI (loF n g i)) <| .k (eI 0) <| .a (AgL (Go.Sy.askL (Wx n g)) A n g hn hi) <| .k (show Dk i 1 40=true from FV (by omega)) <| .k (show Dk i 1 8=true from FV (by omega)) <| .k (Ae hi) <| .k (decide_eq_true hi) <| .c (λh1=>.k h1 <| .k (Ae hi) <| .k (decide_eq_true hi) <| .k (Ae hi) <| .k (decide_eq_true hi) <| .c (λh2=>.k h2 <| .k (Ae hi) <| .k (decide_eq_true hi) <| .e (xZf A g hi hn (QC hi hn h1) (QC hi hn h2))) λh2=>.k h2 <| .e (xZf A g hi hn (QC hi hn h1) (QC hi hn h2))) λh1=>.k h1 <| .k (Ae hi) <| .k (decide_eq_true hi) <| .c (λh3=>.k h3 <| .k (Ae hi) <| .k (decide_eq_true hi) <| .e (xZf A g hi hn (QC hi hn h1) (QC hi hn h3))) λh3=>.k h3 <| .e (xZf A g hi hn (QC hi hn h1) (QC hi hn h3))) (by kernel_rfl) he)
  (λa j=>DK.ok (C:=.leaf (AbB A n g)) (L:=exR) (.k (Av (Nat.le_refl n)) .l) (by kernel_rfl) rfl) (Nat.zero_add _).symm (by omega)
  (CP (acc:=λ_=>()) (λi _=>by unfold gZf; cases ile (ofNat (rN (obF g) n i)) (thF n g i) <;> cases ile (ofNat (rN (mbF g) n i)) (loF n g i) <;> rfl) n 0 (Nat.zero_add n))
theorem okC (n:Nat) (g:Nat->E6) (b:Nat):(Ba b λu=>Ba (lnR n g b u) λq=>okI (coR n g b u q))=true:=AG.2 λu hu=>AG.2 λq hq=>by
 unfold lnR at hq;unfold coR;rw [show Nat.blt u b=true from Nat.ble_eq_true_of_le hu] at hq ⊢;rw [show Nat.blt q (lnN (mbF g) (wrF g) n u)=true from Nat.ble_eq_true_of_le hq];rfl
theorem Adg {u b:Nat} (h:u ≠ b):Nat.blt u (b+1)=Nat.blt u b:=by
 rw [Bool.eq_iff_iff];simp only [Nat.blt_eq];omega
theorem AfA (A:Int) {n:Nat} {g:Nat->E6} (tt:Int) {i:Nat} (hi:i<kkN n g) :
  (hpX A n g (thF n g) (loF n g) tt 0 (λq=>evV (evF n g (dR n g i (BS (mbF g) n (zN n g i))) q)) λq=>iV (rfF n g (dR n g i (BS (mbF g) n (zN n g i))) q)).take 7++[.jag ⟨24,1,B1 i 1,Be i Ac .und,0,3,1,λu=>sel (BH u i) true true,λu=>sel (BH u i) (wcN (wrF g) n (zN n g i) (BS (mbF g) n (zN n g i))) (lnR n g i u),Ek (λu q=>coR n g i u q) i λq=>wvR n g i (BS (mbF g) n (zN n g i)) q,none⟩]=hpE A n g tt (i+1):=by
 obtain ⟨z1,z2,z3⟩:=zk hi;have hd:=V5 (Gu (mbF g) n) z1 z2;rw [show AS (mbF g) n (zN n g i)=i from z3] at hd;rw [IK,show dR n g i (BS (mbF g) n (zN n g i))=dR n g (i+1) 0 from hd,show (λu=>sel (BH u i) true true)=λ_=>true from funext λu=>by cases BH u i <;> rfl,
  show (λu=>sel (BH u i) (wcN (wrF g) n (zN n g i) (BS (mbF g) n (zN n g i))) (lnR n g i u))=lnR n g (i+1) from funext λu=>by
   unfold lnR;by_cases h:u=i
   ·subst h
    rw [show BH u u=true from Nat.beq_refl _,show Nat.blt u (u+1)=true from Nat.ble_eq_true_of_le (Nat.le_refl _)];rfl
   ·rw [show BH u i=false from nbeq_ne h,Adg h]
    rfl,
  show (Ek (λu q=>coR n g i u q) i λq=>wvR n g i (BS (mbF g) n (zN n g i)) q)=λu q=>coR n g (i+1) u q from funext λu=>funext λq=>by
   unfold Ek;rw [FB];unfold coR;by_cases h:u=i
   ·subst h
    rw [show BH u u=true from Nat.beq_refl _,show Nat.blt u (u+1)=true from Nat.ble_eq_true_of_le (Nat.le_refl _)];rfl
   ·rw [show BH u i=false from nbeq_ne h,Adg h]
    rfl]
 rfl
theorem AgK (L:LT) (A:Int) (n:Nat) (g:Nat->E6) (tt:Int) (hn:n <= 16):(A3 (BZf 4 L) TF 4611686018427387905 (VI A n g tt 0 ())).sem=some (Nc A n g tt):=by
 have hkn:kkN n g <= n:=B5 _ _;exact AY (R:=exR) BB (S:=λc a _=>VI A n g tt c a) (j:=λ_=>.und) (g:=gGo) (fin:=λ_=>Nc A n g tt) (e:=Nc A n g tt) (n:=kkN n g) (by omega)
  (λi a j r hi he=>DK.ok (L:=goR (λc a _=>VI A n g tt c a) exR i) (.k (ofNat_lt hi) <| .k (eG [i]) <| .r 3 (eL n) <| .k (okC n g i) <| .k (eJ n) <| .k (show Ap n=true from decide_eq_true (by omega)) <| .a (r56 hi hn A (thF n g) (loF n g) tt (vs4 A n g tt i) (by kernel_rfl) (by kernel_rfl)) <| .k eT <| .k (show Dk i 1 24=true from FV (by omega)) <|
   .e (congrArg (λh=>(Ex.nm,VH (wr .i64 (Ah (ofNat i) 1)) h)) ((AfA A tt hi).trans (congrArg (hpE A n g tt) (show i+1=toN (wr .i64 (Ah (ofNat i) 1)) by rw [Ax hi (by omega)]; rfl))))) (by kernel_rfl) he)
  (λa j=>DK.ok (C:=.leaf (Nc A n g tt)) (L:=exR) (.k (Av (Nat.le_refl (kkN n g))) .l) (by kernel_rfl) rfl) (Nat.zero_add _).symm (by omega) (YV _)
theorem Add (n:Nat) (g:Nat->E6):dnF n g (loN n g) 0 0=λ_=>false:=by
 funext j;unfold dnF;rw [Zl];simp
theorem Xi (n:Nat) (g:Nat->E6):upX n g n=evF n g (dnF n g (loN n g) 0 0):=by
 rw [Add,U3,Zm]
def AgJ (n:Nat) (g:Nat->E6):List Blk:=[.row 76 6 n (λi=>eV (g i)),.row 74 5 n (λi=>evV (evF n g (dR n g (kkN n g) 0) i)),.row 3 1 n (λi=>iV (rfF n g (dR n g (kkN n g) 0) i)),
 .jag ⟨24,1,kkN n g,λ_=>.und,0,3,1,λ_=>true,lnR n g (kkN n g),λk i=>coR n g (kkN n g) k i,none⟩]
theorem AaE {n:Nat} {g:Nat->E6} (hk:0<kkN n g):Aw (AgJ n g) (SY n g):=by
 have hd:∀ i,i<n->dR n g (kkN n g) 0 i=true:=λi hi=>by
  show dnF n g (loN n g) (kkN n g) 0 i=true;unfold dnF;rw [decide_eq_true hi,Sb]
  ·rfl
  ·exact ML hi hk
 refine .cons (λ_ _=>rfl) (.cons (λi hi=>?_) (.cons (λi hi=>?_) (.consB (.jag (λ_ _=>.inr rfl) (λ_ _=>rfl) (λk hk'=>?_) (λk hk' q hq=>?_)) (.refl []))))
 ·rw [CZ hi,CZ hi,hd i hi]
 ·unfold rfF
  rw [hd i hi]
 ·have hk':k<kkN n g:=hk'
  show lnN _ _ n k=lnR n g (kkN n g) k;unfold lnR;rw [show Nat.blt k (kkN n g)=true from Nat.ble_eq_true_of_le hk'];rfl
 ·have hk':k<kkN n g:=hk'
  have hq:q<lnR n g (kkN n g) k:=hq;unfold lnR at hq;rw [show Nat.blt k (kkN n g)=true from Nat.ble_eq_true_of_le hk'] at hq;show iV _=coR n g (kkN n g) k q;unfold coR;rw [show Nat.blt k (kkN n g)=true from Nat.ble_eq_true_of_le hk',show Nat.blt q (lnN (mbF g) (wrF g) n k)=true from Nat.ble_eq_true_of_le hq];rfl
theorem Ah4 (L:LT) (A:Int) {n:Nat} {g:Nat->E6} (hy:IsCycle A n g):(A3 (BZf 4 L) TF 4611686018427387905 (VH 0 (kZf A n g n))).sem=some (Nc A n g (ofNat (ttN n g))):=by
 have h:=AgK L A n g (ofNat (ttN n g)) hy.hi;rw [show VI A n g (ofNat (ttN n g)) 0 ()=VH 0 (hpE A n g (ofNat (ttN n g)) 0) from rfl] at h;unfold hpE at h;rw [show dR n g 0 0=dnF n g (loN n g) 0 0 from rfl,<- Xi,Add] at h;unfold kZf;rw [show rN (obF g) n n=ttN n g from Pv hy.outer,show rN (mbF g) n n=kkN n g from Pv hy.moves];exact h
def CZf (A:Int) (n:Nat) (f:Nat->E6):AB:=.br (CJ n) (.br (ieq (Gn A n f) 0) (.leaf (.tup [SX A n (shG n f),iV 0,iV 0],AgJ n (shG n f))) (.leaf (.tup [noV,iV (Gn A n f),iV (Afz A n f)],noH))) .fail
theorem p15:As Tryz.prog Gl 68 ofT:=by
 refine Am AA mixed Tryz.func68 (by kernel_rfl) (by kernel_rfl) λvs v h' h=>?_;unfold ofT at h;split at h
 ·rename_i A u
  obtain ⟨n,f,ha,h1⟩:=Ce h;obtain ⟨h8,hq⟩:=Ab h1;have m:=λ(hc:ieq (Gn A n f) 0=true)=>(Fb (Bj hc)).may;have w:=show DK (λa=>a) (CZf A n f) _ from .k (eL n) <| .g λh8=>.k h8 <| .c (λhc=>.k (eN hc) <| .k (eL n) <| .k h8 <| .k (Sg.2 ⟨A,Bj hc⟩) <| .k (eL n) <| .k h8 <| .k (m hc) <| .k (DU (n:=n)) <| .k (eL n) <| .k h8 <| .k (m hc) <| .k (DU (n:=n)) <|
   .a (rZf A n (shG n f) (Bj hc).hi) <| .a (Ah4 (Go.Sy.askL (Wx n (shG n f))) A (Fb (Bj hc))) .l) λhc=>.k (eN hc) .l
  have R:=λr (h:(CZf A n f).sem=some r)=>DK.of (t:=A7 (An tab ⟨N3,Go.Sy.askL (Wx n (shG n f)),Gl⟩ Tryz.f68 [iV A,A9 n f] [])) h w (by kernel_rfl);unfold CZf at R;cases hc:ieq (Gn A n f) 0 with
  | true =>rw [hc] at hq;have:=Aa hq;simp only [Prod.mk.injEq] at this;obtain ⟨rfl,rfl⟩:=this;have hm:=(Fb (Bj hc)).moves;exact ⟨_,⟨N3,Go.Sy.askL (Wx n (shG n f)),Gl⟩,_,Ux ha,rfl,ON,FT _ _ _,R _ (by rw [h8,hc]; rfl),AaE (by show 0<Ai (λk=>A4 (shG n f k)) n; omega)⟩
  | false =>rw [hc] at hq;have:=Aa hq;simp only [Prod.mk.injEq] at this;obtain ⟨rfl,rfl⟩:=this;exact ⟨_,⟨N3,Go.Sy.askL (Wx n (shG n f)),Gl⟩,_,Ux ha,rfl,ON,FT _ _ _,R _ (by rw [h8,hc]; rfl),Aw.refl _⟩
 ·cases h
end Go.Proofs.YtkbafjceglhjhaaGreatDoor.Sh
namespace Go.Proofs.YtkbafjceglhjhaaGreatDoor.Sh
open Go.Sy Ed
open Int (ofNat)
set_option maxHeartbeats 1000000
set_option maxRecDepth 4000
theorem Cb {n:Nat} (h:Ap n=true):n <= 4611686018427387904:=of_decide_eq_true h
theorem Jb {a b:Bool} (h:a=true):Aj a b=b:=by rw [h]; rfl
theorem Uw {a b:Bool} (h:a=false):Aj a b=false:=by rw [h]; rfl
theorem BL {n m:Nat} (h:ieq (ofNat n) (ofNat m)=true):n=m:=by
 rw [Dq] at h;exact of_decide_eq_true h
def Dw (n:Nat) (f:Nat->Int) (m:Nat) (g:Nat->Int):Bool:=Aj (ieq (ofNat n) (ofNat m)) (Ba n λk=>ieq (f k) (g k))
def Ahz:Lp:=⟨bmK 26 0 [0,1,4,5],0,bmK 26 0 [4],0,4611686018427387905⟩
def S30 (n:Nat) (f:Nat->Int) (m:Nat) (g:Nat->Int) (c:Int) (_:Unit) (j:Nat->V):St:=⟨jsV 26 0 j [(0,.sl 1 n (λi=>iV (f i))),(1,.sl 1 m (λi=>iV (g i))),(4,bV false),(5,iV c)],[]⟩
noncomputable def B30 (L:LT):St->T (Ex×St):=λst=>AI tab ⟨Az tb0,L,Gl⟩ (A0 Tryz.f148 0) 0 st
def AfF (_:Nat) (_:Nat->Int) (_:Nat) (_:Nat->Int) (_:Nat) (_:Unit):Ex×St:=(.rt,⟨jsV 26 0 Ac [(4,bV false)],[]⟩)
def g30 (n:Nat) (f:Nat->Int) (m:Nat) (g:Nat->Int) (i:Nat) (a:Unit):T ((Unit) ⊕ (Ex×St)):=.br (ieq (f i) (g i)) (.leaf (.inl ())) (.leaf (.inr (AfF n f m g i a)))
def AhR (_:Nat) (_:Nat->Int) (_:Nat) (_:Nat->Int) (_:Unit):Ex×St:=(.ex 0,⟨jsV 26 0 Ac [(4,bV false)],[]⟩)
theorem r30 (L:LT) (n:Nat) (f:Nat->Int) (m:Nat) (g:Nat->Int) (hm:n=m) (hn:n <= 4611686018427387904) {e:Ex×St} {a:Unit} {j:Nat->V} (h:BQ (g30 n f m g) (AhR n f m g) n 0 a=some e):(A3 (B30 L) Ahz 4611686018427387905 (S30 n f m g 0 a j)).sem=some (exR e) :=
 AY BB hn (λi a j r hi h=>DK.ok (L:=goR (S30 n f m g) exR i) (.k (ofNat_lt hi) <| .k (Ae hi) <| .k (Ae (hm ▸ hi)) <| .c (λh1=>.k (eN h1) <| .l) λh1=>.k (eN h1) <| .l) (by kernel_rfl) h) (λa j=>DK.ok (C:=.leaf (AhR n f m g a)) (L:=exR) (.k (Av (Nat.le_refl n)) .l) (by kernel_rfl) rfl) (Nat.zero_add _).symm (Nat.lt_succ_of_le hn) h
def Abl:List (Nat×Lp×List (Nat×(Nat->V))):=[(0,Ahz,[])]
def C30 (n:Nat) (f:Nat->Int) (m:Nat) (g:Nat->Int):AB:=.br (ieq (ofNat n) (ofNat m)) (.br (Ba n λk=>ieq (f k) (g k)) (.leaf ((bV true),[])) (.leaf ((bV false),[]))) (.leaf ((bV false),[]))
theorem Ach (n:Nat) (f:Nat->Int) (m:Nat) (g:Nat->Int):(C30 n f m g).sem=some (bV (Dw n f m g),[]):=by
 unfold C30 Dw;cases ieq (ofNat n) (ofNat m)
 ·rfl
 cases Ba n λk=>ieq (f k) (g k) <;> rfl
def H6:List V->AB
 | [v,u]=>apG Qo v λn f=>apG Qo u λm g=>.br (Ap n) (.leaf (bV (Dw n f m g),[])) .fail
 | _=>.fail
theorem p61:As Tryz.prog Gl 148 H6:=by
 refine Am AA mixed Tryz.func148 (by kernel_rfl) (by kernel_rfl) λvs v h' h=>?_;unfold H6 at h;split at h
 ·rename_i v1 u1
  obtain ⟨n,f,a1,h⟩:=BV h;obtain ⟨m,g,a2,h⟩:=BV h;obtain ⟨hn,h⟩:=Ab h;have:=Aa h;simp only [Prod.mk.injEq] at this;obtain ⟨rfl,rfl⟩:=this;have hn:=Cb hn;have w:DK (λa=>a) (C30 n f m g) _:=.c (λh1=>.k (eN h1) <| .c (λh2=>.a (r30 (askL Abl) n f m g (BL h1) hn (j:=λ_=>.und) (N8 (λ_ _=>rfl) h2)) <| .l) λh2=>.a (r30 (askL Abl) n f m g (BL h1) hn (j:=λ_=>.und) (N9 (λ_ _=>rfl) h2)) <| .l) λh1=>.k (eN h1) <| .l
  have hx:=Bz D7 Abl (G:=Gl);exact ⟨_,cxA Gl tb0 Abl,_,(show BK [v1,u1] [.sl 1 n (λi=>iV (f i)),.sl 1 m (λi=>iV (g i))] from λS w cs hv=>by
   obtain ⟨c,l,rfl,q1,c',l',rfl,q2,q3⟩:=hv;exact ⟨c,_,rfl,a1 S w c q1,c',l',rfl,a2 S w c' q2,q3⟩),rfl,hx.1,hx.2,DK.of (Ach n f m g) w (by kernel_rfl),Aw.refl _⟩
 ·cases h
def Fq (n:Nat) (ln:Nat->Nat) (co:Nat->Nat->Int) (m:Nat) (ln':Nat->Nat) (co':Nat->Nat->Int):Bool:=Aj (ieq (ofNat n) (ofNat m)) (Ba n λk=>Dw (ln k) (co k) (ln' k) (co' k))
noncomputable def AdP:AK:=(148,H6)::[]
theorem Aai:Ar Tryz.prog Gl AdP:=.cons p61 .nil
def Ahy:Lp:=⟨bmK 27 0 [0,1,4,5],0,bmK 27 0 [4],0,4611686018427387905⟩
def S31 (n:Nat) (C:Nat->Nat×(Nat->Int)) (m:Nat) (D:Nat->Nat×(Nat->Int)) (c:Int) (_:Unit) (j:Nat->V):St:=⟨jsV 27 0 j [(0,.sl 1 n (λu=>.sl 1 (C u).1 (λi=>iV ((C u).2 i)))),(1,.sl 1 m (λu=>.sl 1 (D u).1 (λi=>iV ((D u).2 i)))),(4,bV false),(5,iV c)],[]⟩
noncomputable def B31 (L:LT):St->T (Ex×St):=λst=>AI tab ⟨Az AdP,L,Gl⟩ (A0 Tryz.f149 0) 0 st
def AfE (_:Nat) (_:Nat->Nat×(Nat->Int)) (_:Nat) (_:Nat->Nat×(Nat->Int)) (_:Nat) (_:Unit):Ex×St:=(.rt,⟨jsV 27 0 Ac [(4,bV false)],[]⟩)
def g31 (n:Nat) (C:Nat->Nat×(Nat->Int)) (m:Nat) (D:Nat->Nat×(Nat->Int)) (i:Nat) (a:Unit):T ((Unit) ⊕ (Ex×St)):=.br (Dw (C i).1 (C i).2 (D i).1 (D i).2) (.leaf (.inl ())) (.leaf (.inr (AfE n C m D i a)))
def AhQ (_:Nat) (_:Nat->Nat×(Nat->Int)) (_:Nat) (_:Nat->Nat×(Nat->Int)) (_:Unit):Ex×St:=(.ex 0,⟨jsV 27 0 Ac [(4,bV false)],[]⟩)
theorem r31 (L:LT) (n:Nat) (C:Nat->Nat×(Nat->Int)) (m:Nat) (D:Nat->Nat×(Nat->Int)) (hm:n=m) (hs:(Ba n λk=>Ap (C k).1)=true) (hn:n <= 4611686018427387904) {e:Ex×St} {a:Unit} {j:Nat->V} (h:BQ (g31 n C m D) (AhQ n C m D) n 0 a=some e):(A3 (B31 L) Ahy 4611686018427387905 (S31 n C m D 0 a j)).sem=some (exR e) :=
 AY BB hn (λi a j r hi h=>DK.ok (L:=goR (S31 n C m D) exR i) (.k (ofNat_lt hi) <| .k (Ae hi) <| .k (Ae (hm ▸ hi)) <| .k (eL (C i).1) <| .k (eL (D i).1) <| .k (AG.1 hs i hi) <| .c (λh1=>.k (eN h1) <| .l) λh1=>.k (eN h1) <| .l) (by kernel_rfl) h) (λa j=>DK.ok (C:=.leaf (AhQ n C m D a)) (L:=exR) (.k (Av (Nat.le_refl n)) .l) (by kernel_rfl) rfl) (Nat.zero_add _).symm (Nat.lt_succ_of_le hn) h
def Abk:List (Nat×Lp×List (Nat×(Nat->V))):=[(0,Ahy,[])]
def C31 (n:Nat) (C:Nat->Nat×(Nat->Int)) (m:Nat) (D:Nat->Nat×(Nat->Int)):AB:=.br (ieq (ofNat n) (ofNat m)) (.br (Ba n λk=>Dw (C k).1 (C k).2 (D k).1 (D k).2) (.leaf ((bV true),[])) (.leaf ((bV false),[]))) (.leaf ((bV false),[]))
theorem Acg (n:Nat) (C:Nat->Nat×(Nat->Int)) (m:Nat) (D:Nat->Nat×(Nat->Int)):(C31 n C m D).sem=some (bV (Fq n (λi=>(C i).1) (λi=>(C i).2) m (λi=>(D i).1) (λi=>(D i).2)),[]):=by
 unfold C31 Fq;cases ieq (ofNat n) (ofNat m)
 ·rfl
 cases Ba n λk=>Dw (C k).1 (C k).2 (D k).1 (D k).2 <;> rfl
def Te:List V->AB
 | [v,u]=>apG codJ v λn C=>apG codJ u λm D=>.br (Ap n) (.br (Ba n λi=>Ap (C i).1) (.leaf (bV (Fq n (λi=>(C i).1) (λi=>(C i).2) m (λi=>(D i).1) (λi=>(D i).2)),[])) .fail) .fail
 | _=>.fail
theorem p62:As Tryz.prog Gl 149 Te:=by
 refine Am AA mixed Tryz.func149 (by kernel_rfl) (by kernel_rfl) λvs v h' h=>?_;unfold Te at h;split at h
 ·rename_i v1 u1
  obtain ⟨n,C,a1,h⟩:=BV h;obtain ⟨m,D,a2,h⟩:=BV h;obtain ⟨hn,h⟩:=Ab h;obtain ⟨hs,h⟩:=Ab h;have:=Aa h;simp only [Prod.mk.injEq] at this;obtain ⟨rfl,rfl⟩:=this;have w:DK (λa=>a) (C31 n C m D) _:=.c (λh1=>.k (eN h1) <| .c (λh2=>.a (r31 (askL Abk) n C m D (BL h1) hs (Cb hn) (j:=λ_=>.und) (N8 (λ_ _=>rfl) h2)) <| .l) λh2=>.a (r31 (askL Abk) n C m D (BL h1) hs (Cb hn) (j:=λ_=>.und) (N9 (λ_ _=>rfl) h2)) <| .l) λh1=>.k (eN h1) <| .l
  have hx:=Bz Aai Abk (G:=Gl);exact ⟨_,cxA Gl AdP Abk,_,(show BK [v1,u1] [.sl 1 n (λu=>.sl 1 (C u).1 (λi=>iV ((C u).2 i))),.sl 1 m (λu=>.sl 1 (D u).1 (λi=>iV ((D u).2 i)))] from λS w cs hv=>by
   obtain ⟨c,l,rfl,q1,c',l',rfl,q2,q3⟩:=hv;exact ⟨c,_,rfl,a1 S w c q1,c',l',rfl,a2 S w c' q2,q3⟩),rfl,hx.1,hx.2,DK.of (Acg n C m D) w (by kernel_rfl),Aw.refl _⟩
 ·cases h
def Ho (e e':Ev5):Bool:=Aj (ieq e.th e'.th) (Aj (ieq e.pl e'.pl) (Aj (ieq e.dir e'.dir) (Aj (ieq e.loc e'.loc) (Aj (ieq e.val e'.val) true))))
noncomputable def tb16:AK:=(43,QU)::(148,H6)::(149,Te)::[]
theorem tb16_ok:Ar Tryz.prog Gl tb16:=.cons p42 <| .cons p61 <| .cons p62 .nil
def Jx (s s':Sh7):Bool:=Aj (ieq s.arch s'.arch) (Aj (ieq s.tt s'.tt) (Aj (ieq s.kk s'.kk) (Aj (DR s.ne s.E s'.ne s'.E) (Aj (ieq (ofNat s.nx) (ofNat s'.nx)) (Aj (Dw s.nr s.R s'.nr s'.R)
 (Aj (Fq s.nc (λi=>(s.C i).1) (λi=>(s.C i).2) s'.nc (λi=>(s'.C i).1) (λi=>(s'.C i).2)) (Ba s.nx λk=>Ho (s.X k) (s'.X k))))))))
def IH (s:Sh7):Bool:=Aj (Ap s.ne) (Aj (Ap s.nx) (Aj (Ap s.nr) (Aj (Ap s.nc) (Ba s.nc λi=>Ap (s.C i).1))))
def lp9:Lp:=⟨bmK 76 0 [2,3,4,5],2,bmK 76 0 [4],0,4611686018427387905⟩
def S9 (s s':Sh7) (c:Int) (_:Unit) (j:Nat->V):St:=⟨jsV 76 0 j [(2,.ptr 0 0),(3,.ptr 1 0),(4,bV false),(5,iV c)],[.cells [iV s.arch,.sl 6 s.ne (λi=>eV (s.E i)),.sl 5 s.nx (λi=>evV (s.X i)),iV s.tt,iV s.kk,.sl 1 s.nr (λi=>iV (s.R i)),.sl 1 s.nc (λu=>.sl 1 (s.C u).1 (λi=>iV ((s.C u).2 i)))],.cells [iV s'.arch,.sl 6 s'.ne (λi=>eV (s'.E i)),.sl 5 s'.nx (λi=>evV (s'.X i)),iV s'.tt,iV s'.kk,.sl 1 s'.nr (λi=>iV (s'.R i)),.sl 1 s'.nc (λu=>.sl 1 (s'.C u).1 (λi=>iV ((s'.C u).2 i)))]]⟩
noncomputable def B9 (L:LT):St->T (Ex×St):=λst=>AI tab ⟨Az tb16,L,Gl⟩ (A0 Tryz.f102 0) 0 st
def Aix (_ _:Sh7) (_:Nat) (_:Unit):Ex×St:=(.rt,⟨jsV 76 0 Ac [(4,bV false)],[]⟩)
def g9 (s s':Sh7) (i:Nat) (a:Unit):T ((Unit) ⊕ (Ex×St)):=.br (Aj (ieq (s.X i).th (s'.X i).th) (Aj (ieq (s.X i).pl (s'.X i).pl) (Aj (ieq (s.X i).dir (s'.X i).dir) (Aj (ieq (s.X i).loc (s'.X i).loc) (Aj (ieq (s.X i).val (s'.X i).val) true))))) (.leaf (.inl ())) (.leaf (.inr (Aix s s' i a)))
def fn9 (_ _:Sh7) (_:Unit):Ex×St:=(.ex 0,⟨jsV 76 0 Ac [(4,bV false)],[]⟩)
theorem r9 (L:LT) (s s':Sh7) (hm:s.nx=s'.nx) (hn:s.nx <= 4611686018427387904) {e:Ex×St} {a:Unit} {j:Nat->V} (h:BQ (g9 s s') (fn9 s s') s.nx 0 a=some e):(A3 (B9 L) lp9 4611686018427387905 (S9 s s' 0 a j)).sem=some (exR e) :=
 AY BB hn (λi a j r hi h=>DK.ok (L:=goR (S9 s s') exR i) (.k (ofNat_lt hi) <| .k (Ae hi) <| .k (Ae (hm ▸ hi)) <| .c (λh1=>.k (eN h1) <| .l) λh1=>.k (eN h1) <| .l) (by kernel_rfl) h) (λa j=>DK.ok (C:=.leaf (fn9 s s' a)) (L:=exR) (.k (Av (Nat.le_refl s.nx)) .l) (by kernel_rfl) rfl) (Nat.zero_add _).symm (Nat.lt_succ_of_le hn) h
def ls9:List (Nat×Lp×List (Nat×(Nat->V))):=[(0,lp9,[])]
def C9 (s s':Sh7):AB:=.br (ieq s.arch s'.arch) (.br (ieq s.tt s'.tt) (.br (ieq s.kk s'.kk) (.br (DR s.ne (λi=>s.E i) s'.ne (λi=>s'.E i)) (.br (ieq (ofNat s.nx) (ofNat s'.nx)) (.br (Dw s.nr s.R s'.nr s'.R) (.br (Fq s.nc (λi=>(s.C i).1) (λi i_1=>(s.C i).2 i_1) s'.nc (λi=>(s'.C i).1) (λi i_1=>(s'.C i).2 i_1)) (.br (Ba s.nx λk=>Ho (s.X k) (s'.X k)) (.leaf ((bV true),[])) (.leaf ((bV false),[]))) (.leaf ((bV false),[]))) (.leaf ((bV false),[]))) (.leaf ((bV false),[]))) (.leaf ((bV false),[]))) (.leaf ((bV false),[]))) (.leaf ((bV false),[]))) (.leaf ((bV false),[]))
theorem Af7 (s s':Sh7):(C9 s s').sem=some (bV (Jx s s'),[]):=by
 unfold C9 Jx;cases ieq s.arch s'.arch
 ·rfl
 cases ieq s.tt s'.tt
 ·rfl
 cases ieq s.kk s'.kk
 ·rfl
 cases DR s.ne s.E s'.ne s'.E
 ·rfl
 cases ieq (ofNat s.nx) (ofNat s'.nx)
 ·rfl
 cases Dw s.nr s.R s'.nr s'.R
 ·rfl
 cases Fq s.nc (λi=>(s.C i).1) (λi=>(s.C i).2) s'.nc (λi=>(s'.C i).1) (λi=>(s'.C i).2)
 ·rfl
 cases Ba s.nx λk=>Ho (s.X k) (s'.X k) <;> rfl
def IJ:List V->AB
 | [v,u]=>apS v λs=>apS u λs'=>.br (IH s) (.leaf (bV (Jx s s'),[])) .fail
 | _=>.fail
theorem p16:As Tryz.prog Gl 102 IJ:=by
 refine Am AA mixed Tryz.func102 (by kernel_rfl) (by kernel_rfl) λvs v h' h=>?_;unfold IJ at h;split at h
 ·rename_i v1 u1
  obtain ⟨s,a1,h⟩:=apS_some h;obtain ⟨s',a2,h⟩:=apS_some h;obtain ⟨hn,h⟩:=Ab h;have:=Aa h;simp only [Prod.mk.injEq] at this;obtain ⟨rfl,rfl⟩:=this;have hn:Ap s.ne=true∧Ap s.nx=true∧Ap s.nr=true∧Ap s.nc=true∧(Ba s.nc λi=>Ap (s.C i).1)=true:=by simpa [IH,Aj] using hn
  obtain ⟨n1,n2,n3,n4,n5⟩:=hn;have w:DK (λa=>a) (C9 s s') _:=.c (λh1=>.r 6 (eN h1) <| .c (λh2=>.r 6 (eN h2) <| .c (λh3=>.r 5 (eN h3) <| .k (eL s.ne) <| .k (eL s'.ne) <| .k n1 <| .r 2 (eN h3) <| .c (λh4=>.r 8 (eN h4) <| .c (λh5=>.r 5 (eN h5) <| .k (eL s.nr) <| .k (eL s'.nr) <| .k n3 <| .r 2 (eN h5) <| .c (λh6=>.r 5 (eN h6) <| .k (eL2 s.nc s.C) <| .k (eL2 s'.nc s'.C) <| .k n4 <| .k n5 <| .r 2 (eN h6) <| .c (λh7=>.k (eN h7) <| .c (λh8=>.a (r9 (askL ls9) s s' (BL h5) (Cb n2) (j:=λ_=>.und) (N8 (λ_ _=>rfl) h8)) <| .l) λh8=>.a (r9 (askL ls9) s s' (BL h5) (Cb n2) (j:=λ_=>.und) (N9 (λ_ _=>rfl) h8)) <| .l) λh7=>.k (eN h7) <| .l) λh6=>.r 7 (eN h6) <| .k eT <| .l) λh5=>.r 7 (eN h5) <| .r 8 eT <| .l) λh4=>.r 8 (eN h4) <| .r 15 eT <| .l) λh3=>.r 7 (eN h3) <| .r 23 eT <| .l) λh2=>.r 6 (eN h2) <| .r 30 eT <| .l) λh1=>.r 6 (eN h1) <| .r 36 eT <| .l
  have hx:=Bz tb16_ok ls9 (G:=Gl);exact ⟨_,cxA Gl tb16 ls9,_,(show BK [v1,u1] [GF s,GF s'] from λS w cs hv=>by
   obtain ⟨c,l,rfl,q1,c',l',rfl,q2,q3⟩:=hv;exact ⟨c,_,rfl,a1 S w c q1,c',l',rfl,a2 S w c' q2,q3⟩),rfl,hx.1,hx.2,DK.of (Af7 s s') w (by kernel_rfl),Aw.refl _⟩
 ·cases h
end Go.Proofs.YtkbafjceglhjhaaGreatDoor.Sh
namespace Go.Proofs.YtkbafjceglhjhaaGreatDoor.Ed
open Go.Sy Go
end Go.Proofs.YtkbafjceglhjhaaGreatDoor.Ed
namespace Go.Proofs.YtkbafjceglhjhaaGreatDoor.Ed
open Go.Sy Go
end Go.Proofs.YtkbafjceglhjhaaGreatDoor.Ed
namespace Go.Proofs.YtkbafjceglhjhaaGreatDoor.Sh
open Go.Sy Ed
set_option maxRecDepth 4000
def locL:List UInt8:=[120,121,122,97,98,99,100,101,102,103,104,105,106,107,108,109]
end Go.Proofs.YtkbafjceglhjhaaGreatDoor.Sh
namespace Go.Proofs.YtkbafjceglhjhaaGreatDoor.Sh
open Go.Sy Ed
set_option maxHeartbeats 1000000
set_option maxRecDepth 4000
noncomputable def tb3:AK:=(99,ofT)::(68,ofT)::(102,IJ)::[]
theorem tb3_ok:Ar Tryz.prog Gl tb3:=.cons p14 <| .cons p15 <| .cons p16 <| .nil
end Go.Proofs.YtkbafjceglhjhaaGreatDoor.Sh
