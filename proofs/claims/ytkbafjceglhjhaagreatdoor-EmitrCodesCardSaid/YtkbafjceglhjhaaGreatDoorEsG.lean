/-
  Layer 12: a test spoilt, in the law EmitrCodes (SpoilTest). No conditions.
-/
import Derived.Test.YtkbafjceglhjhaaGreatDoorEsE
import Derived.Shelf.Strings.OnBuilder
import Derived.Test.YtkbafjceglhjhaaGreatDoorCyT
import Derived.Test.YtkbafjceglhjhaaGreatDoorErD
import Derived.Test.YtkbafjceglhjhaaGreatDoorSyZa
namespace Go.Proofs.YtkbafjceglhjhaaGreatDoor.Er
open Go.Sy Go Go.Proofs.YtkbafjceglhjhaaGreatDoor.Ed Go.Proofs.YtkbafjceglhjhaaGreatDoor.Sh
open Int (ofNat)
set_option maxRecDepth 100000
set_option maxHeartbeats 1000000
def okA (s:Sh7):Bool:=ieq (B0 s) 0
def ntA (s:Sh7):Nat:=bif okA s then toN s.tt else 0
def KA (s:Sh7) (u:Nat):List In8:=bif okA s then cdL s s.nx u else []
def nrA (s:Sh7):Nat:=bif okA s then s.nx else 0
def LA (s:Sh7):List Nt:=bif okA s then inL s (toN s.tt) else []
def g3S (s:Sh7):Bool:=Aj (CU s.ne) (Fu s)
def YT (s:Sh7):Blk:=.jag ⟨63,1,ntA s,λ_=>.nilS,0,72,8,λ_=>true,λu=>BY (KA s u),λu=>AjK (KA s u),none⟩
def AcE (s:Sh7):A3:=.br (g3S s) (.leaf (.tup [.jref 0,iV (B0 s)],[YT s])) .fail
def Aa0 (s:Sh7):A3:=.br (g3S s) (.leaf (.tup [.ref 0,iV (B0 s)],[.row 3 1 (nrA s) λk=>iV (rg9 s k)])) .fail
def AbU (s:Sh7):A3:=.br (g3S s) (.leaf (.tup [.ref 0,iV (B0 s)],[.row 68 5 (Cn (LA s)) (Gt (LA s))])) .fail
theorem VV {s:Sh7} (h:g3S s=true):CU s.ne=true∧Aj (Av s.ne) (Aj (Av s.nx) (Aj (Av s.nr) (Aj (Av s.nc) (Bi s.nc (λi=>Av (s.C i).1)))))=true:=AM h
theorem XO {s:Sh7} {v:V} {h':List Blk} (h:(AcE s).sem=some (v,h')):∃ h'',(Sr s).sem=some (v,h'')∧Ap h'' h':=by
 obtain ⟨hg,h⟩:=Ac h;cases Aa h;obtain ⟨h1,h2⟩:=VV hg;unfold Sr codE YT ntA KA okA;rw [h1,h2];cases hw:ieq (B0 s) 0 with
 | true =>rw [AfA (good hw),Cj hw];exact ⟨_,rfl,Ap.refl _⟩
 | false=>exact ⟨_,rfl,.consB (.jag (λk hk=>absurd hk (Nat.not_lt_zero k)) (λ_ _=>rfl) (λ_ _=>rfl) λk hk=>absurd hk (Nat.not_lt_zero k)) (Ap.refl [])⟩
theorem WW {s:Sh7} {v:V} {h':List Blk} (h:(Aa0 s).sem=some (v,h')):∃ h'',(rgC s).sem=some (v,h'')∧Ap h'' h':=by
 obtain ⟨hg,h⟩:=Ac h;cases Aa h;obtain ⟨h1,h2⟩:=VV hg;unfold rgC nrA okA;rw [h1,h2];cases hw:ieq (B0 s) 0 with
 | true =>rw [C7 (good hw),Cj hw];exact ⟨_,rfl,Ap.refl _⟩
 | false=>exact ⟨_,rfl,.cons (λj hj=>absurd hj (Nat.not_lt_zero j)) (Ap.refl [])⟩
theorem X0 {s:Sh7} {v:V} {h':List Blk} (h:(AbU s).sem=some (v,h')):∃ h'',(TU s).sem=some (v,h'')∧Ap h'' h':=by
 obtain ⟨hg,h⟩:=Ac h;cases Aa h;obtain ⟨h1,h2⟩:=VV hg;unfold TU LA okA;rw [h1,h2];cases hw:ieq (B0 s) 0 with
 | true =>rw [C7 (good hw),Cj hw];exact ⟨_,rfl,Ap.refl _⟩
 | false=>exact ⟨_,rfl,.cons (λj hj=>absurd hj (Nat.not_lt_zero j)) (Ap.refl [])⟩
theorem Nm {α β:Type} {c:Cod α} {v:V} {F F':Nat->(Nat->α)->T β} {r:β} {Q:β->Prop} (H:∀ n f,(F n f).sem=some r->∃ r',(F' n f).sem=some r'∧Q r') (h:(apG c v F).sem=some r):∃ r',(apG c v F').sem=some r'∧Q r':=by
 unfold apG at h ⊢;split at h
 ·obtain ⟨h1,h2⟩:=Ac h
  obtain ⟨r',e1,e2⟩:=H _ _ h2;exact ⟨r',by rw [h1]; exact e1,e2⟩
 ·cases h
theorem AfY {β:Type} {v:V} {F F':Sh7->T β} {r:β} {Q:β->Prop} (H:∀ s,(F s).sem=some r->∃ r',(F' s).sem=some r'∧Q r') (h:(Sh.apS v F).sem=some r):∃ r',(Sh.apS v F').sem=some r'∧Q r':=by
 unfold Sh.apS at h ⊢;split at h
 ·exact Nm (λ_ _ h=>Nm (λ_ _ h=>Nm (λ_ _ h=>Nm (λ_ _ h=>H _ h) h) h) h) h
 ·cases h
theorem IV {k:Nat} {C D:Sh7->A3} (h:An Tryz.prog Gl k (shT C)) (hD:∀ s v h',(D s).sem=some (v,h')->∃ h'',(C s).sem=some (v,h'')∧Ap h'' h'):An Tryz.prog Gl k (shT D) :=
 Qd h λvs v h' hv=>by
  unfold shT at hv ⊢;split at hv
  ·obtain ⟨⟨v',h''⟩,e1,rfl,e2⟩:=AfY (Q:=λr=>r.1=v∧Ap r.2 h') (λs hs=>by
    obtain ⟨h'',q1,q2⟩:=hD s v h' hs;exact ⟨(v,h''),q1,rfl,q2⟩) hv
   exact ⟨h'',e1,e2⟩
  ·cases hv
theorem p9A:An Tryz.prog Gl 9 (shT AcE):=IV p9 λs v h'=>XO
theorem Apg:An Tryz.prog Gl 10 (shT AcE):=IV Apf λs v h'=>XO
theorem Apd:An Tryz.prog Gl 11 (shT Aa0):=IV p11 λs v h'=>WW
theorem Apc:An Tryz.prog Gl 12 (shT Aa0):=IV Apb λs v h'=>WW
theorem Apa:An Tryz.prog Gl 13 (shT AbU):=IV p13 λs v h'=>X0
theorem AoZ:An Tryz.prog Gl 14 (shT AbU):=IV AoY λs v h'=>X0
theorem Xd (s:Sh7):ntA s <= 16:=by
 unfold ntA okA;cases hw:ieq (B0 s) 0 with
 | true=>exact (Br (C7 (good hw))).2.1
 | false=>exact Nat.zero_le _
theorem MX (s:Sh7):nrA s <= 16:=by
 unfold nrA okA;cases hw:ieq (B0 s) 0 with
 | true=>exact (good hw).hi
 | false=>exact Nat.zero_le _
theorem Agj (s:Sh7) (u:Nat):BY (KA s u) <= 80:=by
 unfold KA okA;cases hw:ieq (B0 s) 0 with
 | true =>have:=LZ s u s.nx;have:=(good hw).hi;show BY (cdL s s.nx u) <= 80;omega
 | false=>exact Nat.zero_le _
theorem Agi (s:Sh7):Cn (LA s) <= 256:=by
 unfold LA okA;cases hw:ieq (B0 s) 0 with
 | true =>have h1:=RO s (toN s.tt);have h2:=(Br (C7 (good hw)));have h3:toN s.tt * s.nx <= 16 * 16:=Nat.mul_le_mul h2.2.1 h2.1;show (inL s (toN s.tt)).length <= 256;omega
 | false=>exact Nat.zero_le _
def shL (s:Sh7):V:=.agg [iV s.arch,.sl 6 s.ne (λi=>eV (s.E i)),.sl 5 s.nx (λi=>evV (s.X i)),iV s.tt,iV s.kk,.sl 1 s.nr (λi=>iV (s.R i)),.sl 1 s.nc (λu=>.sl 1 (s.C u).1 (λi=>iV ((s.C u).2 i)))]
def twL (s:Sh7):V:=.agg [iV s.arch,.ref 1,.ref 2,iV s.tt,iV s.kk,.ref 3,.jref 4]
def tsL:V:=.agg [iV 0,.str [],.str [],.ref 12,.jref 6,iV 0,iV 0,iV 0,iV 0,.str [],iV 0,.nilS]
def nW (s:Sh7):V:=bV (AQ (ieq (B0 s) (B0 s)))
def nT:V:=bV (AQ true)
def vs3 (s:Sh7):List V:=jsV 147 0 (λ_=>AI) [(0,shL s),(1,.ptr 0 0),(2,bV false),(3,.ptr 5 0),(4,.jref 6),(5,iV (B0 s)),(6,.jref 7),(7,iV (B0 s)),(8,.jref 8),(9,iV (B0 s)),(10,.ref 9),(11,iV (B0 s)),(12,.ref 10),(13,iV (B0 s)),(14,.ref 11),(15,iV (B0 s)),(16,.ref 12),(17,iV (B0 s)),(18,.ref 13),(19,iV (B0 s)),(20,.ref 14),(21,iV (B0 s)),(22,.ptr 15 0),(23,shL s),(24,twL s),(25,.tup [.jref 6,iV (B0 s)]),(26,twL s),(27,.tup [.jref 6,iV (B0 s)]),(28,.jref 6),(29,iV (B0 s)),(30,.tup [.jref 7,iV (B0 s)]),(31,twL s),(32,.tup [.jref 7,iV (B0 s)]),(33,.jref 7),(34,iV (B0 s)),(35,.tup [.jref 8,iV (B0 s)]),(36,shL s),(37,.tup [.jref 8,iV (B0 s)]),(38,.jref 8),(39,iV (B0 s)),(40,.tup [.ref 9,iV (B0 s)]),(41,twL s),(42,.tup [.ref 9,iV (B0 s)]),(43,.ref 9),(44,iV (B0 s)),(45,.tup [.ref 10,iV (B0 s)]),(46,twL s),(47,.tup [.ref 10,iV (B0 s)]),(48,.ref 10),(49,iV (B0 s)),(50,.tup [.ref 11,iV (B0 s)]),(51,shL s),(52,.tup [.ref 11,iV (B0 s)]),(53,.ref 11),(54,iV (B0 s)),(55,.tup [.ref 12,iV (B0 s)]),(56,twL s),(57,.tup [.ref 12,iV (B0 s)]),(58,.ref 12),(59,iV (B0 s)),(60,.tup [.ref 13,iV (B0 s)]),(61,twL s),(62,.tup [.ref 13,iV (B0 s)]),(63,.ref 13),(64,iV (B0 s)),(65,.tup [.ref 14,iV (B0 s)]),(66,shL s),(67,.tup [.ref 14,iV (B0 s)]),(68,.ref 14),(69,iV (B0 s)),(70,iV (B0 s)),(71,iV (B0 s)),(72,nW s),(73,nW s),(74,iV (B0 s)),(75,iV (B0 s)),(76,nW s),(77,nW s),(78,nW s),(79,iV (B0 s)),(80,iV (B0 s)),(81,nW s),(82,nW s),(83,nW s),(84,.jref 6),(85,.jref 8),(86,bV true),(87,nT),(88,nT),(89,nT),(90,.ref 9),(91,.ref 11),(92,bV true),(93,nT),(94,nT),(95,nT),(96,.ref 12),(97,.ref 14),(98,bV true),(99,nT),(100,nT),(101,nT),(102,twL s),(103,shL s),(104,bV true),(105,nT),(106,nT),(107,.jref 6),(108,.ref 12),(109,tsL),(110,tsL)]
section
def HS (s:Sh7) (n:Nat) (ln:Nat->Nat) (K:Nat->Nat->In8) (m:Nat) (f:Nat->Ini5):List Blk:=[cl7 s,.row 76 6 s.ne (λi=>eV (s.E i)),.row 74 5 s.nx (λi=>evV (s.X i)),.row 3 1 s.nr (λi=>iV (s.R i)),.jag ⟨24,1,s.nc,λ_=>.und,0,3,1,λ_=>true,λu=>(s.C u).1,λu k=>iV ((s.C u).2 k),none⟩,.cells [iV s.arch,.ref 1,.ref 2,iV s.tt,iV s.kk,.ref 3,.jref 4],
 .jag ⟨63,1,n,λ_=>.nilS,0,72,8,λ_=>true,ln,λw k=>i8V (K w k),none⟩,YT s,YT s,.row 3 1 (nrA s) (λk=>iV (rg9 s k)),.row 3 1 (nrA s) (λk=>iV (rg9 s k)),.row 3 1 (nrA s) (λk=>iV (rg9 s k)),.row 68 5 m (λk=>i5V (f k)),.row 68 5 (Cn (LA s)) (Gt (LA s)),.row 68 5 (Cn (LA s)) (Gt (LA s)),.cells [iV 0,.str [],.str [],.ref 12,.jref 6,iV 0,iV 0,iV 0,iV 0,.str [],iV 0,.nilS],.saved (vs3 s),.cells [iV 0,.str [],.str [],.ref 12,.jref 6,iV 0,iV 0,iV 0,iV 0,.str [],iV 0,.nilS]]
def Ah6 (s:Sh7) (n:Nat) (ln:Nat->Nat) (m:Nat) (f:Nat->Ini5) (u:Nat) (K:Nat->Nat->In8) (c:Int):St:=⟨jsV 85 0 Ab [(1,.ptr 17 0),(2,nV u),(3,iV c)],HS s n ln K m f⟩
def T19 (s:Sh7) (n:Nat) (ln:Nat->Nat) (m:Nat) (f:Nat->Ini5) (q:Nat) (K:Nat->Nat->In8) (c:Int):St:=⟨jsV 85 0 Ab [(1,.ptr 17 0),(q,iV c)],HS s n ln K m f⟩
def Ah5 (s:Sh7) (n:Nat) (ln:Nat->Nat) (K:Nat->Nat->In8) (m:Nat) (f:Nat->Ini5) (c:Int):St:=⟨jsV 85 0 Ab [(1,.ptr 17 0),(4,iV c)],HS s n ln K m f⟩
def x19 (s:Sh7) (n:Nat) (ln:Nat->Nat) (m:Nat) (K:Nat->Nat->In8) (f:Nat->Ini5):St:=⟨jsV 85 0 Ab [(1,.ptr 17 0)],HS s n ln K m f⟩
def spM (ln:Nat->Nat) (K:Nat->Nat->In8) (u i w k:Nat):In8:=bif (Nat.blt w u && Nat.blt k (ln w)) || (Nat.blt k i && Nat.beq w u) then spC w else K w k
def spN (f:Nat->Ini5) (i k:Nat):Ini5:=bif Nat.blt k i then spI else f k
def Aex:List Blk:=[.saved FB,.saved FB,.saved FB,.saved FB,.saved FB,.saved FB,.saved FB,.saved FB,.saved FB,.saved FB,.saved FB,.saved FB,.saved FB,.saved FB,.saved FB,.saved FB,.saved FB,.saved FB]
def G19 (i:Nat) (g:Nat->V) (c:V):Nat->Nat->V
 | 0=>g
 | j+1=>AG (i+j) (G19 i g c j) c
def Add (ln:Nat->Nat) (K:Nat->Nat->In8) (i j:Nat) (c:Int):St:=⟨jsV 85 0 Ab [(1,.ptr 17 0),(5,nV i),(6,.ref 18),(7,iV c)],Aex++[.xrow true 72 8 (ln i+j) (G19 (ln i) (λk=>i8V (K i k)) (i8V ⟨wr .i64 (AZ (-100) (ofNat i)),0,0,0,0,[],[],0⟩) j)]⟩
def W5 (m:Nat) (f:Nat->Ini5) (j:Nat) (c:Int):St:=⟨jsV 85 0 Ab [(1,.ptr 17 0),(8,.ref 18),(9,iV c)],Aex++[.xrow true 68 5 (m+j) (G19 m (λk=>i5V (f k)) (i5V ⟨-10,0,[],[],0⟩) j)]⟩
end
def Abq:Lp:=⟨bmK 85 0 [1,2,3],18,bmK 85 0 [1,2],18,4611686018427387905⟩
def Anl:Lp:=⟨bmK 85 0 [1,2],18,bmK 85 0 [1],18,4611686018427387905⟩
def Abp:Lp:=⟨bmK 85 0 [1,4],18,bmK 85 0 [1],18,4611686018427387905⟩
def Abo:Lp:=⟨bmK 85 0 [1,5],18,bmK 85 0 [1],18,4611686018427387905⟩
def Apy:Lp:=⟨bmK 85 0 [1,5,6,7],18,bmK 85 0 [],0,4611686018427387905⟩
def Om:Lp:=⟨bmK 85 0 [1,5,6,7],19,bmK 85 0 [1,5],19,4611686018427387905⟩
def An1:Lp:=⟨bmK 85 0 [1,8,9],18,bmK 85 0 [],0,4611686018427387905⟩
def K6:Lp:=⟨bmK 85 0 [1,8,9],19,bmK 85 0 [1],19,4611686018427387905⟩
def AmR:List (Nat×Lp×List (Nat×(Nat->V))):=[(0,Anl,[]),(2,Abq,[]),(4,Abp,[]),(6,Abo,[])]
def AnH:List (Nat×Nat×Lp×Lp):=[(8,6,Apy,Om),(10,8,An1,K6)]
noncomputable def c44:FuncId->List V->St->T (V×Res):=JC [(44,ML tab (cxC Gl []) Tryz.f44)] (Ax [])
theorem Akv:Bj Tryz.prog ⟨c44,Gl⟩:=Gm mixed (.cons rfl A2 (LX (P:=Tryz.prog) .nil).1 (LX (P:=Tryz.prog) .nil).2 Tryz.func44 (by kernel_rfl) (by kernel_rfl) .nil) (E7 (Γ:=⟨Ax [],Gl⟩) rfl .nil)
noncomputable def B19 (id:Nat):St->T (Ex×St):=λst=>A8 tab ⟨c44,Go.Sy.askF AnH AmR,Gl⟩ (As Tryz.f19 id) id st
section
variable (s:Sh7) {n:Nat} {ln:Nat->Nat} (K:Nat->Nat->In8) (m:Nat) (f:Nat->Ini5)
theorem Pb (i:Nat):Nat.blt i (i+1)=true:=Nat.ble_eq_true_of_le (Nat.le_refl _)
theorem AfV (i:Nat):Nat.blt i i=false:=by
 cases hb:Nat.blt i i with
 | false=>rfl
 | true=>have:=Nat.le_of_ble_eq_true hb; omega
theorem Pf {k i:Nat} (h:k ≠ i):Nat.beq k i=false:=by
 cases hb:Nat.beq k i with
 | false=>rfl
 | true=>exact absurd (Nat.eq_of_beq_eq_true hb) h
theorem Pd {k i:Nat} (h:k ≠ i):Nat.blt k (i+1)=Nat.blt k i:=by
 cases hb:Nat.blt k i with
 | true=>have:=Nat.le_of_ble_eq_true hb; exact Nat.ble_eq_true_of_le (by omega)
 | false =>
  cases hc:Nat.blt k (i+1) with
  | false=>rfl
  | true =>have h1:=Nat.le_of_ble_eq_true hc;have h2:Nat.blt k i=true:=Nat.ble_eq_true_of_le (by omega);rw [hb] at h2;cases h2
theorem Aed (ln:Nat->Nat) (u i:Nat):CN (λw k=>i8V (spM ln K u i w k)) u (By (λk=>i8V (spM ln K u i u k)) i (i8V (spC u)))=λw k=>i8V (spM ln K u (i+1) w k):=by
 funext w k;unfold CN;rw [ER,BI,Dk];unfold spM;by_cases hw:w=u
 ·subst hw
  rw [show Nat.beq w w=true from Nat.beq_refl w];by_cases hk:k=i
  ·subst hk
   rw [show Nat.beq k k=true from Nat.beq_refl k,Pb];simp
  ·rw [Pf hk,Pd hk]
   rfl
 ·rw [Pf hw]
  show i8V (bif Nat.blt w u && Nat.blt k (ln w) || Nat.blt k i && Nat.beq w u then spC w else K w k)=_
  rw [Pf hw,Bool.and_false,Bool.and_false]
theorem Ak8 (ln:Nat->Nat) (u:Nat):spM ln K u (ln u)=spM ln K (u+1) 0:=by
 funext w k;unfold spM;rw [show Nat.blt k 0=false from rfl,bFA,Bool.or_false];by_cases hw:w=u
 ·subst hw
  rw [show Nat.beq w w=true from Nat.beq_refl w,Pb,AfV,bTA,bFA,bFO,Bool.and_true]
 ·rw [Pf hw,Pd hw,Bool.and_false,Bool.or_false]
theorem Aec (i:Nat):By (λk=>i5V (spN f i k)) i (i5V spI)=λk=>i5V (spN f (i+1) k):=by
 funext k;rw [Dk];unfold spN;by_cases hk:k=i
 ·subst hk
  rw [show Nat.beq k k=true from Nat.beq_refl k,Pb];rfl
 ·rw [Pf hk,Pd hk]
  rfl
def HX (s:Sh7) (n:Nat) (ln:Nat->Nat) (mem:Nat->Nat->V) (m:Nat) (g:Nat->V):List Blk:=[cl7 s,.row 76 6 s.ne (λi=>eV (s.E i)),.row 74 5 s.nx (λi=>evV (s.X i)),.row 3 1 s.nr (λi=>iV (s.R i)),.jag ⟨24,1,s.nc,λ_=>.und,0,3,1,λ_=>true,λu=>(s.C u).1,λu k=>iV ((s.C u).2 k),none⟩,.cells [iV s.arch,.ref 1,.ref 2,iV s.tt,iV s.kk,.ref 3,.jref 4],
 .jag ⟨63,1,n,λ_=>.nilS,0,72,8,λ_=>true,ln,mem,none⟩,YT s,YT s,.row 3 1 (nrA s) (λk=>iV (rg9 s k)),.row 3 1 (nrA s) (λk=>iV (rg9 s k)),.row 3 1 (nrA s) (λk=>iV (rg9 s k)),.row 68 5 m g,.row 68 5 (Cn (LA s)) (Gt (LA s)),.row 68 5 (Cn (LA s)) (Gt (LA s)),.cells [iV 0,.str [],.str [],.ref 12,.jref 6,iV 0,iV 0,iV 0,iV 0,.str [],iV 0,.nilS],.saved (vs3 s),.cells [iV 0,.str [],.str [],.ref 12,.jref 6,iV 0,iV 0,iV 0,iV 0,.str [],iV 0,.nilS]]
theorem Amu {u:Nat} (hu:u<n) (hn:ln u <= 80):(Au (B19 2) Abq 4611686018427387905 (Ah6 s n ln m f u (spM ln K u 0) 0)).sem=some (.ex 2,T19 s n ln m f 2 (spM ln K u (ln u)) (ofNat u)) :=
 B6 (S:=λi=>Ah6 s n ln m f u (spM ln K u i) (ofNat i)) (m:=ln u) (show (Ex.ex 2) ≠ .nm from nofun) (λi hi=>DW.rd (.k (Ae hu) <| .k (decide_eq_true hu) <| .r 2 eT <| .k (ofNat_lt hi) <| .k (Ae hu) <| .k (decide_eq_true hu) <| .r 2 eT <| .k (Ae hi) <| .k eT <| .k (decide_eq_true hi) <| .e (show (Ex.nm,(⟨jsV 85 0 Ab [(1,.ptr 17 0),(2,nV u),(3,iV (wr .i64 (Ah (ofNat i) 1)))],HX s n ln (CN (λw k=>i8V (spM ln K u i w k)) u (By (λk=>i8V (spM ln K u i u k)) i (i8V (spC u)))) m (λk=>i5V (f k))⟩:St))=_ from by rw [Aed,w16 hi (by omega)]; rfl)) (by kernel_rfl)) (DW.rd (.k (Ae hu) <| .k (decide_eq_true hu) <| .r 2 eT <| .k (F3 (ln u)) .l) (by kernel_rfl)) (by omega)
theorem r19 (hn:n <= 16) (hs:∀ i,i<n->ln i <= 80):(Au (B19 0) Anl 4611686018427387905 (T19 s n ln m f 2 (spM ln K 0 0) 0)).sem=some (.ex 0,x19 s n ln m (spM ln K n 0) f) :=
 B6 (S:=λi=>T19 s n ln m f 2 (spM ln K i 0) (ofNat i)) (m:=n) (show (Ex.ex 0) ≠ .nm from nofun) (λi hi=>DW.rd (.k (ofNat_lt hi) <| .a (Amu s K m f hi (hs i hi)) <| .e (nm2 (f:=T19 s n ln m f 2) (Ak8 K ln i) (Gp (by omega)))) (by kernel_rfl)) (DW.rd (.k (F3 n) .l) (by kernel_rfl)) (by omega)
theorem Amt (n:Nat) (ln:Nat->Nat) (hm:m <= 256):(Au (B19 4) Abp 4611686018427387905 (Ah5 s n ln K m (spN f 0) 0)).sem=some (.ex 4,x19 s n ln m K (spN f m)) :=
 B6 (S:=λi=>Ah5 s n ln K m (spN f i) (ofNat i)) (m:=m) (show (Ex.ex 4) ≠ .nm from nofun) (λi hi=>DW.rd (.k (ofNat_lt hi) <| .k (Ae hi) <| .k (decide_eq_true hi) <| .e (show (Ex.nm,(⟨jsV 85 0 Ab [(1,.ptr 17 0),(4,iV (wr .i64 (Ah (ofNat i) 1)))],HX s n ln (λw k=>i8V (K w k)) m (By (λk=>i5V (spN f i k)) i (i5V spI))⟩:St))=_ from by rw [Aec,w16 hi (by omega)]; rfl)) (by kernel_rfl)) (DW.rd (.k (F3 m) .l) (by kernel_rfl)) (by omega)
def st8 (s:Sh7) (n:Nat) (ln:Nat->Nat) (K:Nat->Nat->In8) (m:Nat) (f:Nat->Ini5) (i:Nat):St:=⟨jsV 85 0 Ab [(1,.ptr 17 0),(5,nV i),(6,.mref 6 i),(7,iV 0)],HS s n ln K m f⟩
def Al0 (s:Sh7) (n:Nat) (ln:Nat->Nat) (K:Nat->Nat->In8) (m:Nat) (f:Nat->Ini5):St:=⟨jsV 85 0 Ab [(1,.ptr 17 0),(8,.ref 12),(9,iV 0)],HS s n ln K m f⟩
theorem Aon {n i b:Nat} (hn:n <= 256) (hi:i<20) (hb:b <= 1000:=by decide):Bp (n+i) 1 b=true:=decide_eq_true (by
 have:(n+i+1) * b <= 300 * 1000:=Nat.mul_le_mul (by omega) hb;omega)
theorem Amr (i:Nat) (hs:ln i <= 80):(Au (B19 8) Om 4611686018427387905 (Add ln K i 0 0)).sem=some (.ex 8,⟨jsV 85 0 Ab [(1,.ptr 17 0),(5,nV i)],Aex++[.xrow true 72 8 (ln i+20) (G19 (ln i) (λk=>i8V (K i k)) (i8V ⟨wr .i64 (AZ (-100) (ofNat i)),0,0,0,0,[],[],0⟩) 20)]⟩) :=
 B6 (S:=λj=>Add ln K i j (ofNat j)) (m:=20) (show (Ex.ex 8) ≠ .nm from nofun) (λj hj=>DW.rd (.k (ofNat_lt (n:=20) hj) <| .k (Aon (n:=ln i) (i:=j) (b:=80) (by omega) hj) <| .e (nm1 (f:=Add ln K i (j+1)) (Gp (i:=j) (by omega)))) (by kernel_rfl))
  (DW.rd (.k (show ilt (ofNat 20) 20=false from rfl) .l) (by kernel_rfl)) (by omega)
theorem Anz (n:Nat) (i:Nat) (hs:ln i <= 80):Ou (B19 8) Om 6 (st8 s n ln K m f i) (72,8,ln i,λk=>i8V (K i k))=some (.ex 8,T19 s n ln m f 5 K (ofNat i)):=by
 unfold Ou;rw [show (Au (B19 8) Om Om.fuel (Qg (st8 s n ln K m f i) 6 (72,8,ln i,λk=>i8V (K i k)))).sem=some _ from Amr K i hs];rfl
theorem Ams (hn:n <= 16) (hs:∀ i,i<n->ln i <= 80):(Au (B19 6) Abo 4611686018427387905 (T19 s n ln m f 5 K 0)).sem=some (.ex 6,x19 s n ln m K f) :=
 B6 (S:=λi=>T19 s n ln m f 5 K (ofNat i)) (m:=n) (show (Ex.ex 6) ≠ .nm from nofun) (λi hi=>DW.rd (.k (ofNat_lt hi) <| .k (Ae hi) <| .k (decide_eq_true hi) <| .k eT <| .k eT <| .a (Anz s K m f n i (hs i hi)) <| .e (nm1 (f:=T19 s n ln m f 5 K) (Gp (by omega)))) (by kernel_rfl)) (DW.rd (.k (F3 n) .l) (by kernel_rfl)) (by omega)
theorem Aj2 (hm:m <= 256):(Au (B19 10) K6 4611686018427387905 (W5 m f 0 0)).sem=some (.ex 10,⟨jsV 85 0 Ab [(1,.ptr 17 0)],Aex++[.xrow true 68 5 (m+20) (G19 m (λk=>i5V (f k)) (i5V ⟨-10,0,[],[],0⟩) 20)]⟩) :=
 B6 (S:=λj=>W5 m f j (ofNat j)) (m:=20) (show (Ex.ex 10) ≠ .nm from nofun) (λj hj=>DW.rd (.k (ofNat_lt (n:=20) hj) <| .k (Aon (n:=m) (i:=j) (b:=56) hm hj) <| .e (nm1 (f:=W5 m f (j+1)) (Gp (i:=j) (by omega)))) (by kernel_rfl))
  (DW.rd (.k (show ilt (ofNat 20) 20=false from rfl) .l) (by kernel_rfl)) (by omega)
theorem Akc (n:Nat) (ln:Nat->Nat) (hm:m <= 256):Ou (B19 10) K6 8 (Al0 s n ln K m f) (68,5,m,λk=>i5V (f k))=some (.ex 10,x19 s n ln m K f):=by
 unfold Ou;rw [show (Au (B19 10) K6 K6.fuel (Qg (Al0 s n ln K m f) 8 (68,5,m,λk=>i5V (f k)))).sem=some _ from Aj2 m f hm];rfl
end
end Go.Proofs.YtkbafjceglhjhaaGreatDoor.Er
namespace Go.Proofs.YtkbafjceglhjhaaGreatDoor.Ed
open Go.Sy Go.Shelf Go.Proofs Go.RowKit
def Xq:Go.Shelf.Ren:=⟨λ| 156=>75 | 165=>116 | 166=>117 | 169=>118 | 240=>161 | 241=>162 | 276=>188 | 277=>189 | n=>n,λ| 31=>140 | 9=>9 | 3=>3 | 4=>4 | 0=>0 | 20=>20 | 72=>169 | 76=>173 | 70=>166 | 37=>167 | 75=>172 | 127=>201 | 164=>212 | 5=>5 | 80=>154 | n=>n,λ| n=>n⟩
theorem TQ:Go.Proofs.Lays.n156 Tryz.prog Xq:={
 mixed:=by kernel_rfl
 f156:=Tryz.func75.trans (congrArg some (by kernel_rfl))
 f165:=Tryz.func116.trans (congrArg some (by kernel_rfl))
 f166:=Tryz.func117.trans (congrArg some (by kernel_rfl))
 f169:=Tryz.func118.trans (congrArg some (by kernel_rfl))
 f240:=Tryz.func161.trans (congrArg some (by kernel_rfl))
 f241:=Tryz.func162.trans (congrArg some (by kernel_rfl))
 f276:=Tryz.func188.trans (congrArg some (by kernel_rfl))
 f277:=Tryz.func189.trans (congrArg some (by kernel_rfl))
 t0:=Tryz.underlying0
 a0:=Tryz.isAgg0
 z0:=Tryz.sizeOf0
 v0:=Tryz.zeroValue0
 t3:=Tryz.underlying3
 a3:=Tryz.isAgg3
 z3:=Tryz.sizeOf3
 v3:=Tryz.zeroValue3
 t4:=Tryz.underlying4
 a4:=Tryz.isAgg4
 z4:=Tryz.sizeOf4
 v4:=Tryz.zeroValue4
 t9:=Tryz.underlying9
 a9:=Tryz.isAgg9
 z9:=Tryz.sizeOf9
 v9:=Tryz.zeroValue9
 t20:=Tryz.underlying20
 a20:=Tryz.isAgg20
 z20:=Tryz.sizeOf20
 v20:=Tryz.zeroValue20
 t31:=Tryz.underlying140
 a31:=Tryz.isAgg140
 z31:=Tryz.sizeOf140
 v31:=Tryz.zeroValue140
 t37:=Tryz.underlying167
 a37:=Tryz.isAgg167
 z37:=Tryz.sizeOf167
 v37:=Tryz.zeroValue167
 t70:=Tryz.underlying166
 a70:=Tryz.isAgg166
 z70:=Tryz.sizeOf166
 v70:=Tryz.zeroValue166
 t72:=Tryz.underlying169
 a72:=Tryz.isAgg169
 z72:=Tryz.sizeOf169
 v72:=Tryz.zeroValue169
 t75:=Tryz.underlying172
 a75:=Tryz.isAgg172
 z75:=Tryz.sizeOf172
 v75:=Tryz.zeroValue172
 t76:=Tryz.underlying173
 a76:=Tryz.isAgg173
 z76:=Tryz.sizeOf173
 v76:=Tryz.zeroValue173
 t127:=Tryz.underlying201
 a127:=Tryz.isAgg201
 z127:=Tryz.sizeOf201
 v127:=Tryz.zeroValue201
 t164:=Tryz.underlying212
 a164:=Tryz.isAgg212
 z164:=Tryz.sizeOf212
 v164:=Tryz.zeroValue212 }
theorem Qy:Builder.Extra Tryz.prog Xq:={
 sizeBuilder:=by kernel_rfl
 liesBuilder:=by kernel_rfl
 t5:=Tryz.underlying5
 a5:=Tryz.isAgg5
 z5:=Tryz.sizeOf5
 v5:=Tryz.zeroValue5
 infoByte:=by kernel_rfl
 cellsByte:=by kernel_rfl
 sizeByte:=by kernel_rfl
 neB5:=by decide }
open Go.RowKit in
theorem strings_Join_none (a:Option Addr) (c:Nat) (sep:ByteArray) (w:World) :
  Calls Tryz.prog 75 #[.slice a 0 c,.string sep] w λe w'=>e = .returned (.string ⟨#[]⟩)∧w'=w:=Any.strings_Join_none TQ Qy a c sep w
open Go.RowKit in
theorem strings_Join (bk o c:Nat) (xs:List ByteArray) (sep:ByteArray) (w:World) (hcells:∀ (j:Nat) x,xs[j]? = some x->w.cell? ⟨bk,o+j,none⟩=some (.string x)) (hbk:bk<w.heap.size) (hN:xs.length <= 140737488355328) (hcap:xs.length <= c) (hlen:(Lib.join (xs.map (·.data.toList)) sep.data.toList).length <= 140737488355328) :
  Calls Tryz.prog 75 #[.slice (some ⟨bk,o,none⟩) xs.length c,.string sep] w λe w'=>e = .returned (.string ⟨(Lib.join (xs.map (·.data.toList)) sep.data.toList).toArray⟩)∧Below w.heap.size w w':=Any.strings_Join TQ Qy bk o c xs sep w hcells hbk hN hcap hlen
def okS (v:V):Bool:=match gS v with
 | some _=>true
 | none=>false
def edS (v:V):List UInt8:=match gS v with
 | some e=>e
 | none=>[]
theorem AaO {v:V} (h:okS v=true):v = .str (edS v):=by
 unfold okS at h;unfold edS;split at h
 ·rename_i e he
  exact X6 he
 ·cases h
def Alz (n:Nat) (f:Nat->List UInt8):V:=.sl 1 n λi=>.str (f i)
def apS {α:Type} (v:V) (F:Nat->(Nat->List UInt8)->T α):T α :=
 match Za v with
 | some (n,g)=>.br (Bi n λi=>okS (g i)) (F n λi=>edS (g i)) .fail
 | none=>.fail
theorem apS_some {α:Type} {v:V} {F:Nat->(Nat->List UInt8)->T α} {r:α} (h:(apS v F).sem=some r) :
  ∃ n f,(∀ (S:Nat->Prop) (w:World) (c:Value),VR S w v noK c->VR S w (Alz n f) noK c)∧(F n f).sem=some r:=by
 unfold apS at h;split at h
 ·rename_i n g hg
  obtain ⟨h1,h2⟩:=Ac h;have h1:=AE.1 h1;refine ⟨n,_,λS w c hv=>?_,h2⟩;unfold Za at hg;split at hg
  ·rename_i s n' g'
   split at hg
   ·rename_i hs
    simp only [Option.some.injEq,Prod.mk.injEq] at hg;obtain ⟨rfl,rfl⟩:=hg;have hs:s=1:=Nat.eq_of_beq_eq_true hs;subst hs;obtain ⟨a,cap,e,hc,hb⟩:=hv;refine ⟨a,cap,e,hc,hb.imp id ?_⟩
    rintro ⟨b,o,ea,hel⟩
    refine ⟨b,o,ea,λi hi=>?_⟩;have:=hel i hi;rw [AaO (h1 i hi)] at this;exact this
   ·cases hg
  ·cases hg
 ·cases h
def Xr (n:Nat) (g:Nat->List UInt8) (sep:List UInt8):List UInt8:=Lib.join ((List.range n).map g) sep
def AbM (n:Nat) (g:Nat->List UInt8) (sep:List UInt8):Bool:=decide (n <= 140737488355328) && decide ((Xr n g sep).length <= 140737488355328)
def AbL:List V->A3
 | [v,.str sep]=>apS v λn g=>.br (AbM n g sep) (out (.str (Xr n g sep))) .fail
 | _=>.fail
theorem Zd {S:Nat->Prop} {w w':World} (h:Below w.heap.size w w'):Ext noK S [] w noK S [] w' :=
 Ext.ofNil h.os h.tape h.output h.size (λb hb _=>h.block b hb) (λi b hb=>absurd hb (Du _ _ _)) (λ_ hb=>.inl hb) (λ_ hb=>hb) λ_ _ hb=>by simp at hb
theorem Apm:An Tryz.prog Gl 75 AbL:=by
 refine ⟨⟨Tryz.f75,Tryz.func75,by decide,by kernel_rfl⟩,λvs cs S w v h' hS hE hv he=>?_⟩;unfold AbL at he;split at he
 ·rename_i u sep
  obtain ⟨n,g,ha,h1⟩:=apS_some he;obtain ⟨hk,hq⟩:=Ac h1;have:=Aa hq;simp only [Prod.mk.injEq] at this;obtain ⟨rfl,rfl⟩:=this;simp only [AbM,Bool.and_eq_true,decide_eq_true_eq] at hk;obtain ⟨hn,hlen⟩:=hk;obtain ⟨c,l,rfl,q1,c2,l2,rfl,q2,q3⟩:=hv;have q3:l2=[]:=q3;subst q3;have q2:c2 = .string ⟨sep.toArray⟩:=q2;subst q2;obtain ⟨a,cap,rfl,hcap,hel⟩:=ha S w c q1;refine ⟨λi b hb=>by simp at hb,?_⟩;cases n with
  | zero =>
   refine (strings_Join_none a cap ⟨sep.toArray⟩ w).mono ?_
   rintro e w' ⟨he,rfl⟩
   exact ⟨_,noK,S,he,Good.empty hS,rfl,Ext.refl _ _ _ _⟩
  | succ m =>
   rcases hel with h0 | ⟨b,o,rfl,hel⟩
   ·cases h0
   ·have hl:((List.range (m+1)).map λi=>(⟨(g i).toArray⟩:ByteArray)).length=m+1:=by simp
    have hd:((List.range (m+1)).map λi=>(⟨(g i).toArray⟩:ByteArray)).map (·.data.toList)=(List.range (m+1)).map g:=by
     rw [List.map_map];apply List.map_congr_left;intro i _;simp
    have hcell:∀ j,j<m+1->S b∧w.cell? ⟨b,o+j,none⟩=some (.string ⟨(g j).toArray⟩):=λj hj=>by
     obtain ⟨ci,r1,_,_,r4⟩:=hel j hj;have r1:ci = .string ⟨(g j).toArray⟩:=r1;subst r1;have:=r4 0 (.string ⟨(g j).toArray⟩) rfl;rw [Nat.mul_one,Nat.add_zero] at this;exact this
    have hJ:=strings_Join b o cap ((List.range (m+1)).map λi=>(⟨(g i).toArray⟩:ByteArray)) ⟨sep.toArray⟩ w (λj x hx=>by
     rw [List.getElem?_map] at hx;rcases Nat.lt_or_ge j (m+1) with hj | hj
     ·rw [List.getElem?_range hj] at hx
      simp at hx;rw [<- hx];exact (hcell j hj).2
     ·rw [List.getElem?_eq_none (by simpa using hj)] at hx
      cases hx) (hS b (hcell 0 (Nat.succ_pos m)).1) (by rw [hl]; exact hn) (by rw [hl]; exact hcap) (by rw [hd]; simpa [Xr] using hlen)
    rw [hl,hd] at hJ;refine hJ.mono ?_
    rintro e w' ⟨he,hb⟩
    refine ⟨_,noK,S,he,Good.empty (λk hk=>Nat.lt_of_lt_of_le (hS k hk) hb.size),?_,Zd hb⟩;show _=_;simp [Xr]
 ·cases he
end Go.Proofs.YtkbafjceglhjhaaGreatDoor.Ed
namespace Go.Proofs.YtkbafjceglhjhaaGreatDoor.Er
open Go.Sy Go Go.Proofs.YtkbafjceglhjhaaGreatDoor.Ed Go.Proofs.YtkbafjceglhjhaaGreatDoor.Sh
set_option maxRecDepth 100000
set_option maxHeartbeats 1000000
noncomputable def Alo:A9:=(9,shT Sr)::(11,shT rgC)::(33,shT Pz)::(34,shT NK)::(60,JW)::(48,IK)::(74,BV Mw)::(75,AbL)::(106,Ny NU)::(68,Sh.ofT)::[]
theorem Ad5:Ao Tryz.prog Gl Alo:=.cons p9 <| .cons p11 <| .cons p33 <| .cons p34 <| .cons p25 <| .cons p65 <| .cons p26 <| .cons Apm <| .cons p22 <| .cons p15 .nil
noncomputable def lW:List (Nat×Func):=[(26,Tryz.f26),(13,Tryz.f13),(47,Tryz.f47),(46,Tryz.f46),(69,Tryz.f69),(70,Tryz.f70),(71,Tryz.f71),(112,Tryz.f112),(113,Tryz.f113),(158,Tryz.f158),(159,Tryz.f159),(186,Tryz.f186),(187,Tryz.f187),(39,Tryz.f39),(45,Tryz.f45),(49,Tryz.f49),(67,Tryz.f67),(105,Tryz.f105)]
theorem Anx:AllBody Tryz.prog lW:=.cons Tryz.func26 (by kernel_rfl) <| .cons Tryz.func13 (by kernel_rfl) <| .cons Tryz.func47 (by kernel_rfl) <| .cons Tryz.func46 (by kernel_rfl) <| .cons Tryz.func69 (by kernel_rfl) <| .cons Tryz.func70 (by kernel_rfl) <| .cons Tryz.func71 (by kernel_rfl) <| .cons Tryz.func112 (by kernel_rfl) <| .cons Tryz.func113 (by kernel_rfl) <| .cons Tryz.func158 (by kernel_rfl) <| .cons Tryz.func159 (by kernel_rfl) <| .cons Tryz.func186 (by kernel_rfl) <| .cons Tryz.func187 (by kernel_rfl) <| .cons Tryz.func39 (by kernel_rfl) <| .cons Tryz.func45 (by kernel_rfl) <| .cons Tryz.func49 (by kernel_rfl) <| .cons Tryz.func67 (by kernel_rfl) <| .cons Tryz.func105 (by kernel_rfl) .nil
noncomputable def tbW:A9:=Ka tab Gl Alo lW
theorem ZM:Ao Tryz.prog Gl tbW:=QH A2 mixed Ad5 Anx
theorem ApG:(A0 (Ai tab (cxC Gl tbW) Tryz.f25 [] [])).sem=some (bV true,[]):=by kernel_rfl
theorem p18:An Tryz.prog Gl 25 AaJ:=by
 refine Al A2 mixed Tryz.func25 (by kernel_rfl) (by kernel_rfl) λvs v h' h=>?_;unfold AaJ at h;split at h
 ·have:=Aa h
  simp only [Prod.mk.injEq] at this;obtain ⟨rfl,rfl⟩:=this;exact ⟨[],cxC Gl tbW,[],Bz.refl _,rfl,(LX ZM).1,(LX ZM).2,ApG,Ap.refl _⟩
 ·cases h
end Go.Proofs.YtkbafjceglhjhaaGreatDoor.Er
namespace Go.Proofs.YtkbafjceglhjhaaGreatDoor.Er
open Go.Sy Go Go.Proofs.YtkbafjceglhjhaaGreatDoor.Ed Go.Proofs.YtkbafjceglhjhaaGreatDoor.Sh
set_option maxRecDepth 100000
set_option maxHeartbeats 1000000
section
variable (s:Sh7)
def kL (u:Nat):Nat×(Nat->Int):=(BY (KA s u),λ_=>0)
def AfB (u k:Nat):In8:=AnD (KA s u) k
def K3:Nat->Nat->In8:=spM (λu=>BY (KA s u)) (AfB s) (ntA s) 0
def nt5 (k:Nat):Ini5:=⟨(Acc (LA s) k).th,(Acc (LA s) k).rg,[],(Acc (LA s) k).nm,0⟩
theorem AaH:P15 (ntA s) (λu=>(BY (KA s u),AfB s u)) (ntA s) (λu=>(BY (KA s u),AfB s u)):=⟨Nat.le_trans (Xd s) (by decide),λi _=>Nat.le_trans (Agj s i) (by decide),rfl,λ_ _=>⟨rfl,λ_ _=>rfl⟩⟩
theorem AaG:nrA s <= 4611686018427387904∧nrA s=nrA s∧∀ i,i<nrA s->rg9 s i=rg9 s i:=⟨Nat.le_trans (MX s) (by decide),rfl,λ_ _=>rfl⟩
theorem AaF:Cn (LA s) <= 4611686018427387904∧Cn (LA s)=Cn (LA s)∧∀ i,i<Cn (LA s)->nt5 s i=nt5 s i:=⟨Nat.le_trans (Agi s) (by decide),rfl,λ_ _=>rfl⟩
theorem Aj8:nrA s <= 4611686018427387904∧∀ i,i<nrA s->wr .i64 (AZ (-1000000) 5)=wr .i64 (AZ (-1000000) 5):=⟨Nat.le_trans (MX s) (by decide),λ_ _=>rfl⟩
theorem Aj9:Cn (LA s) <= 4611686018427387904∧ntA s <= 4611686018427387904∧(∀ i,i<Cn (LA s)->spN (nt5 s) (Cn (LA s)) i=spI)∧∀ i,i<ntA s->(BY (KA s i),K3 s i).1 <= 4611686018427387904∧∀ k,k<(BY (KA s i),K3 s i).1->(BY (KA s i),K3 s i).2 k=spC i:=by
 refine ⟨Nat.le_trans (Agi s) (by decide),Nat.le_trans (Xd s) (by decide),λi hi=>?_,λi hi=>⟨Nat.le_trans (Agj s i) (by decide),λk hk=>?_⟩⟩
 ·unfold spN
  rw [show Nat.blt i (Cn (LA s))=true from Nat.ble_eq_true_of_le hi];rfl
 ·show K3 s i k=spC i
  unfold K3 spM;rw [show Nat.blt i (ntA s)=true from Nat.ble_eq_true_of_le hi,show Nat.blt k (BY (KA s i))=true from Nat.ble_eq_true_of_le hk];rfl
theorem AoB:Av (nrA s)=true:=decide_eq_true (Nat.le_trans (MX s) (by decide))
theorem ApJ:Bp (nrA s) 80 8=true:=decide_eq_true (by
 have:=MX s;omega)
end
noncomputable def mt3:List (Nat×(List V->List Blk->A3)):=(20,Xh 3 1 VD)::(21,Q1 3 1 Q2)::(22,Q1 3 1 Q2)::[]
theorem AjG:Ke Tryz.prog Gl mt3:=.cons m56 <| .cons m21 <| .cons m22 .nil
noncomputable def tb3:A9:=(8,shT twC)::(9,shT AcE)::(10,shT AcE)::(11,shT Aa0)::(12,shT Aa0)::(13,shT AbU)::(14,shT AbU)::(15,Vv)::(16,Zs (bV true))::(17,Vu)::(18,Vt)::(23,AcR)::(24,AcV)::(25,AaJ)::[]
theorem tb3_ok:Ao Tryz.prog Gl tb3:=.cons p8d <| .cons p9A <| .cons Apg <| .cons Apd <| .cons Apc <| .cons Apa <| .cons AoZ <| .cons AoX <| .cons AoW <| .cons AoU <| .cons AoT <| .cons AoQ <| .cons AoP <| .cons p18 .nil
noncomputable def c3:FuncId->List V->St->T (V×Res):=JC [(19,ML tab ⟨c44,Go.Sy.askF AnH AmR,Gl⟩ Tryz.f19)] (XS mt3 tb3)
theorem Aok:Bj Tryz.prog ⟨c3,Gl⟩:=Gm mixed (.cons rfl A2 Akv (AfX _ _ _ _) Tryz.func19 (by kernel_rfl) (by kernel_rfl) .nil) (AcL (Γ:=⟨XS mt3 tb3,Gl⟩) rfl AjG tb3_ok)
def AbF (s:Sh7):A3:=.br (twS s) (.br (g3S s) (.leaf (bV true,[])) .fail) .fail
theorem p3:An Tryz.prog Gl 3 (shT AbF):=I4 Tryz.func3 (by kernel_rfl) (by kernel_rfl) (Γ:=λ_=>⟨c3,Go.Sy.askL [],Gl⟩) (λ_=>rfl) (λ_=>⟨Aok,EV _ _ _⟩) λs r h=>by
 obtain ⟨ht,h⟩:=Ac h;obtain ⟨hg,h⟩:=Ac h;cases Aa h;exact DW.ok (.k (eL s.ne) <| .k (eL s.nx) <| .k (eL s.nr) <| .k (eL2 s.nc s.C) <| .k ht <| .k (eG [s.nc]) <| .k (eL s.ne) <| .k (eL s.nx) <| .k (eL s.nr) <| .k (eL2 s.nc s.C) <| .k hg <| .k (eR [(ntA s,some (λu=>BY (KA s u)))]) <| .k (eG [s.nc,ntA s]) <| .k (eL s.ne) <| .k (eL s.nx) <| .k (eL s.nr) <| .k (eL2 s.nc s.C) <| .k hg <| .k (eR [(ntA s,some (λu=>BY (KA s u)))]) <| .k (eL s.ne) <| .k (eL s.nx) <| .k (eL s.nr) <| .k (eL2 s.nc s.C) <| .k hg <| .k (eG [s.nc,ntA s,ntA s,ntA s]) <| .k (eL s.ne) <| .k (eL s.nx) <| .k (eL s.nr) <| .k (eL2 s.nc s.C) <| .k hg <| .k (eR [(nrA s,none)]) <| .k (eG [s.nc,ntA s,ntA s,ntA s]) <| .k (eL s.ne) <| .k (eL s.nx) <| .k (eL s.nr) <| .k (eL2 s.nc s.C) <| .k hg <| .k (eR [(nrA s,none)]) <| .k (eL s.ne) <| .k (eL s.nx) <| .k (eL s.nr) <| .k (eL2 s.nc s.C) <| .k hg <| .k (eG [s.nc,ntA s,ntA s,ntA s]) <| .k (eL s.ne) <| .k (eL s.nx) <| .k (eL s.nr) <| .k (eL2 s.nc s.C) <| .k hg <| .k (eR [(Cn (LA s),none)]) <| .k (eG [s.nc,ntA s,ntA s,ntA s]) <| .k (eL s.ne) <| .k (eL s.nx) <| .k (eL s.nr) <| .k (eL2 s.nc s.C) <| .k hg <| .k (eR [(Cn (LA s),none)]) <| .k (eL s.ne) <| .k (eL s.nx) <| .k (eL s.nr) <| .k (eL2 s.nc s.C) <| .k hg <| .r 11 (eN (eI (B0 s))) <| .k (eG [s.nc,ntA s,ntA s,ntA s]) <| .r 2 (eL2 (ntA s) (kL s)) <| .k (Gr (AaH s)) <| .r 2 (eN (eI (B0 s))) <| .r 3 (eN eT) <| .k (eG [s.nc,ntA s,ntA s,ntA s]) <| .r 2 (eL (nrA s)) <| .k (Gr (AaG s)) <| .r 5 (eN eT) <| .k (eG [s.nc,ntA s,ntA s,ntA s]) <| .r 2 (eL (Cn (LA s))) <| .k (Gr (AaF s)) <| .r 5 (eN eT) <| .k (eG [s.nc,ntA s,ntA s,ntA s]) <| .k (eL s.ne) <| .k (eL s.nx) <| .k (eL s.nr) <| .k (eL2 s.nc s.C) <| .k (eL s.ne) <| .k (eL s.nx) <| .k (eL s.nr) <| .k (eL2 s.nc s.C) <| .k (Gr (P18.self (AM hg).2)) <| .r 3 (eN eT) <| .a (r19 s (AfB s) (Cn (LA s)) (nt5 s) (Xd s) λi _=>Agj s i) <| .a (Amt s (K3 s) (Cn (LA s)) (nt5 s) (ntA s) (λu=>BY (KA s u)) (Agi s)) <| .a (Ams s (K3 s) (Cn (LA s)) (spN (nt5 s) (Cn (LA s))) (Xd s) λi _=>Agj s i) <| .a (Akc s (K3 s) (Cn (LA s)) (spN (nt5 s) (Cn (LA s))) (ntA s) (λu=>BY (KA s u)) (Agi s)) <| .r 2 eF <| .r 18 eT <| .k eF <| .k (AoB s) <| .k (eL (nrA s)) <| .r 2 (ApJ s) <| .k (eG [s.nc,ntA s,ntA s,ntA s]) <| .k (eL (Cn (LA s))) <| .k (eL2 (ntA s) (kL s)) <| .k (Gr (Aj9 s)) <| .r 2 eT <| .k (eG [s.nc,ntA s,ntA s,ntA s]) <| .k (eL (nrA s)) <| .k (Gr (Aj8 s)) <| .r 4 eT <| .k (eG [s.nc,ntA s,ntA s,ntA s]) <| .r 2 (eL2 (ntA s) (kL s)) <| .k (Gr (AaH s)) <| .r 4 eT <| .k (eG [s.nc,ntA s,ntA s,ntA s]) <| .r 2 (eL (nrA s)) <| .k (Gr (AaG s)) <| .r 4 eT <| .k (eG [s.nc,ntA s,ntA s,ntA s]) <| .r 2 (eL (Cn (LA s))) <| .k (Gr (AaF s)) <| .r 4 eT <| .k (eG [s.nc,ntA s,ntA s,ntA s]) <| .k (eL s.ne) <| .k (eL s.nx) <| .k (eL s.nr) <| .k (eL2 s.nc s.C) <| .k (eL s.ne) <| .k (eL s.nx) <| .k (eL s.nr) <| .k (eL2 s.nc s.C) <| .k (Gr (P18.self (AM hg).2)) <| .r 3 eT <| .l) (by kernel_rfl)
end Go.Proofs.YtkbafjceglhjhaaGreatDoor.Er
