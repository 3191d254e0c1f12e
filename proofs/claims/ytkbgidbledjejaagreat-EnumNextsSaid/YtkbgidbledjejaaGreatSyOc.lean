/-
  Layer 6: why what is asked is refused, the program's and the document's: one answer. No conditions.
-/
import Derived.Test.YtkbgidbledjejaaGreatEnG
import Derived.Test.YtkbgidbledjejaaGreatSyP
import Derived.RangeFuncLeaves
namespace Go.Proofs.YtkbgidbledjejaaGreat.En
open Go.Sy Go Go.Proofs.YtkbgidbledjejaaGreat.Ed
open Int (ofNat)
set_option maxRecDepth 100000
def G4 (A:Int) (w:Nat->E6) (i:Nat):Bool:=AL (Av (ieq (AB (w i)) 0) (ID A (w i)))
def Vh (w:Nat->E6) (i:Nat):Int:=sel (ieq (AB (w i)) 0) 5 30
def refL (A:Int) (k:Nat) (w:Nat->E6):Int:=sel (isN (A1 (G4 A w) k 0)) 0 (Vh w (tO (G4 A w) k))
def Dt (A:Int) (k:Nat) (w:Nat->E6) (n:Int):Int:=sel (bor (ieq A 1) (ieq A 2)) (sel (ilt n 2) 40 (sel (ilt 16 n) 40 (sel (ilt 128 (ofNat k)) 2 (refL A k w)))) 1
def P9:List V->A2
 | [.val (.int .i64 A),u,.val (.int .i64 n)]=>apL u λk w=>.leaf (iV (Dt A k w n),[])
 | _=>.fail
theorem Sk {vs:List V} {r:V×List Blk} (h:(P9 vs).sem=some r):∃ A k w n,B0 vs [iV A,Am k w,iV n]∧(T.leaf (iV (Dt A k w n),([]:List Blk))).sem=some r:=by
 unfold P9 at h;split at h
 ·rename_i A u n
  obtain ⟨k,w,ha,h⟩:=AQ h;refine ⟨A,k,w,n,λS W cs hq=>?_,h⟩;obtain ⟨c,l,rfl,q1,c2,l2,rfl,q2,q3⟩:=hq;exact ⟨c,_,rfl,q1,c2,_,rfl,ha S W c2 q2,q3⟩
 ·cases h
theorem JL {k:Nat} (h:ilt 128 (ofNat k)=false):k <= 4611686018427387904:=by
 have h:¬ ((128:Int)<(k:Int)):=of_decide_eq_false h;omega
noncomputable def Ajg:AH:=(66,ap2 gI toE λa e=>out (RE a e))::[]
theorem AfT:Ao Tryz.prog Gl Ajg:=.cons p32 <| .nil
def Ad1:Lp:=⟨bmK 46 0 [0,6,29,30,31],0,bmK 46 0 [6],0,4611686018427387905⟩
def AiA (A _:Int) (k:Nat) (w:Nat->E6) (c:Int) (_:Unit) (j:Nat->V):St:=⟨jsV 46 0 j [(0,iV A),(6,iV 0),(29,.sl 6 k (λi=>eV (w i))),(30,nV k),(31,iV c)],[]⟩
noncomputable def Ao3 (L:LT):St->T (Ex×St):=λst=>A8 tab ⟨A6 Ajg,L,Gl⟩ (A0 Tryz.f32 1) 1 st
def Afm (_ _:Int) (_:Nat) (_:Nat->E6) (_:Nat) (_:Unit):Ex×St:=(.rt,⟨jsV 46 0 Ac [(6,iV 5)],[]⟩)
def Afl (_ _:Int) (_:Nat) (_:Nat->E6) (_:Nat) (_:Unit):Ex×St:=(.rt,⟨jsV 46 0 Ac [(6,iV 30)],[]⟩)
def Wa (A n:Int) (k:Nat) (w:Nat->E6) (i:Nat) (a:Unit):T ((Unit) ⊕ (Ex×St)):=.br (ieq (Hj A (w i)) 0) (.br (ID A (w i)) (.leaf (.inl ())) (.leaf (.inr (Afm A n k w i a)))) (.leaf (.inr (Afl A n k w i a)))
def Q6 (_ _:Int) (_:Nat) (_:Nat->E6) (_:Unit):Ex×St:=(.ex 1,⟨jsV 46 0 Ac [(6,iV 0)],[]⟩)
theorem YI (L:LT) (A n:Int) (k:Nat) (w:Nat->E6)  (hn:k <= 4611686018427387904) {e:Ex×St} {a:Unit} {j:Nat->V} (h:DO (Wa A n k w) (Q6 A n k w) k 0 a=some e):(Ax (Ao3 L) Ad1 4611686018427387905 (AiA A n k w 0 a j)).sem=some (exR e) :=
 Ef Ha hn (λi a j r hi h=>DK.ok (L:=goR (AiA A n k w) exR i) (.k (ofNat_lt hi) <| .k (Af hi) <| .c (λh1=>.k (eN h1) <| .c (λh2=>.k (eN h2) <| .l) λh2=>.k (eN h2) <| .l) λh1=>.k (eN h1) <| .l) (by kernel_rfl) h) (λa j=>DK.ok (C:=.leaf (Q6 A n k w a)) (L:=exR) (.k (A4 (Nat.le_refl k)) .l) (by kernel_rfl) rfl) (Nat.zero_add _).symm (Nat.lt_succ_of_le hn) h
def AaB:List (Nat×Lp×List (Nat×(Nat->V))):=[(1,Ad1,[])]
section
variable {A n:Int} {k:Nat} {w:Nat->E6} (hK:Bi A=true)
def Abz (_:Int) (w:Nat->E6) (i:Nat):Ex×St:=(.rt,⟨jsV 46 0 Ac [(6,iV (Vh w i))],[]⟩)
include hK in
theorem AgT (i:Nat):(Wa A n k w i ()).sem=sel (G4 A w i) (some (.inr (Abz A w i))) (some (.inl ())):=by
 unfold Wa G4 Abz Vh;rw [XC hK];cases ieq (AB (w i)) 0 with
 | true=>cases ID A (w i) <;> rfl
 | false=>cases ID A (w i) <;> rfl
include hK in
theorem Aiw (h:isN (A1 (G4 A w) k 0)=true):DO (Wa A n k w) (Q6 A n k w) k 0 ()=some (Q6 A n k w ()):=IO (acc:=λ_=>()) (x:=Abz A w) (λi _ hq=>by rw [AgT hK,hq]; rfl) (λi _ hq=>by rw [AgT hK,hq]; rfl) h
include hK in
theorem Aiv (h:isN (A1 (G4 A w) k 0)=false):DO (Wa A n k w) (Q6 A n k w) k 0 ()=some (Abz A w (tO (G4 A w) k)):=IN (acc:=λ_=>()) (x:=Abz A w) (λi _ hq=>by rw [AgT hK,hq]; rfl) (λi _ hq=>by rw [AgT hK,hq]; rfl) h
end
theorem Agw:As Tryz.prog Gl 32 P9:=by
 refine Ah Az mixed Tryz.func32 (by kernel_rfl) (by kernel_rfl) λvs v h' h=>?_;obtain ⟨A,k,w,n,ha,h⟩:=Sk h;cases Aa h;have hx:=Ba AfT AaB (G:=Gl);refine ⟨[iV A,Am k w,iV n],cxA Gl Ajg AaB,_,ha,rfl,hx.1,hx.2,?_,Au.refl _⟩;unfold Dt;cases h1:ieq A 1 with
 | true =>
  have hK:Bi A=true:=kn1 h1;cases h3:ilt n 2 with
  | true=>exact DW.ok (.r 3 (eN h1) <| .k eF <| .r 3 h3 <| .k eT <| .l) (by kernel_rfl)
  | false =>
   cases h4:ilt 16 n with
   | true=>exact DW.ok (.r 3 (eN h1) <| .k eF <| .r 3 h3 <| .k h4 <| .l) (by kernel_rfl)
   | false =>
    cases h5:ilt 128 (ofNat k) with
    | true=>exact DW.ok (.r 3 (eN h1) <| .k eF <| .r 3 h3 <| .k h4 <| .k h5 <| .l) (by kernel_rfl)
    | false =>
     have hn:k <= 4611686018427387904:=JL h5;unfold refL;cases h6:isN (A1 (G4 A w) k 0) with
     | true=>exact DW.ok (.r 3 (eN h1) <| .k eF <| .r 3 h3 <| .k h4 <| .k h5 <| .a (YI (C6 AaB) A n k w hn (j:=λ_=>.und) (Aiw hK h6)) <| .l) (by kernel_rfl)
     | false=>exact DW.ok (.r 3 (eN h1) <| .k eF <| .r 3 h3 <| .k h4 <| .k h5 <| .a (YI (C6 AaB) A n k w hn (j:=λ_=>.und) (Aiv hK h6)) <| .l) (by kernel_rfl)
 | false =>
  cases h2:ieq A 2 with
  | false=>exact DW.ok (.r 3 (eN h1) <| .k (eN h2) <| .l) (by kernel_rfl)
  | true =>
   have hK:Bi A=true:=kn2 h2;cases h3:ilt n 2 with
   | true=>exact DW.ok (.r 3 (eN h1) <| .k (eN h2) <| .r 3 h3 <| .k eT <| .l) (by kernel_rfl)
   | false =>
    cases h4:ilt 16 n with
    | true=>exact DW.ok (.r 3 (eN h1) <| .k (eN h2) <| .r 3 h3 <| .k h4 <| .l) (by kernel_rfl)
    | false =>
     cases h5:ilt 128 (ofNat k) with
     | true=>exact DW.ok (.r 3 (eN h1) <| .k (eN h2) <| .r 3 h3 <| .k h4 <| .k h5 <| .l) (by kernel_rfl)
     | false =>
      have hn:k <= 4611686018427387904:=JL h5;unfold refL;cases h6:isN (A1 (G4 A w) k 0) with
      | true=>exact DW.ok (.r 3 (eN h1) <| .k (eN h2) <| .r 3 h3 <| .k h4 <| .k h5 <| .a (YI (C6 AaB) A n k w hn (j:=λ_=>.und) (Aiw hK h6)) <| .l) (by kernel_rfl)
      | false=>exact DW.ok (.r 3 (eN h1) <| .k (eN h2) <| .r 3 h3 <| .k h4 <| .k h5 <| .a (YI (C6 AaB) A n k w hn (j:=λ_=>.und) (Aiv hK h6)) <| .l) (by kernel_rfl)
noncomputable def Ajf:AH:=(45,Co λe=>iV (AB e))::(46,ap2 gI toE λa e=>out (RE a e))::[]
theorem AfR:Ao Tryz.prog Gl Ajf:=.cons p29 <| .cons Ed.p33 <| .nil
def Anw:Lp:=⟨bmK 48 0 [0,1,6,7],0,bmK 48 0 [6],0,4611686018427387905⟩
def S34 (A _:Int) (k:Nat) (w:Nat->E6) (c:Int) (_:Unit) (j:Nat->V):St:=⟨jsV 48 0 j [(0,iV A),(1,.sl 6 k (λi=>eV (w i))),(6,iV 0),(7,iV c)],[]⟩
noncomputable def B34 (L:LT):St->T (Ex×St):=λst=>A8 tab ⟨A6 Ajf,L,Gl⟩ (A0 Tryz.f34 0) 0 st
def Aln (_ _:Int) (_:Nat) (_:Nat->E6) (_:Nat) (_:Unit):Ex×St:=(.rt,⟨jsV 48 0 Ac [(6,iV 5)],[]⟩)
def Alm (_ _:Int) (_:Nat) (_:Nat->E6) (_:Nat) (_:Unit):Ex×St:=(.rt,⟨jsV 48 0 Ac [(6,iV 30)],[]⟩)
def g34 (A n:Int) (k:Nat) (w:Nat->E6) (i:Nat) (a:Unit):T ((Unit) ⊕ (Ex×St)):=.br (ieq (AB (w i)) 0) (.br (ID A (w i)) (.leaf (.inl ())) (.leaf (.inr (Aln A n k w i a)))) (.leaf (.inr (Alm A n k w i a)))
def Aed (_ _:Int) (_:Nat) (_:Nat->E6) (_:Unit):Ex×St:=(.ex 0,⟨jsV 48 0 Ac [(6,iV 0)],[]⟩)
theorem r34 (L:LT) (A n:Int) (k:Nat) (w:Nat->E6)  (hn:k <= 4611686018427387904) {e:Ex×St} {a:Unit} {j:Nat->V} (h:DO (g34 A n k w) (Aed A n k w) k 0 a=some e):(Ax (B34 L) Anw 4611686018427387905 (S34 A n k w 0 a j)).sem=some (exR e) :=
 Ef Ha hn (λi a j r hi h=>DK.ok (L:=goR (S34 A n k w) exR i) (.k (ofNat_lt hi) <| .k (Af hi) <| .c (λh1=>.k (eN h1) <| .k (Af hi) <| .c (λh2=>.k (eN h2) <| .l) λh2=>.k (eN h2) <| .l) λh1=>.k (eN h1) <| .l) (by kernel_rfl) h) (λa j=>DK.ok (C:=.leaf (Aed A n k w a)) (L:=exR) (.k (A4 (Nat.le_refl k)) .l) (by kernel_rfl) rfl) (Nat.zero_add _).symm (Nat.lt_succ_of_le hn) h
def AaA:List (Nat×Lp×List (Nat×(Nat->V))):=[(0,Anw,[])]
section
variable {A n:Int} {k:Nat} {w:Nat->E6} (hK:Bi A=true)
def Aby (_:Int) (w:Nat->E6) (i:Nat):Ex×St:=(.rt,⟨jsV 48 0 Ac [(6,iV (Vh w i))],[]⟩)
include hK in
theorem AgS (i:Nat):(g34 A n k w i ()).sem=sel (G4 A w i) (some (.inr (Aby A w i))) (some (.inl ())):=by
 unfold g34 G4 Aby Vh;have _:=hK;cases ieq (AB (w i)) 0 with
 | true=>cases ID A (w i) <;> rfl
 | false=>cases ID A (w i) <;> rfl
include hK in
theorem Aiu (h:isN (A1 (G4 A w) k 0)=true):DO (g34 A n k w) (Aed A n k w) k 0 ()=some (Aed A n k w ()):=IO (acc:=λ_=>()) (x:=Aby A w) (λi _ hq=>by rw [AgS hK,hq]; rfl) (λi _ hq=>by rw [AgS hK,hq]; rfl) h
include hK in
theorem Ait (h:isN (A1 (G4 A w) k 0)=false):DO (g34 A n k w) (Aed A n k w) k 0 ()=some (Aby A w (tO (G4 A w) k)):=IN (acc:=λ_=>()) (x:=Aby A w) (λi _ hq=>by rw [AgS hK,hq]; rfl) (λi _ hq=>by rw [AgS hK,hq]; rfl) h
end
theorem AjU:As Tryz.prog Gl 34 P9:=by
 refine Ah Az mixed Tryz.func34 (by kernel_rfl) (by kernel_rfl) λvs v h' h=>?_;obtain ⟨A,k,w,n,ha,h⟩:=Sk h;cases Aa h;have hx:=Ba AfR AaA (G:=Gl);refine ⟨[iV A,Am k w,iV n],cxA Gl Ajf AaA,_,ha,rfl,hx.1,hx.2,?_,Au.refl _⟩;unfold Dt;cases h1:ieq A 1 with
 | true =>
  have hK:Bi A=true:=kn1 h1;cases h3:ilt n 2 with
  | true=>exact DW.ok (.r 3 (eN h1) <| .k eF <| .r 3 h3 <| .k eT <| .l) (by kernel_rfl)
  | false =>
   cases h4:ilt 16 n with
   | true=>exact DW.ok (.r 3 (eN h1) <| .k eF <| .r 3 h3 <| .k h4 <| .l) (by kernel_rfl)
   | false =>
    cases h5:ilt 128 (ofNat k) with
    | true=>exact DW.ok (.r 3 (eN h1) <| .k eF <| .r 3 h3 <| .k h4 <| .k h5 <| .l) (by kernel_rfl)
    | false =>
     have hn:k <= 4611686018427387904:=JL h5;unfold refL;cases h6:isN (A1 (G4 A w) k 0) with
     | true=>exact DW.ok (.r 3 (eN h1) <| .k eF <| .r 3 h3 <| .k h4 <| .k h5 <| .a (r34 (C6 AaA) A n k w hn (j:=λ_=>.und) (Aiu hK h6)) <| .l) (by kernel_rfl)
     | false=>exact DW.ok (.r 3 (eN h1) <| .k eF <| .r 3 h3 <| .k h4 <| .k h5 <| .a (r34 (C6 AaA) A n k w hn (j:=λ_=>.und) (Ait hK h6)) <| .l) (by kernel_rfl)
 | false =>
  cases h2:ieq A 2 with
  | false=>exact DW.ok (.r 3 (eN h1) <| .k (eN h2) <| .l) (by kernel_rfl)
  | true =>
   have hK:Bi A=true:=kn2 h2;cases h3:ilt n 2 with
   | true=>exact DW.ok (.r 3 (eN h1) <| .k (eN h2) <| .r 3 h3 <| .k eT <| .l) (by kernel_rfl)
   | false =>
    cases h4:ilt 16 n with
    | true=>exact DW.ok (.r 3 (eN h1) <| .k (eN h2) <| .r 3 h3 <| .k h4 <| .l) (by kernel_rfl)
    | false =>
     cases h5:ilt 128 (ofNat k) with
     | true=>exact DW.ok (.r 3 (eN h1) <| .k (eN h2) <| .r 3 h3 <| .k h4 <| .k h5 <| .l) (by kernel_rfl)
     | false =>
      have hn:k <= 4611686018427387904:=JL h5;unfold refL;cases h6:isN (A1 (G4 A w) k 0) with
      | true=>exact DW.ok (.r 3 (eN h1) <| .k (eN h2) <| .r 3 h3 <| .k h4 <| .k h5 <| .a (r34 (C6 AaA) A n k w hn (j:=λ_=>.und) (Aiu hK h6)) <| .l) (by kernel_rfl)
      | false=>exact DW.ok (.r 3 (eN h1) <| .k (eN h2) <| .r 3 h3 <| .k h4 <| .k h5 <| .a (r34 (C6 AaA) A n k w hn (j:=λ_=>.und) (Ait hK h6)) <| .l) (by kernel_rfl)
end Go.Proofs.YtkbgidbledjejaaGreat.En
namespace Go.Sy
section
variable {S:Nat->Prop} {w:World} {κ:Ai} {h:List Blk} {ts:List V} {l:List Value}
abbrev EZ (κ:Ai) (h:List Blk) (l:List Value):Ai:=AZ κ h.length (.tuple l.toArray)
theorem KE (hg:Good κ S h w) (ht:VRs S w ts κ l):Good (EZ κ h l) S (h++[.saved ts]) w :=
 hg.push' (w':=w) (.saved ts) (.tuple l.toArray) (λ_ _=>rfl) (Nat.le_refl _) (.inr ⟨l,rfl,VR.mono_go (λ_ hb=>⟨hb,rfl⟩) _ _ _ _ (hg.addK_sub _) ht⟩) (λ_ h=>h.elim)
theorem MP (hg:Good κ S h w) {vs:List V} {cs:List Value} (hv:VRs S w vs κ cs):VRs S w vs (EZ κ h l) cs:=VR.mono_go (λ_ hb=>⟨hb,rfl⟩) _ _ _ _ (hg.addK_sub _) hv
theorem UR {i:Nat} (hi:i ≠ h.length):EZ κ h l i=κ i:=by unfold EZ AZ; rw [if_neg hi]
theorem EW {i k:Nat}:A3 (EZ κ h l) (h++[.saved ts]) i k↔A3 κ h i k:=by
 rcases Nat.lt_trichotomy i h.length with hl | hl | hl
 ·exact GR (List.getElem?_append_left hl) (UR (by omega))
 ·subst hl
  rw [Aq (b:=.saved ts) (by simp)];exact ⟨λh=>h.elim,λh=>absurd h (D9 (List.getElem?_eq_none (Nat.le_refl _)))⟩
 ·exact ⟨λh=>absurd h (D9 (List.getElem?_eq_none (by simp; omega))),λh=>absurd h (D9 (List.getElem?_eq_none (by omega)))⟩
theorem Px {κ':Ai} {S':Nat->Prop} {h':List Blk} {w':World} {t':List V} (g1:Good κ' S' h' w') (g3:Ext (EZ κ h l) S (h++[.saved ts]) w κ' S' h' w') (hat:h'[h.length]? = some (.saved t')) (hpin:LZ t'=false) :
  κ' h.length=some (.tuple l.toArray)∧VRs S' w' t' κ' l:=by
 obtain ⟨hk1,b0,hk2,hk3⟩:=g3.fix h.length (.saved t') hat (.inr ⟨t',rfl⟩);obtain rfl | ⟨l',hl1,hl2⟩:=g1.blk h.length _ hat
 ·cases hpin
 have hself:EZ κ h l h.length=some (.tuple l.toArray):=by simp [EZ,AZ]
 rw [hself] at hk1;rw [hk1] at hl1;simp at hl1;subst hl1;exact ⟨hk1,hl2⟩
theorem Pw {κ':Ai} {S':Nat->Prop} {h':List Blk} {w':World} {t':List V} (g1:Good κ' S' h' w') (g3:Ext (EZ κ h l) S (h++[.saved ts]) w κ' S' h' w') (hat:h'[h.length]? = some (.saved t')) :
  Good κ' S' (h'.set h.length .dead) w'∧Ext κ S h w κ' S' (h'.set h.length .dead) w':=by
 obtain ⟨q1,q2⟩:=g1.upd' (w':=w') (b':=.dead) hat (λ_ h=>h.elim) (λ_ _ _=>rfl) (Nat.le_refl _) trivial;refine ⟨q1,⟨g3.os,g3.tape,g3.output,g3.size,λb hb hn=>g3.keep b hb λi hi=>hn i (EW.1 hi),λi b hi=>?_,λb hb=>?_,g3.sup,λb p hs=>?_,λi b hi hf=>?_⟩⟩
 ·exact (g3.own i b (q2 i b hi)).imp (λ⟨j,hj⟩=>⟨j,EW.1 hj⟩) (λh=>h)
 ·exact (g3.sub b hb).imp (λh=>h) (λh=>h.imp (λ⟨j,hj⟩=>⟨j,EW.1 hj⟩) (λh=>h))
 ·have hs1:WA (EZ κ h l) (h++[.saved ts]) w b p:=⟨hs.1,λi hi=>by
   obtain ⟨e,s,n,g,hh,hp⟩:=hs.2 i (EW.1 hi);exact ⟨e,s,n,g,by rw [List.getElem?_append_left (List.getElem?_eq_some_iff.1 hh).1]; exact hh,hp⟩⟩
  obtain ⟨p1,p2⟩:=g3.pre b p hs1;refine ⟨⟨p1.1,λi hi=>?_⟩,p2⟩;obtain ⟨e,s,n,g,hh,hp⟩:=p1.2 i (q2 i b hi);have hi':i ≠ h.length:=λe'=>by subst e'; rw [hat] at hh; cases hh
  exact ⟨e,s,n,g,by show (h'.set h.length .dead)[i]? = _; rw [List.getElem?_set_ne (Ne.symm hi')]; exact hh,hp⟩
 ·have hi':i ≠ h.length:=λe'=>by
   subst e';rw [List.getElem?_set_self (List.getElem?_eq_some_iff.1 hat).1] at hi;simp only [Option.some.injEq] at hi;subst hi;rcases hf with ⟨_,_,_,_,hf⟩ | ⟨_,hf⟩ <;> cases hf
  rw [List.getElem?_set_ne (Ne.symm hi')] at hi;obtain ⟨z1,b1,z2,z3⟩:=g3.fix i b hi hf;refine ⟨by rw [z1,UR hi'],b1,?_,z3⟩;rcases Nat.lt_or_ge i h.length with hl | hl
  ·rw [List.getElem?_append_left hl] at z2
   exact z2
  ·rw [List.getElem?_eq_none (by simp; omega)] at z2
   cases z2
end
def E4 (P:Program) (G:Nat->V) (f:FuncId) (E:List V->List Blk->A2):Prop :=
 HI P f∧∀ vs cs κ S h w v h',Good κ S h w->MK G S w->VRs S w vs κ cs->(E vs h).sem=some (v,h') ->
  Calls P f cs.toArray w λe w'=>∃ c κ' S',e = .returned c∧Good κ' S' h' w'∧VR S' w' v κ' c∧Ext κ S h w κ' S' h' w'
def Aky (E:List V->List Blk->A2) (vs:List V) (st:St):T (V×Res) :=
 (E vs (st.h++[.saved st.t])).bind λp=>match p.2[st.h.length]? with
  | some (.saved t)=>match LZ t with
   | false=>.leaf (p.1,.all ⟨t,p.2.set st.h.length .dead⟩)
   | true=>.fail
  | _=>.fail
theorem AgP {P:Program} {G:Nat->V} {f:FuncId} {E:List V->List Blk->A2} (hE:E4 P G f E) {vs:List V} {cs:List Value} {κ:Ai} {S:Nat->Prop} {st:St} {l:List Value} {w:World} {v:V} {r:Res}
  (hg:Good κ S st.h w) (hG:MK G S w) (hv:VRs S w vs κ cs) (ht:VRs S w st.t κ l) (he:(Aky E vs st).sem=some (v,r)) :
  HI P f∧Calls P f cs.toArray w λe w'=>∃ c κ' S',e = .returned c∧Good κ' S' (Hf st r).h w'∧VR S' w' v κ' c∧Ext κ S st.h w κ' S' (Hf st r).h w'∧W9 κ κ' S' w w' l r:=by
 obtain ⟨⟨v',h'⟩,h1,h2⟩:=Ad he;split at h2
 ·rename_i t' hat
  split at h2
  rotate_left
  ·cases h2
  rename_i hpin;have:=Aa h2;simp only [Prod.mk.injEq] at this;obtain ⟨rfl,rfl⟩:=this;refine ⟨hE.1,(hE.2 _ _ _ _ _ _ _ _ (KE hg ht) hG (MP hg hv) h1).mono ?_⟩
  rintro e w' ⟨u,κ',S',rfl,g1,g2,g3⟩
  obtain ⟨q1,q2⟩:=Pw g1 g3 hat;exact ⟨u,κ',S',rfl,q1,g2,q2,(Px g1 g3 hat hpin).2⟩
 ·cases h2
end Go.Sy
namespace Go.Sy
variable {dl:List Deferred} {ro:Option Nat}
structure Rg where
 it:FuncId->List V->St->T (V×Res)
 rnd:RngCode->Nat->Nat->St->T (Ex×St)
def Y9 (ts:List V):List Tmp->List V->List V
 | p::ps,v::vs=>Y9 (ts.set p v) ps vs
 | _,_=>ts
def AkG:Ex->Rs
 | .nm=>.ready
 | e=>.done e
def Akw:Ex->Bool
 | .nm=>true
 | _=>false
def WE (R:Rg) (r:Nat) (vs:List V) (st:St):T (V×St) :=
 match st.h[r]? with
 | some (.rng cd ts .ready)=>match Nat.beq vs.length cd.ps.size with
  | true=>(R.rnd cd r st.h.length ⟨Y9 ts cd.ps.toList vs,st.h++[.saved (.ref r::st.t)]⟩).bind λp =>
   match p.2.h[st.h.length]?,p.2.h[r]? with
   | some (.saved (.ref r'::t')),some (.rng cd' ts' .busy)=>match Nat.beq r' r with
    | true=>.leaf (bV (Akw p.1),⟨t',(p.2.h.set st.h.length .dead).set r (.rng cd' ts' (AkG p.1))⟩)
    | false=>.fail
   | _,_=>.fail
  | false=>.fail
 | _=>.fail
def okR:Option (Nat×Nat)->List Blk->Bool
 | none,_=>true
 | some (r,sv),h=>match h[sv]?,h[r]? with
  | some (.saved (.ref r'::_)),some (.rng _ _ .busy)=>Nat.beq r' r
  | _,_=>false
section
variable (τ:List Ty)
def opY (Γ:Cx0) (R:Rg) (all:Array Oper) (o:Oper) (st:St):T St :=
 match o.guard,o.op with
 | none,.call c=>match c.callee with
  | .value f=>match ev Γ st f with
   | .ref r=>(WE R r (args Γ st c.args.toList) st).bind λp=>.leaf (put p.2 o.dst p.1)
   | _=>Ja τ Γ all o st
  | _=>Ja τ Γ all o st
 | _,_=>Ja τ Γ all o st
def O8 (Γ:Cx0) (R:Rg) (all:Array Oper):List Oper->St->T St
 | [],st=>.leaf st
 | o::l,st=>(opY τ Γ R all o st).bind (O8 Γ R all l)
def Xq (Γ:Cx0) (R:Rg) (q:Option (Nat×Nat)) (g:Operand) (cd:RngCode) (st:St):T (Ex×St) :=
 match okR q st.h,ev Γ st g with
 | true,.fn gf caps=>(R.it gf (.ref st.h.length::caps) ⟨.ref st.h.length::st.t,st.h++[.rng cd st.t .ready]⟩).bind λp=>match p.2 with
  | .all st'=>match st'.t,st'.h[st.h.length]? with
   | .ref r::ts,some (.rng _ _ x)=>match Nat.beq r st.h.length with
    | true=>match x with
     | .ready=>.leaf (.nm,⟨ts,st'.h.set st.h.length .dead⟩)
     | .done e=>.leaf (e,⟨ts,st'.h.set st.h.length .dead⟩)
     | .busy=>.fail
    | false=>.fail
   | _,_=>.fail
  | .more _=>.fail
 | _,_=>.fail
def Gw (Γ:Cx) (R:Rg) (q:Option (Nat×Nat)):Code->Nat->St->T (Ex×St)
 | .skip,_,st=>.leaf (.nm,st)
 | .region i ops draw,id,st=>match draw with
  | false=>(O8 τ Γ.base R ops ops.toList st).bind λst=>.leaf (.nm,st)
  | true=>A8 τ Γ (.region i ops true) id st
 | .seq a b,id,st=>(Gw Γ R q a id st).bind λr=>match r.1 with
  | .nm=>Gw Γ R q b id r.2
  | .ex j=>.leaf (.ex j,r.2)
  | .rt=>.leaf (.rt,r.2)
 | .cond c x y,id,st=>match ev Γ.base st c with
  | .val (.bool b)=>.br b (Gw Γ R q x id st) (Gw Γ R q y id st)
  | _=>.fail
 | .block i c,_,st=>(Gw Γ R q c i st).bind λr=>match r.1 with
  | .nm=>.leaf (.nm,r.2)
  | .ex j=>match Nat.beq j i with
   | true=>.leaf (.nm,r.2)
   | false=>.leaf (.ex j,r.2)
  | .rt=>.leaf (.rt,r.2)
 | .loop c,id,st=>Γ.loop id (λst=>Gw Γ R q c id st) st
 | .exit i,_,st=>.leaf (.ex i,st)
 | .ret,_,st=>.leaf (.rt,st)
 | .rangeFunc g ps a b,_,st=>Xq Γ.base R q g ⟨ps,a,b⟩ st
 | _,_,_=>.fail
def Ac9 (Γ:Cx) (R:Rg) (cd:RngCode) (r sv:Nat) (st:St):T (Ex×St) :=
 match DZ cd.a && DZ cd.b with
 | true=>(Gw τ Γ R (some (r,sv)) cd.a 0 st).bind λp=>match p.1 with
  | .nm=>match p.2.h[sv]?,p.2.h[r]? with
   | some (.saved (.ref r'::_)),some (.rng cd' ts .ready)=>match Nat.beq r' r with
    | true=>Gw τ Γ R (some (r,sv)) cd.b 0 ⟨p.2.t,p.2.h.set r (.rng cd' ts .busy)⟩
    | false=>.fail
   | _,_=>.fail
  | _=>.fail
 | false=>.fail
def N7 (Γ:Cx) (R:Rg) (fn:Func) (vs:List V) (h:List Blk):A2 :=
 match fn.body with
 | some c=>(Gw τ Γ R none c 0 ⟨vs++F8 (Nat.sub fn.ntmps vs.length),h⟩).bind λr =>
  match r.1 with
  | .ex _=>.fail
  | .nm=>match DU τ fn r.2 with
   | some v=>.leaf (v,r.2.h)
   | none=>.fail
  | .rt=>match DU τ fn r.2 with
   | some v=>.leaf (v,r.2.h)
   | none=>.fail
 | none=>.fail
end
def K5 (D:Nat):Deferred:={ target:=.collected D,args:=#[] }
def EJ (B:Nat) (κ:Ai) (S:Nat->Prop) (h:List Blk) (w:World):List Deferred->Prop
 | []=>True
 | d::ms=>(∃ D,d=K5 D∧B <= D∧w.heap[D]? = some (.deferred (some []))∧(∀ i,¬ A3 κ h i D)∧¬ S D∧∀ d',d' ∈ ms->d' ≠ K5 D)∧EJ B κ S h w ms
section
variable {B:Nat} {κ κ':Ai} {S S':Nat->Prop} {h h':List Blk} {w w':World}
theorem EJ.ext (he:Ext κ S h w κ' S' h' w'):∀ {ms:List Deferred},EJ B κ S h w ms->EJ B κ' S' h' w' ms
 | [],_=>trivial
 | _::_,⟨⟨D,h1,h2,h3,h4,h5,h6⟩,hm⟩=>by
  have hlt:=(Array.getElem?_eq_some_iff.1 h3).1;refine ⟨⟨D,h1,h2,(he.keep D hlt h4).trans h3,λi hi=>?_,λhs=>?_,h6⟩,hm.ext he⟩
  ·rcases he.own i D hi with ⟨j,hj⟩ | hle
   ·exact h4 j hj
   ·omega
  ·rcases he.sub D hs with hs | ⟨j,hj⟩ | hle
   ·exact h5 hs
   ·exact h4 j hj
   ·omega
theorem EJ.mono {B':Nat} (hB:B' <= B):∀ {ms:List Deferred},EJ B κ S h w ms->EJ B' κ S h w ms
 | [],_=>trivial
 | _::_,⟨⟨D,h1,h2,h3⟩,hm⟩=>⟨⟨D,h1,Nat.le_trans hB h2,h3⟩,hm.mono hB⟩
theorem EJ.at:∀ {ms:List Deferred},EJ B κ S h w ms->∀ d,d ∈ ms->∃ D,d=K5 D∧B <= D∧D<w.heap.size
 | [],_,d,hd=>by cases hd
 | _::_,⟨⟨D,h1,h2,h3,_⟩,hm⟩,d,hd=>by
  rcases List.mem_cons.1 hd with rfl | hd
  ·exact ⟨D,h1,h2,(Array.getElem?_eq_some_iff.1 h3).1⟩
  ·exact hm.at d hd
theorem Aa6 {D D':Nat} (h:K5 D=K5 D'):D=D':=by
 unfold K5 at h;simp at h;exact h
theorem EJ.append {C:Nat}:∀ {ms ns:List Deferred},EJ C κ S h w ms->EJ B κ S h w ns->B <= C->(∀ d,d ∈ ns->∃ D,d=K5 D∧D<C)->EJ B κ S h w (ms++ns)
 | [],_,_,hn,_,_=>hn
 | d::ms,ns,⟨⟨D,h1,h2,h3,h4,h5,h6⟩,hm⟩,hn,hB,hlt=>by
  refine ⟨⟨D,h1,Nat.le_trans hB h2,h3,h4,h5,λd' hd' e=>?_⟩,hm.append hn hB hlt⟩;rcases List.mem_append.1 hd' with hd' | hd'
  ·exact h6 d' hd' e
  ·obtain ⟨D',e',hl⟩:=hlt d' hd'
   have:=Aa6 (e.symm.trans e');omega
end
section
variable {P:Program} {Γ:Cx0}
def InR (q:Option (Nat×Nat)) (ro:Option Nat) (κ:Ai) (h:List Blk):Prop :=
 match q,ro with
 | none,none=>True
 | some (_,sv),some l=>∀ vs,h[sv]? = some (.saved vs)->∃ ls,κ sv=some (.tuple (Value.func (.yield l) #[] #[]::ls).toArray)
 | _,_=>False
theorem InR.ext {q:Option (Nat×Nat)} {κ κ':Ai} {S S':Nat->Prop} {h h':List Blk} {w w':World} (hq:InR q ro κ h) (he:Ext κ S h w κ' S' h' w'):InR q ro κ' h':=by
 unfold InR at hq ⊢;split
 ·trivial
 ·rename_i r sv l
  intro vs hv;obtain ⟨h1,b0,h2,h3⟩:=he.fix sv _ hv (.inr ⟨vs,rfl⟩);obtain ⟨vs0,rfl⟩:=h3;rw [h1];exact hq vs0 h2
 ·rename_i h1 h2
  split at hq
  ·exact (h1 rfl rfl).elim
  ·exact (h2 _ _ _ rfl rfl).elim
  ·exact hq
theorem InR.at {q:Option (Nat×Nat)} {κ:Ai} {S:Nat->Prop} {h:List Blk} {w:World} (hg:Good κ S h w) (hq:InR q ro κ h) (hk:okR q h=true):(q=none∧ro=none) ∨ ∃ l r,ro=some l∧w.heap[l]? = some (.loop r):=by
 unfold InR at hq;split at hq
 ·exact .inl ⟨rfl,rfl⟩
 ·rename_i r sv l
  simp only [okR] at hk;split at hk
  ·rename_i r' ts cd ts' h1 h2
   obtain rfl:=Nat.eq_of_beq_eq_true hk;obtain ⟨ls,hκ⟩:=hq _ h1;obtain hp | ⟨ls',e,a,l',e',hv,_⟩:=hg.blk sv _ h1
   ·cases hp
   ·rw [hκ] at e
    simp only [Option.some.injEq,Value.tuple.injEq] at e;have e:=congrArg Array.toList e;simp only [e'] at e;simp only [List.cons.injEq] at e;obtain ⟨l2,rec,k1,k2,_⟩:=hg.blk r' _ h2;have hv:κ r'=some a:=hv.1;rw [hv,<- e.1] at k1;simp at k1;exact .inr ⟨l,rec,rfl,by rw [k1]; exact k2⟩
  ·cases hk
 ·exact hq.elim
structure RgOK (P:Program) (Γ:Cx0) (R:Rg):Prop where
 it:∀ f vs cs κ S (st:St) l w v r,Good κ S st.h w->CC Γ S w->VRs S w vs κ cs->VRs S w st.t κ l->(R.it f vs st).sem=some (v,r) ->
  HI P f∧Calls P f cs.toArray w λe w'=>∃ c κ' S',e = .returned c∧Good κ' S' (Hf st r).h w'∧VR S' w' v κ' c∧Ext κ S st.h w κ' S' (Hf st r).h w'∧W9 κ κ' S' w w' l r
 rnd:∀ l cd r sv st x κ S a w Q,Rel [] Γ κ S st a w->InR (some (r,sv)) (some l) κ st.h->(∃ ts,st.h[sv]? = some (.saved (.ref r::ts)))->(R.rnd cd r sv st).sem=some x ->
  (∀ ms κ' S' a' w',Rel ms Γ κ' S' x.2 a' w'->Ext κ S st.h w κ' S' x.2.h w'->Q (Fo x.1) a' w') ->
  cd.a.wpIn (Ez (some l)) 0 P (Exit.then (λa₁ w₁=>∃ w₂,(Instr.beginRound l).run P w₁ = .ok () w₂∧cd.b.wpIn (Ez (some l)) 0 P Q a₁ w₂) (λ_ _ _=>False)) a w
end
end Go.Sy
namespace Go.Sy
variable {dl:List Deferred} {ro:Option Nat}
theorem UY {S:Nat->Prop} {w:World} {κ:Ai}:∀ (ps:List Tmp) {ts vs:List V} {t:Array Value} {cs:List Value},VRs S w ts κ t.toList->VRs S w vs κ cs ->
  VRs S w (Y9 ts ps vs) κ ((ps.zip cs).foldl (λt p=>t.setIfInBounds p.1 p.2) t).toList
 | [],_,vs,_,_,ht,_=>by cases vs <;> exact ht
 | p::ps,ts,[],t,cs,ht,hv=>by
  rw [show cs=[] from hv];exact ht
 | p::ps,ts,v::vs,t,cs,ht,hv=>by
  obtain ⟨c,cs',rfl,h1,h2⟩:=hv;refine UY ps (t:=t.setIfInBounds p c) ?_ h2;have:=ht.set p h1;simpa using this
section
variable {P:Program} {τ:List Ty} (hτ:TabOK P τ) {Γ:Cx} {R:Rg}
def AdJ:Ex->Option Code
 | .nm=>none
 | .ex i=>some (.exit i)
 | .rt=>some .ret
theorem AaL (e:Ex):(AdJ e).isNone=Akw e:=by cases e <;> rfl
theorem Abx {Γ:Cx0} (hR:RgOK P Γ R) {st:St} {κ:Ai} {S:Nat->Prop} {a:Act} {w:World} {o:Oper} {K:Act->World->Prop} {Q:Exit->Act->World->Prop}
  (hg:Good κ S st.h w) (hE:CC Γ S w) (ht:VRs S w st.t κ a.tmps.toList) {c:Call} {f:Operand} (ho:o.op = .call c) (hc:c.callee = .value f) {r:Nat} (hf:ev Γ st f = .ref r) {v:V×St}
  (h:(WE R r (args Γ st c.args.toList) st).sem=some v) (hp:F4 a o κ S st w K v):o.wpIn (Ez ro) 0 P a w K Q:=by
 unfold WE at h;split at h
 ·rename_i cd ts hh
  split at h
  ·rename_i hlen
   have hlen:=Nat.eq_of_beq_eq_true hlen;obtain ⟨⟨e,st2⟩,h1,h2⟩:=Ad h;have hfv:=AT hE ht f;rw [hf] at hfv;obtain ⟨l,rec,hκ,hl,⟨hp1,hp2,hp3⟩,hq,hts⟩:=hg.blk r _ hh;have hfe:a.eval f = .func (.yield l) #[] #[]:=by
    have:=hfv.1.symm.trans hκ;simpa using this
   have hargs:=Fv hE ht c.args.toList;have hsz:(c.args.map a.eval).size=rec.params.size:=by
    have:=hargs.length;rw [hp1,Array.size_map,<- hlen];simpa using this
   have hrun:(execOp a.eval o).run P w = .ok (.round l rec.fn ((rec.params.zip (c.args.map a.eval)).foldl (λt p=>t.setIfInBounds p.1 p.2) rec.tmps) rec.assign rec.body) w:=by
    unfold execOp;simp only [ho,resolve,hc,hfe,Deferred.ofValue,Sem.run_bind,Sem.run_pure,Result.andThen_ok,invoke];have:=run_yield (P:=P) hl (args:=#[]++c.args.map a.eval) (by simpa using hsz);simpa using this
   refine ⟨λ_ _=>trivial,?_⟩;rw [Amj (.inr (by unfold Gm; rw [ho])),hrun];refine ⟨Aey,roundIn_of_wpIn (F:=Ez ro) trivial ?_⟩;have hrl:r<st.h.length:=(List.getElem?_eq_some_iff.1 hh).1;have hy:VR S w (.ref r) κ (.func (.yield l) #[] #[]):=⟨hκ,.inr (.inr ⟨l,rfl⟩)⟩;have hst:VRs S w (.ref r::st.t) κ (Value.func (.yield l) #[] #[]::a.tmps.toList):=⟨_,_,rfl,hy,ht⟩;have hrel:Rel [] Γ (EZ κ st.h (Value.func (.yield l) #[] #[]::a.tmps.toList)) S ⟨Y9 ts cd.ps.toList (args Γ st c.args.toList),st.h++[.saved (.ref r::st.t)]⟩ { tmps:=(rec.params.zip (c.args.map a.eval)).foldl (λt p=>t.setIfInBounds p.1 p.2) rec.tmps,defers:=[] } w:=by
    refine ⟨KE hg hst,hE,?_,rfl⟩;have:=UY cd.ps.toList hts hargs;refine MP hg ?_;rw [<- hp1] at this ⊢;rw [<- Array.foldl_toList,Array.toList_zip,Array.toList_map];exact this
   have hin:InR (some (r,st.h.length)) (some l) (EZ κ st.h (Value.func (.yield l) #[] #[]::a.tmps.toList)) (st.h++[.saved (.ref r::st.t)]):=λvs _=>⟨a.tmps.toList,by simp [EZ,AZ]⟩;rw [hp2,hp3];refine hR.rnd l cd r st.h.length _ (e,st2) _ S _ w _ hrel hin ⟨st.t,by simp⟩ h1 ?_;intro ms κ' S' a' w' hr' he';split at h2
   rotate_left
   ·cases h2
   rename_i r' t' cd' ts' hat hbr;split at h2
   rotate_left
   ·cases h2
   rename_i hrr;obtain rfl:=Nat.eq_of_beq_eq_true hrr;have h2:=Aa h2;subst h2;obtain ⟨hk,hslots⟩:=Px hr'.good he' hat rfl;obtain ⟨y,l',e1,hyv,ht'⟩:=hslots;simp only [List.cons.injEq] at e1;obtain ⟨rfl,rfl⟩:=e1;have hκr:κ' r'=some (.func (.yield l) #[] #[]):=hyv.1;obtain ⟨l2,rec2,k1,k2,k3,k4,k5⟩:=hr'.good.blk r' _ hbr;rw [hκr] at k1;simp at k1;subst k1;have hll:l<w'.heap.size:=(Array.getElem?_eq_some_iff.1 k2).1;obtain ⟨s1,s2⟩:=Pw hr'.good he' hat;have hne:r' ≠ st.h.length:=by omega
   have hbr2:(st2.h.set st.h.length .dead)[r']? = some (.rng cd' ts' .busy):=by rw [List.getElem?_set_ne (Ne.symm hne)]; exact hbr
   have hoth:∀ (rec3:Loop) (k:Nat),¬ inBlk (κ' r') k (.rng cd' ts' .busy)->k<w'.heap.size->(w'.putObj l (.loop rec3)).heap[k]? = w'.heap[k]?:=λrec3 k hk _=>World.putObj_heap_other (λe=>hk (by rw [hκr,e]; rfl));have hSl:∀ (rec3:Loop) b,S' b->S' b∧(w'.putObj l (.loop rec3)).heap[b]? = w'.heap[b]?:=λrec3 b hb=>⟨hb,World.putObj_heap_other λe=>by
    subst e;exact (hr'.good.out b hb).2 r' ((Aq hbr).2 (by rw [hκr]; rfl))⟩
   have fin:∀ j,j=AdJ e->∃ v w'',(Instr.endRound l j).run P w' = .ok v w''∧(match Ending.returned v,w'' with | .returned v,w''=>K (a.put o.dst v) w'' | .panicked chain,w''=>Q (.panic chain) a w'' | .outgrown,_=>LetsOut Q):=by
    intro j hj;refine ⟨_,_,run_endRound j k2,?_⟩;have hrec:Aor { rec2 with state:=if j.isNone then .ready else .done,pending:=j } (AkG e):=by
     subst hj;cases e <;> exact ⟨rfl,rfl⟩
    obtain ⟨z1,z2⟩:=s1.upd' (w':=w'.putObj l (.loop { rec2 with state:=if j.isNone then .ready else .done,pending:=j })) (b':=.rng cd' ts' (AkG e)) hbr2 (λ_ h=>h) (hoth _) (by simp)
     ⟨l,_,hκr,World.putObj_heap_same hll,k3,hrec,VR.mono_go (hSl _) _ _ _ _ (λ_ _ h=>h) k5⟩
    refine hp κ' S' _ _ z1 (VR.mono_go (hSl _) _ _ _ _ (λ_ _ h=>h) ht') ?_ (s2.trans (Ext.upd' s1 hbr2 rfl (hoth _) (by simp) rfl rfl rfl z2 (by simp) (λhf=>by rcases hf with ⟨_,_,_,_,hf⟩ | ⟨_,hf⟩ <;> cases hf)))
    show Value.bool j.isNone = .bool (Akw e);rw [hj,AaL]
   cases e with
   | nm=>exact fin none rfl
   | ex i=>exact fin (some (.exit i)) rfl
   | rt=>exact fin (some .ret) rfl
  ·cases h
 ·cases h
end
end Go.Sy
