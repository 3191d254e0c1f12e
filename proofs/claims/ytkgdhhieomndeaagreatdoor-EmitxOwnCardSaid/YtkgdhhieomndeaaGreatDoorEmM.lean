/-
  The document's condition that some things have some values (alembicref08.All): the same as the program's. No conditions.
-/
import Derived.Test.YtkgdhhieomndeaaGreatDoorCyJ
import Derived.Test.YtkgdhhieomndeaaGreatDoorShS
import Derived.Test.YtkgdhhieomndeaaGreatDoorEmL
import Derived.Test.YtkgdhhieomndeaaGreatDoorShAb
import Derived.Test.YtkgdhhieomndeaaGreatDoorEdX
namespace Go.Proofs.YtkgdhhieomndeaaGreatDoor.Em
open Go.Sy Go Go.Proofs.YtkgdhhieomndeaaGreatDoor.Ed Go.Proofs.YtkgdhhieomndeaaGreatDoor.Sh
open Int (ofNat)
set_option maxRecDepth 100000
set_option maxHeartbeats 1000000
noncomputable def Aqn:List V->AE:=λvs=>Ay (Ai tab (AA Gl [] []) Tryz.f125 vs [])
noncomputable def Aqm:List V->AE:=λvs=>Ay (Ai tab (AA Gl [] []) Tryz.f126 vs [])
noncomputable def Abb:AK:=[(125,Aqn),(126,Aqm)]
theorem Aba:Aq Tryz.prog Gl Abb:=.cons (AM A7 mixed Tryz.func125 (by kernel_rfl) (by kernel_rfl) (AH Aq.nil _)) <| .cons (AM A7 mixed Tryz.func126 (by kernel_rfl) (by kernel_rfl) (AH Aq.nil _)) .nil
theorem Wz:Us.map (λl=>(Ay (Ai tab (AA Gl Abb [(0,lp86)]) Tryz.f102 [.str l] [])).sem)=Us.map λ_=>some (bV true,[]):=by kernel_rfl
theorem p102:Ax Tryz.prog Gl 102 Q9:=by
 refine Aj A7 mixed Tryz.func102 (by kernel_rfl) (by kernel_rfl) λvs v h' h=>?_;unfold Q9 at h;split at h
 ·rename_i l
  obtain ⟨h1,hq⟩:=Ad h;have:=Ab hq;simp only [Prod.mk.injEq] at this;obtain ⟨rfl,rfl⟩:=this;have hx:=AH Aba [(0,lp86)];obtain ⟨y,hy,e⟩:=List.any_eq_true.1 h1;have e:y=l:=by simpa [seq] using e
  subst e;exact ⟨_,AA Gl Abb [(0,lp86)],_,Bj.refl _,rfl,hx.1,hx.2,List.map_inj_left.1 Wz y hy,Av.refl _⟩
 ·cases h
theorem p103:Ax Tryz.prog Gl 103 Qu:=by
 refine Aj A7 mixed Tryz.func103 (by kernel_rfl) (by kernel_rfl) λvs v h' h=>?_;unfold Qu at h;split at h
 ·rename_i a
  obtain ⟨h1,hq⟩:=Ad h;have:=Ab hq;simp only [Prod.mk.injEq] at this;obtain ⟨rfl,rfl⟩:=this;have hx:=AH (P:=Tryz.prog) (G:=Gl) Aq.nil [];have h1:a=2:=by simpa [ieq] using h1
  subst h1;exact ⟨_,AA Gl [] [],_,Bj.refl _,rfl,hx.1,hx.2,by kernel_rfl,Av.refl _⟩
 ·cases h
theorem p74:Ax Tryz.prog Gl 74 Q5:=by
 refine Aj A7 mixed Tryz.func74 (by kernel_rfl) (by kernel_rfl) λvs v h' h=>?_;unfold Q5 at h;split at h
 ·rename_i a
  obtain ⟨h1,hq⟩:=Ad h;have:=Ab hq;simp only [Prod.mk.injEq] at this;obtain ⟨rfl,rfl⟩:=this;have hx:=AH T8 [];unfold FT at h1;cases h2:ile (-2147483648) a with
  | false=>rw [h2] at h1; cases h1
  | true =>rw [h2] at h1;have h1:ile a 2147483647=true:=h1;have:=Al1 (AA Gl NY []).loop a h2;rw [h1] at this;exact ⟨_,AA Gl NY [],_,Bj.refl _,rfl,hx.1,hx.2,(show (Ay (Ai tab (AA Gl NY []) Tryz.f74 [iV a] [])).sem=_ from this),Av.refl _⟩
 ·cases h
noncomputable def AaQ:AK:=[(102,Q9),(103,Qu)]
theorem Aep:Aq Tryz.prog Gl AaQ:=.cons p102 <| .cons p103 .nil
theorem e73 (L:LT) (t r:Int) (l:List UInt8):Ay (Ai tab ⟨Am AaQ,L,Gl⟩ Tryz.f73 [iV 2,.agg [iV t,iV r,.str l]] [])=Ay (Ai tab ⟨Am tb63,L,Gl⟩ Tryz.f65 [iV 2,.agg [iV t,iV r,.str l]] []):=by kernel_rfl
theorem p73:Ax Tryz.prog Gl 73 tgT:=by
 refine Aj A7 mixed Tryz.func73 (by kernel_rfl) (by kernel_rfl) λvs v h' h=>?_;unfold tgT at h;split at h
 ·rename_i a t r l
  obtain ⟨h0,h⟩:=Ad h;obtain ⟨h1,hq⟩:=Ad h;have:=Ab hq;simp only [Prod.mk.injEq] at this;obtain ⟨rfl,rfl⟩:=this;have hx:=AH Aep [];have h0:a=2:=by simpa [ieq] using h0
  subst h0;refine ⟨_,AA Gl AaQ [],_,Bj.refl _,rfl,hx.1,hx.2,(congrArg T.sem (e73 (AA Gl AaQ []).loop t r l)).trans ?_,Av.refl _⟩;unfold tgB at h1;cases h2:ieq t (-1) with
  | true =>rw [h2] at h1;simp only [cond_true,Bool.and_eq_true] at h1;exact Al3 _ t r l h2 h1.1 h1.2
  | false =>rw [h2] at h1;simp only [cond_false,Bool.and_eq_true] at h1;have:=Al2 (AA Gl AaQ []).loop t r l h2 h1.1 h1.2.1 h1.2.2.1 h1.2.2.2.1;rw [h1.2.2.2.2] at this;exact this
 ·cases h
noncomputable def tb49:AK:=[(73,tgT),(74,Q5)]
theorem tb49_ok:Aq Tryz.prog Gl tb49:=.cons p73 <| .cons p74 .nil
def Anh (n:Nat) (X:Nat->Tg) (m:Nat) (f:Nat->Int):Lp:=⟨bmK 69 0 [0,1,4,5,6,7,8],3,bmK 69 0 [4,5,6,7],3,n+1⟩
def AeF (n:Nat) (X:Nat->Tg) (m:Nat) (f:Nat->Int) (b:Nat) (g:Nat->V) (j:Nat->V):St:=⟨jsV 69 0 j [(0,.sl 3 n λi=>tgV (X i)),(1,.sl 1 m λi=>iV (f i)),(4,.ptr 0 0),(5,iV 0),(6,.ptr 1 0),(7,.ref 2),(8,nV b)],[.cells [iV 0,iV 0,iV 0,iV 0,.str [],iV 0,.nilS],.cells [iV 0,iV 0,iV 0,iV 0,.str [],iV 0,.nilS],.row 35 6 b g]⟩
def EC (n:Nat) (X:Nat->Tg) (m:Nat) (f:Nat->Int) (b:Nat) (g:Nat->V):Ex×St:=(.ex 0,⟨jsV 69 0 Aa [(4,.ptr 0 0),(5,iV 0),(6,.ptr 1 0),(7,.ref 2)],[.cells [iV 0,iV 0,iV 0,iV 0,.str [],iV 0,.nilS],.cells [iV 0,iV 0,iV 0,iV 0,.str [],iV 0,.nilS],.row 35 6 b g]⟩)
noncomputable def IQ (L:LT):St->T (Ex×St):=λst=>AD tab ⟨Am tb49,L,Gl⟩ (Au Tryz.f49 0) 0 st
section
variable (L:LT) (n:Nat) (X:Nat->Tg) (m:Nat) (f:Nat->Int) (b:Nat) (g:Nat->V)  (j:Nat->V)
include L n X m f b g j
theorem Apd (h0:ilt (ofNat b) (ofNat n)=false):Al (IQ L) (Anh n X m f) (AeF n X m f b g j)=some ((.ex 0),⟨jsV 69 0 Aa [(4,.ptr 0 0),(5,iV 0),(6,.ptr 1 0),(7,.ref 2)],[.cells [iV 0,iV 0,iV 0,iV 0,.str [],iV 0,.nilS],.cells [iV 0,iV 0,iV 0,iV 0,.str [],iV 0,.nilS],.row 35 6 b g]⟩):=by
 exact Ac (ks:=[kn h0]) (by kernel_rfl)
theorem Apc (h0:ilt (ofNat b) (ofNat n)=true) (h27:ile 0 (ofNat b)=true) (h28:tgB (X b).th (X b).rg (X b).lc=true) (h29:Ao (ile 0 (ofNat b)) (ilt (ofNat b) (ofNat m))=true) (h30:FT (f b)=true) (h31:Bn b 1 72=true):Al (IQ L) (Anh n X m f) (AeF n X m f b g j)=some (.nm,⟨jsV 69 0 Aa [(0,.sl 3 n (λi=>.agg [iV (X i).th,iV (X i).rg,.str (X i).lc])),(1,.sl 1 m (λi=>iV (f i))),(4,.ptr 0 0),(5,iV 0),(6,.ptr 1 0),(7,.ref 2),(8,iV (wr .i64 (Ak (ofNat b) 1)))],[.cells [iV 0,iV 0,iV 0,iV 0,.str [],iV 0,.nilS],.cells [iV 0,iV 0,iV 0,iV 0,.str [],iV 0,.nilS],.row 35 6 (AV b 1) (As b g (.agg [iV 2,iV (X b).th,iV (X b).rg,.str (X b).lc,iV (f b),.nilS]))]⟩):=by
 exact Ac (ks:=[kn h0,kA (kn h27) (kn h0),kI 2,kn h28,kN kT,kN kT,kN kT,kn h29,kN kT,kN kT,kn h30,kN kT,kN kT,kN kT,kA (kn h27) (kn h0),kn h29,kn h31]) (by kernel_rfl)
end
def Pl (n:Nat) (X:Nat->Tg) (m:Nat) (f:Nat->Int) :St:=⟨jsV 69 0 (λ_=>A9) [(0,.sl 3 n (λi=>.agg [iV (X i).th,iV (X i).rg,.str (X i).lc])),(1,.sl 1 m (λi=>iV (f i))),(4,.ptr 0 0),(5,iV 0),(6,.ptr 1 0),(7,.ref 2),(8,iV 0),(10,.sl 3 n (λi=>.agg [iV (X i).th,iV (X i).rg,.str (X i).lc])),(11,nV n),(12,.sl 1 m (λi=>iV (f i))),(13,nV m),(14,bV (A5 (ieq (ofNat n) (ofNat m)))),(16,.sl 3 n (λi=>.agg [iV (X i).th,iV (X i).rg,.str (X i).lc])),(17,nV n),(18,bV (ilt 1023 (ofNat n)))],[.cells [iV 0,iV 0,iV 0,iV 0,.str [],iV 0,.nilS],.cells [iV 0,iV 0,iV 0,iV 0,.str [],iV 0,.nilS],.row 35 6 0 Aa]⟩
section
variable (L:LT) (p0:PT) (n:Nat) (X:Nat->Tg) (m:Nat) (f:Nat->Int) (b:Nat) (g:Nat->V)
include L p0 n X m f b g
theorem Ao7 (h0:ieq (ofNat n) (ofNat m)=true) (h1:ilt 1023 (ofNat n)=false) (h2:ieq (ofNat b) 0=true) (h3:ieq (ofNat b) 1=false) (hp0:p0 (IQ (onP 0 p0 (EC n X m f b g) L)) (Pl n X m f)=true):(Ay (Ai tab ⟨Am tb49,onP 0 p0 (EC n X m f b g) L,Gl⟩ Tryz.f49 [.sl 3 n λi=>tgV (X i),.sl 1 m λi=>iV (f i)] [])).sem=some ((.tup [.agg [iV 1,iV 1,iV 0,iV 0,.str [],iV 0,.ref 0],iV 0]),[.row 35 6 0 Aa]):=by
 exact Ac (ks:=[kN (kn h0),kn h1,kn hp0,kn h2,kn h3]) (by kernel_rfl)
theorem Ao8 (h0:ieq (ofNat n) (ofNat m)=true) (h1:ilt 1023 (ofNat n)=false) (h2:ieq (ofNat b) 0=false) (h3:ieq (ofNat b) 1=false) (hp0:p0 (IQ (onP 0 p0 (EC n X m f b g) L)) (Pl n X m f)=true):(Ay (Ai tab ⟨Am tb49,onP 0 p0 (EC n X m f b g) L,Gl⟩ Tryz.f49 [.sl 3 n λi=>tgV (X i),.sl 1 m λi=>iV (f i)] [])).sem=some ((.tup [.agg [iV 1,iV 4,iV 0,iV 0,.str [],iV 0,.ref 0],iV 0]),[.row 35 6 b g]):=by
 exact Ac (ks:=[kN (kn h0),kn h1,kn hp0,kn h2,kn h3]) (by kernel_rfl)
end
theorem Ao9 (L:LT) (p0:PT) (n:Nat) (X:Nat->Tg) (m:Nat) (f:Nat->Int) (h0:ieq (ofNat n) (ofNat m)=true) (h1:ilt 1023 (ofNat n)=false) (hp0:p0 (IQ (onP 0 p0 (EC n X m f 1 (Agh (.agg [iV 2,iV (X 0).th,iV (X 0).rg,.str (X 0).lc,iV (f 0),.nilS]))) L)) (Pl n X m f)=true):(Ay (Ai tab ⟨Am tb49,onP 0 p0 (EC n X m f 1 (Agh (.agg [iV 2,iV (X 0).th,iV (X 0).rg,.str (X 0).lc,iV (f 0),.nilS]))) L,Gl⟩ Tryz.f49 [.sl 3 n λi=>tgV (X i),.sl 1 m λi=>iV (f i)] [])).sem=some ((.tup [.agg [iV 1,iV 2,iV (X 0).th,iV (X 0).rg,.str (X 0).lc,iV (f 0),.ref 0],iV 0]),[.row 35 6 0 Aa]):=Og (bbK 7 116) [A5 (ieq (ofNat n) (ofNat m)),ilt 1023 (ofNat n),p0 (IQ (onP 0 p0 (EC n X m f 1 (Agh (.agg [iV 2,iV (X 0).th,iV (X 0).rg,.str (X 0).lc,iV (f 0),.nilS]))) L)) (Pl n X m f),ieq 1 0,ieq 1 1,Ao (ile 0 0) (ilt 0 1),nlt 0 1] (by kernel_rfl) (by simp only [hp0] <;> simp only [h0,h1,Br] <;> rfl)
theorem AgQ (M:LT) (n:Nat) (X:Nat->Tg) (f:Nat->Int) (hn:n <= 1023) (hX:∀ i,i<n->tgB (X i).th (X i).rg (X i).lc=true) (hf:∀ i,i<n->FT (f i)=true):∀ (d b:Nat) (j:Nat->V),n=b+d ->
  LRun ⟨Am tb49,Gl⟩ (IQ M) (AeF n X n f b (By (BQ X f) b) j) (EC n X n f n (By (BQ X f) n))
 | 0,b,j,h=>by
  have:n=b:=by omega
  subst this;exact LRun.exit (Apd M n X n f n _ j (Aw (Nat.le_refl _))) (by simp)
 | d+1,b,j,h=>by
  have hi:b<n:=by omega
  have h1:=Apc M n X n f b (By (BQ X f) b) j (ofNat_lt hi) (AX b) (hX b hi) (Ag hi) (hf b hi) (decide_eq_true (by omega));rw [Ap hi (by omega)] at h1;exact LRun.round h1 (LE.refl _) (AgQ M n X f hn hX hf d (b+1) Aa (by omega))
theorem AcZ (n:Nat) (X:Nat->Tg) (m:Nat) (f:Nat->Int):Pl n X m f=AeF n X m f 0 (By (BQ X f) 0) (λi=>nth (Pl n X m f).t i):=by kernel_rfl
theorem p49:Ax Tryz.prog Gl 49 allT:=by
 refine Aj A7 mixed Tryz.func49 (by kernel_rfl) (by kernel_rfl) λvs v h' h=>?_;unfold allT at h;split at h
 ·rename_i v0 u0
  obtain ⟨n,X,ha,h⟩:=Bz h;obtain ⟨m,f,hb,h⟩:=Bz h;obtain ⟨h1,h⟩:=Ad h;obtain ⟨h2,h⟩:=Ad h;obtain ⟨h3,h⟩:=Ad h;obtain ⟨h4,h⟩:=Ad h;have:=Ab h;simp only [Prod.mk.injEq] at this;obtain ⟨rfl,rfl⟩:=this;have h1:n=m:=Nat.eq_of_beq_eq_true h1;subst h1;have h2:n <= 1023:=Nat.le_of_ble_eq_true h2;have h3:=λi (hi:i<n)=>A0.1 h3 i hi;have h4:=λi (hi:i<n)=>A0.1 h4 i hi;have hA:Bj [v0,u0] [.sl 3 n λi=>tgV (X i),.sl 1 n λi=>iV (f i)]:=λS w cs hv=>by
   obtain ⟨c,l,rfl,q1,d,l',rfl,q2,q3⟩:=hv;exact ⟨c,_,rfl,ha S w c q1,d,_,rfl,hb S w d q2,q3⟩
  have hx:=(AH tb49_ok []).1;have hr:∀ M,LRun ⟨Am tb49,Gl⟩ (IQ M) (Pl n X n f) (EC n X n f n (By (BQ X f) n)):=λM=>by
   rw [AcZ];exact AgQ M n X f h2 h3 h4 n 0 _ (by omega)
  have e1:ieq (ofNat n) (ofNat n)=true:=by simp [ieq]
  have e2:ilt 1023 (ofNat n)=false:=by rw [show (1023:Int)=ofNat 1023 from rfl,BP]; exact decide_eq_false (by omega)
  have rle:∀ (g:Nat->V),Av [Blk.row 35 6 0 Aa] [Blk.row 35 6 0 g]:=λg=>Av.one λj hj=>absurd hj (Nat.not_lt_zero _);have hn:n=0 ∨ n=1 ∨ ∃ k,n=k+2:=by
   rcases n with _ | _ | k
   ·exact .inl rfl
   ·exact .inr (.inl rfl)
   ·exact .inr (.inr ⟨k,rfl⟩)
  rcases hn with rfl | rfl | ⟨k,rfl⟩
  ·have hw:=Ao7 noL (isR ⟨Am tb49,Gl⟩ (EC 0 X 0 f 0 (By (BQ X f) 0))) 0 X 0 f 0 (By (BQ X f) 0) e1 e2 (by decide) (by decide) (E1 (hr _))
   exact ⟨_,⟨Am tb49,onP 0 (isR ⟨Am tb49,Gl⟩ (EC 0 X 0 f 0 (By (BQ X f) 0))) (EC 0 X 0 f 0 (By (BQ X f) 0)) noL,Gl⟩,_,hA,rfl,hx,HH GO,hw,rle _⟩
  ·have hw:=Ao9 noL (isR ⟨Am tb49,Gl⟩ (EC 1 X 1 f 1 (By (BQ X f) 1))) 1 X 1 f e1 e2 (E1 (hr _))
   exact ⟨_,⟨Am tb49,onP 0 (isR ⟨Am tb49,Gl⟩ (EC 1 X 1 f 1 (By (BQ X f) 1))) (EC 1 X 1 f 1 (By (BQ X f) 1)) noL,Gl⟩,_,hA,rfl,hx,HH GO,hw,rle _⟩
  ·have e3:ieq (ofNat (k+2)) 0=false:=by simp [ieq]; omega
   have e4:ieq (ofNat (k+2)) 1=false:=by simp [ieq]; omega
   have hw:=Ao8 noL (isR ⟨Am tb49,Gl⟩ (EC (k+2) X (k+2) f (k+2) (By (BQ X f) (k+2)))) (k+2) X (k+2) f (k+2) (By (BQ X f) (k+2)) e1 e2 e3 e4 (E1 (hr _));exact ⟨_,⟨Am tb49,onP 0 (isR ⟨Am tb49,Gl⟩ (EC (k+2) X (k+2) f (k+2) (By (BQ X f) (k+2)))) (EC (k+2) X (k+2) f (k+2) (By (BQ X f) (k+2))) noL,Gl⟩,_,hA,rfl,hx,HH GO,hw,Av.one λj hj=>(FQ (BQ X f) (k+2) j hj).symm⟩
 ·cases h
end Go.Proofs.YtkgdhhieomndeaaGreatDoor.Em
namespace Go.Proofs.YtkgdhhieomndeaaGreatDoor.Em
open Go.Sy Go Go.Proofs.YtkgdhhieomndeaaGreatDoor.Ed Go.Proofs.YtkgdhhieomndeaaGreatDoor.Sh
open Int (ofNat)
set_option maxRecDepth 100000
set_option maxHeartbeats 2000000
noncomputable def FI:AK:=[(45,OK),(49,allT)]
theorem AaU:Aq Tryz.prog Gl FI:=.cons p38 <| .cons p49 .nil
def lp26 (_:Int) (_:Nat) (_:Nat->E6) (m:Nat) (_:Nat->Ev5) (_ _:Int) (_:Nat) (_:Nat->Int) (_:Nat) (_:Nat->Nat) (_:Nat->Nat->Int) (_:Nat) (_:Nat->Int):Lp:=⟨bmK 84 0 [1,2,4,5,6,7],4,bmK 84 0 [2,4,5,6],4,m+1⟩
def st26 (a:Int) (n:Nat) (g:Nat->E6) (m:Nat) (x:Nat->Ev5) (t k:Int) (p:Nat) (r:Nat->Int) (q:Nat) (ln:Nat->Nat) (co:Nat->Nat->Int) (z:Nat) (rg:Nat->Int) (b c:Nat) (Y:Nat->Tg) (W:Nat->Int) (j:Nat->V):St:=⟨jsV 84 0 j [(1,.sl 1 z λi=>iV (rg i)),(2,.ptr 0 0),(4,.ptr 1 0),(5,.ref 2),(6,.ref 3),(7,nV b)],[.cells [iV a,.sl 6 n λi=>eV (g i),.sl 5 m λi=>evV (x i),iV t,iV k,.sl 1 p λi=>iV (r i),.sl 1 q λi=>.sl 1 (ln i) λj=>iV (co i j)],.cells [iV 0,iV 0,iV 0,iV 0,.str [],iV 0,.nilS],.row 32 3 c (λi=>tgV (Y i)),.row 3 1 c (λi=>iV (W i))]⟩
def en26e (a:Int) (n:Nat) (g:Nat->E6) (m:Nat) (x:Nat->Ev5) (t k:Int) (p:Nat) (r:Nat->Int) (q:Nat) (ln:Nat->Nat) (co:Nat->Nat->Int) (_:Nat) (_:Nat->Int) (_ c:Nat) (Y:Nat->Tg) (W:Nat->Int):Ex×St:=(.ex 0,⟨jsV 84 0 Aa [(2,.ptr 0 0),(4,.ptr 1 0),(5,.ref 2),(6,.ref 3)],[.cells [iV a,.sl 6 n λi=>eV (g i),.sl 5 m λi=>evV (x i),iV t,iV k,.sl 1 p λi=>iV (r i),.sl 1 q λi=>.sl 1 (ln i) λj=>iV (co i j)],.cells [iV 0,iV 0,iV 0,iV 0,.str [],iV 0,.nilS],.row 32 3 c (λi=>tgV (Y i)),.row 3 1 c (λi=>iV (W i))]⟩)
noncomputable def Kj (L:LT):St->T (Ex×St):=λst=>AD tab ⟨Am FI,L,Gl⟩ (Au Tryz.f26 0) 0 st
section
variable (L:LT) (a:Int) (n:Nat) (g:Nat->E6) (m:Nat) (x:Nat->Ev5) (t k:Int) (p:Nat) (r:Nat->Int) (q:Nat) (ln:Nat->Nat) (co:Nat->Nat->Int) (z:Nat) (rg:Nat->Int) (b c:Nat) (Y:Nat->Tg) (W:Nat->Int)  (j:Nat->V)
include L a n g m x t k p r q ln co z rg b c Y W j
theorem Apo (h0:ilt (ofNat b) (ofNat m)=false):Al (Kj L) (lp26 a n g m x t k p r q ln co z rg) (st26 a n g m x t k p r q ln co z rg b c Y W j)=some ((.ex 0),⟨jsV 84 0 Aa [(2,.ptr 0 0),(4,.ptr 1 0),(5,.ref 2),(6,.ref 3)],[.cells [iV a,.sl 6 n (λi=>eV (g i)),.sl 5 m (λi=>.agg [iV (x i).th,iV (x i).pl,iV (x i).dir,iV (x i).loc,iV (x i).val]),iV t,iV k,.sl 1 p (λi=>iV (r i)),.sl 1 q (λi=>.sl 1 (ln i) (λj=>iV (co i j)))],.cells [iV 0,iV 0,iV 0,iV 0,.str [],iV 0,.nilS],.row 32 3 c (λi=>.agg [iV (Y i).th,iV (Y i).rg,.str (Y i).lc]),.row 3 1 c (λi=>iV (W i))]⟩):=by
 exact Ac (ks:=[kn h0]) (by kernel_rfl)
theorem Apn (h0:ilt (ofNat b) (ofNat m)=true) (h34:ile 0 (ofNat b)=true) (h1:ieq (x b).dir 1=true) (h35:Ao (ile 0 (ofNat b)) (ilt (ofNat b) (ofNat z))=true) (h36:Bn c 1 32=true) (h37:Bn c 1 8=true):Al (Kj L) (lp26 a n g m x t k p r q ln co z rg) (st26 a n g m x t k p r q ln co z rg b c Y W j)=some (.nm,⟨jsV 84 0 Aa [(1,.sl 1 z (λi=>iV (rg i))),(2,.ptr 0 0),(4,.ptr 1 0),(5,.ref 2),(6,.ref 3),(7,iV (wr .i64 (Ak (ofNat b) 1)))],[.cells [iV a,.sl 6 n (λi=>eV (g i)),.sl 5 m (λi=>.agg [iV (x i).th,iV (x i).pl,iV (x i).dir,iV (x i).loc,iV (x i).val]),iV t,iV k,.sl 1 p (λi=>iV (r i)),.sl 1 q (λi=>.sl 1 (ln i) (λj=>iV (co i j)))],.cells [iV 0,iV 0,iV 0,iV 0,.str [],iV 0,.nilS],.row 32 3 (AV c 1) (As c (λi=>.agg [iV (Y i).th,iV (Y i).rg,.str (Y i).lc]) (.agg [iV (x b).th,iV (rg b),.str []])),.row 3 1 (AV c 1) (As c (λi=>iV (W i)) (iV (x b).val))]⟩):=by
 exact Ac (ks:=[kn h0,kA (kn h34) (kn h0),kn h1,kA (kn h34) (kn h0),kn h35,kn h36,kA (kn h34) (kn h0),kn h37]) (by kernel_rfl)
theorem Apm (h0:ilt (ofNat b) (ofNat m)=true) (h34:ile 0 (ofNat b)=true) (h1:ieq (x b).dir 1=false):Al (Kj L) (lp26 a n g m x t k p r q ln co z rg) (st26 a n g m x t k p r q ln co z rg b c Y W j)=some (.nm,⟨jsV 84 0 Aa [(1,.sl 1 z (λi=>iV (rg i))),(2,.ptr 0 0),(4,.ptr 1 0),(5,.ref 2),(6,.ref 3),(7,iV (wr .i64 (Ak (ofNat b) 1)))],[.cells [iV a,.sl 6 n (λi=>eV (g i)),.sl 5 m (λi=>.agg [iV (x i).th,iV (x i).pl,iV (x i).dir,iV (x i).loc,iV (x i).val]),iV t,iV k,.sl 1 p (λi=>iV (r i)),.sl 1 q (λi=>.sl 1 (ln i) (λj=>iV (co i j)))],.cells [iV 0,iV 0,iV 0,iV 0,.str [],iV 0,.nilS],.row 32 3 c (λi=>.agg [iV (Y i).th,iV (Y i).rg,.str (Y i).lc]),.row 3 1 c (λi=>iV (W i))]⟩):=by
 exact Ac (ks:=[kn h0,kA (kn h34) (kn h0),kn h1]) (by kernel_rfl)
end
def UW (a:Int) (n:Nat) (g:Nat->E6) (m:Nat) (x:Nat->Ev5) (t k:Int) (p:Nat) (r:Nat->Int) (q:Nat) (ln:Nat->Nat) (co:Nat->Nat->Int) (z:Nat) (rg:Nat->Int) :St:=⟨jsV 84 0 (λ_=>A9) [(0,.agg [iV a,.sl 6 n (λi=>eV (g i)),.sl 5 m (λi=>.agg [iV (x i).th,iV (x i).pl,iV (x i).dir,iV (x i).loc,iV (x i).val]),iV t,iV k,.sl 1 p (λi=>iV (r i)),.sl 1 q (λu=>.sl 1 (ln u) (λi=>iV (co u i)))]),(1,.sl 1 z (λi=>iV (rg i))),(2,.ptr 0 0),(4,.ptr 1 0),(5,.ref 2),(6,.ref 3),(7,iV 0)],[.cells [iV a,.sl 6 n (λi=>eV (g i)),.sl 5 m (λi=>.agg [iV (x i).th,iV (x i).pl,iV (x i).dir,iV (x i).loc,iV (x i).val]),iV t,iV k,.sl 1 p (λi=>iV (r i)),.sl 1 q (λu=>.sl 1 (ln u) (λi=>iV (co u i)))],.cells [iV 0,iV 0,iV 0,iV 0,.str [],iV 0,.nilS],.row 32 3 0 Aa,.row 3 1 0 Aa]⟩
def Lc (a:Int) (n:Nat) (g:Nat->E6) (m:Nat) (x:Nat->Ev5) (t k:Int) (p:Nat) (r:Nat->Int) (q:Nat) (ln:Nat->Nat) (co:Nat->Nat->Int) (_:Nat) (_:Nat->Int) (_ c:Nat) (Y:Nat->Tg) (W:Nat->Int):St:=⟨jsV 84 0 Aa [(2,.ptr 0 0),(4,.ptr 1 0),(5,.ref 2),(6,.ref 3),(8,iV 0)],[.cells [iV a,.sl 6 n (λi=>eV (g i)),.sl 5 m (λi=>.agg [iV (x i).th,iV (x i).pl,iV (x i).dir,iV (x i).loc,iV (x i).val]),iV t,iV k,.sl 1 p (λi=>iV (r i)),.sl 1 q (λi=>.sl 1 (ln i) (λj=>iV (co i j)))],.cells [iV 0,iV 0,iV 0,iV 0,.str [],iV 0,.nilS],.row 32 3 c (λi=>.agg [iV (Y i).th,iV (Y i).rg,.str (Y i).lc]),.row 3 1 c (λi=>iV (W i))]⟩
def WB (_:Int) (_:Nat) (_:Nat->E6) (_:Nat) (_:Nat->Ev5) (_ _:Int) (_:Nat) (_:Nat->Int) (q:Nat) (_:Nat->Nat) (_:Nat->Nat->Int) (_:Nat) (_:Nat->Int):Lp:=⟨bmK 84 0 [2,4,5,6,8],4,bmK 84 0 [2,4,5,6],4,q+1⟩
def JR (a:Int) (n:Nat) (g:Nat->E6) (m:Nat) (x:Nat->Ev5) (t k:Int) (p:Nat) (r:Nat->Int) (q:Nat) (ln:Nat->Nat) (co:Nat->Nat->Int) (_:Nat) (_:Nat->Int) (b c:Nat) (Y:Nat->Tg) (W:Nat->Int) (j:Nat->V):St:=⟨jsV 84 0 j [(2,.ptr 0 0),(4,.ptr 1 0),(5,.ref 2),(6,.ref 3),(8,nV b)],[.cells [iV a,.sl 6 n λi=>eV (g i),.sl 5 m λi=>evV (x i),iV t,iV k,.sl 1 p λi=>iV (r i),.sl 1 q λi=>.sl 1 (ln i) λj=>iV (co i j)],.cells [iV 0,iV 0,iV 0,iV 0,.str [],iV 0,.nilS],.row 32 3 c (λi=>tgV (Y i)),.row 3 1 c (λi=>iV (W i))]⟩
def G9 (a:Int) (n:Nat) (g:Nat->E6) (m:Nat) (x:Nat->Ev5) (t k:Int) (p:Nat) (r:Nat->Int) (q:Nat) (ln:Nat->Nat) (co:Nat->Nat->Int) (_:Nat) (_:Nat->Int) (_ c:Nat) (Y:Nat->Tg) (W:Nat->Int):Ex×St:=(.ex 2,⟨jsV 84 0 Aa [(2,.ptr 0 0),(4,.ptr 1 0),(5,.ref 2),(6,.ref 3)],[.cells [iV a,.sl 6 n λi=>eV (g i),.sl 5 m λi=>evV (x i),iV t,iV k,.sl 1 p λi=>iV (r i),.sl 1 q λi=>.sl 1 (ln i) λj=>iV (co i j)],.cells [iV 0,iV 0,iV 0,iV 0,.str [],iV 0,.nilS],.row 32 3 c (λi=>tgV (Y i)),.row 3 1 c (λi=>iV (W i))]⟩)
noncomputable def Gj (L:LT):St->T (Ex×St):=λst=>AD tab ⟨Am FI,L,Gl⟩ (Au Tryz.f26 2) 2 st
section
variable (L:LT) (a:Int) (n:Nat) (g:Nat->E6) (m:Nat) (x:Nat->Ev5) (t k:Int) (p:Nat) (r:Nat->Int) (q:Nat) (ln:Nat->Nat) (co:Nat->Nat->Int) (z:Nat) (rg:Nat->Int) (b c:Nat) (Y:Nat->Tg) (W:Nat->Int)  (j:Nat->V)
include L a n g m x t k p r q ln co z rg b c Y W j
theorem AjG (h0:ilt (ofNat b) (ofNat q)=false):Al (Gj L) (WB a n g m x t k p r q ln co z rg) (JR a n g m x t k p r q ln co z rg b c Y W j)=some ((.ex 2),⟨jsV 84 0 Aa [(2,.ptr 0 0),(4,.ptr 1 0),(5,.ref 2),(6,.ref 3)],[.cells [iV a,.sl 6 n (λi=>eV (g i)),.sl 5 m (λi=>.agg [iV (x i).th,iV (x i).pl,iV (x i).dir,iV (x i).loc,iV (x i).val]),iV t,iV k,.sl 1 p (λi=>iV (r i)),.sl 1 q (λi=>.sl 1 (ln i) (λj=>iV (co i j)))],.cells [iV 0,iV 0,iV 0,iV 0,.str [],iV 0,.nilS],.row 32 3 c (λi=>.agg [iV (Y i).th,iV (Y i).rg,.str (Y i).lc]),.row 3 1 c (λi=>iV (W i))]⟩):=by
 exact Ac (ks:=[kn h0]) (by kernel_rfl)
theorem AjF (h0:ilt (ofNat b) (ofNat q)=true) (h34:ile 0 (ofNat b)=true) (h1:ieq (ofNat (ln b)) 2=true) (h35:Bn c 1 32=true) (h36:Bn c 1 8=true):Al (Gj L) (WB a n g m x t k p r q ln co z rg) (JR a n g m x t k p r q ln co z rg b c Y W j)=some (.nm,⟨jsV 84 0 Aa [(2,.ptr 0 0),(4,.ptr 1 0),(5,.ref 2),(6,.ref 3),(8,iV (wr .i64 (Ak (ofNat b) 1)))],[.cells [iV a,.sl 6 n (λi=>eV (g i)),.sl 5 m (λi=>.agg [iV (x i).th,iV (x i).pl,iV (x i).dir,iV (x i).loc,iV (x i).val]),iV t,iV k,.sl 1 p (λi=>iV (r i)),.sl 1 q (λi=>.sl 1 (ln i) (λj=>iV (co i j)))],.cells [iV 0,iV 0,iV 0,iV 0,.str [],iV 0,.nilS],.row 32 3 (AV c 1) (As c (λi=>.agg [iV (Y i).th,iV (Y i).rg,.str (Y i).lc]) (.agg [iV (-1),iV 0,.str (BB (ofNat b))])),.row 3 1 (AV c 1) (As c (λi=>iV (W i)) (iV 2))]⟩):=by
 exact Ac (ks:=[kn h0,kA (kn h34) (kn h0),kn h1,kn h35,kn h36]) (by kernel_rfl)
theorem AjE (h0:ilt (ofNat b) (ofNat q)=true) (h34:ile 0 (ofNat b)=true) (h1:ieq (ofNat (ln b)) 2=false):Al (Gj L) (WB a n g m x t k p r q ln co z rg) (JR a n g m x t k p r q ln co z rg b c Y W j)=some (.nm,⟨jsV 84 0 Aa [(2,.ptr 0 0),(4,.ptr 1 0),(5,.ref 2),(6,.ref 3),(8,iV (wr .i64 (Ak (ofNat b) 1)))],[.cells [iV a,.sl 6 n (λi=>eV (g i)),.sl 5 m (λi=>.agg [iV (x i).th,iV (x i).pl,iV (x i).dir,iV (x i).loc,iV (x i).val]),iV t,iV k,.sl 1 p (λi=>iV (r i)),.sl 1 q (λi=>.sl 1 (ln i) (λj=>iV (co i j)))],.cells [iV 0,iV 0,iV 0,iV 0,.str [],iV 0,.nilS],.row 32 3 c (λi=>.agg [iV (Y i).th,iV (Y i).rg,.str (Y i).lc]),.row 3 1 c (λi=>iV (W i))]⟩):=by
 exact Ac (ks:=[kn h0,kA (kn h34) (kn h0),kn h1]) (by kernel_rfl)
end
theorem AoP (L:LT) (p0:PT) (p2:PT) (a:Int) (n:Nat) (g:Nat->E6) (m:Nat) (x:Nat->Ev5) (t k:Int) (p:Nat) (r:Nat->Int) (q:Nat) (ln:Nat->Nat) (co:Nat->Nat->Int) (z:Nat) (rg:Nat->Int) (b c:Nat) (Y:Nat->Tg) (W:Nat->Int) (b2 c2:Nat) (Y2:Nat->Tg) (W2:Nat->Int) (h32:IG c2=true) (h33:tgA c2 Y2=true) (h34:AbU c2 W2=true) (h35:Cb [.row 35 6 (IZ c2) (λi=>.agg [iV 2,iV (Y2 i).th,iV (Y2 i).rg,.str (Y2 i).lc,iV (W2 i),.nilS])]=true) (hp0:p0 (Kj (onP 0 p0 (en26e a n g m x t k p r q ln co z rg b c Y W) (onP 2 p2 (G9 a n g m x t k p r q ln co z rg b2 c2 Y2 W2) L))) (UW a n g m x t k p r q ln co z rg)=true) (hp2:p2 (Gj (onP 0 p0 (en26e a n g m x t k p r q ln co z rg b c Y W) (onP 2 p2 (G9 a n g m x t k p r q ln co z rg b2 c2 Y2 W2) L))) (Lc a n g m x t k p r q ln co z rg b c Y W)=true):(Ay (Ai tab ⟨Am FI,onP 0 p0 (en26e a n g m x t k p r q ln co z rg b c Y W) (onP 2 p2 (G9 a n g m x t k p r q ln co z rg b2 c2 Y2 W2) L),Gl⟩ Tryz.f26 [.agg [iV a,.sl 6 n λi=>eV (g i),.sl 5 m λi=>evV (x i),iV t,iV k,.sl 1 p λi=>iV (r i),.sl 1 q λu=>.sl 1 (ln u) λi=>iV (co u i)],.sl 1 z λi=>iV (rg i)] [])).sem=some ((.agg [iV 1,iV (PD c2),iV (DJ c2 Y2).th,iV (DJ c2 Y2).rg,.str (DJ c2 Y2).lc,iV (PE c2 W2),.ref 0]),[.row 35 6 (IZ c2) (λi=>.agg [iV 2,iV (Y2 i).th,iV (Y2 i).rg,.str (Y2 i).lc,iV (W2 i),.nilS])]):=by
 exact Ac (ks:=[kn hp0,kn hp2,kL c2,kL c2,kJ c2,kn h32,kn h33,kn h34,kn h35]) (by kernel_rfl)
def coL (l:List (Tg×Int)) (ln:Nat->Nat):Nat->List (Tg×Int)
 | 0=>l
 | b+1=>bif ieq (ofNat (ln b)) 2 then coL l ln b++[(⟨-1,0,BB (ofNat b)⟩,2)] else coL l ln b
theorem Ad7 (l:List (Tg×Int)) (ln:Nat->Nat):∀ b,(coL l ln b).length <= l.length+b
 | 0=>Nat.le_refl _
 | b+1=>by
  have:=Ad7 l ln b;rw [coL];cases ieq (ofNat (ln b)) 2 with
  | true=>show (_++[_]).length <= _; rw [List.length_append]; simp only [List.length_cons,List.length_nil]; omega
  | false=>show (coL l ln b).length <= _; omega
theorem Me (l:List (Tg×Int)) (ln:Nat->Nat) {s1 s2:Nat->Nat}:∀ b,(∀ i,i<b->s1 i=s2 i)->loL l ln s1 b=loL l ln s2 b
 | 0,_=>rfl
 | b+1,h=>by rw [loL,loL,Me l ln b λi hi=>h i (by omega),h b (by omega)]
theorem Ad8 (l:List (Tg×Int)) (ln:Nat->Nat):∀ q,coL l ln q=loL l ln (Ir q ln) (Gm q ln)
 | 0=>rfl
 | q+1=>by
  rw [coL,Ad8 l ln q];have hA:Gm (q+1) ln=Gm q ln+(bif ieq (ofNat (ln q)) 2 then 1 else 0):=by show An _ (q+1)=_; rw [An]; cases ieq (ofNat (ln q)) 2 <;> rfl
  have hS:∀ i,i<Gm q ln->Ir (q+1) ln i=Ir q ln i:=λi hi=>by
   obtain ⟨h1,h2,h3⟩:=EE (P:=λk=>ieq (ofNat (ln k)) 2) hi;have h4:=Ny (P:=λk=>ieq (ofNat (ln k)) 2) (n:=q+1) (by omega) h2;rw [h3] at h4;exact h4
  cases hc:ieq (ofNat (ln q)) 2 with
  | true =>
   rw [hA,hc];show _=loL l ln (Ir (q+1) ln) (Gm q ln+1);have hq:Ir (q+1) ln (Gm q ln)=q:=Ny (P:=λk=>ieq (ofNat (ln k)) 2) (Nat.lt_succ_self q) hc;have hl:(ofNat (ln q))=2:=by simpa [ieq] using hc
   rw [loL,Me l ln _ hS,hq,hl];rfl
  | false =>rw [hA,hc];show _=loL l ln (Ir (q+1) ln) (Gm q ln);rw [Me l ln _ hS];rfl
section
variable (a:Int) (n:Nat) (g:Nat->E6) (m:Nat) (x:Nat->Ev5) (t k:Int) (p:Nat) (r:Nat->Int) (q:Nat) (ln:Nat->Nat) (co:Nat->Nat->Int) (z:Nat) (rg:Nat->Int)
theorem AgV (M:LT) (hm:m <= 1023) (hz:m <= z):∀ (d i:Nat) (j:Nat->V),m=i+d ->
  LRun ⟨Am FI,Gl⟩ (Kj M) (st26 a n g m x t k p r q ln co z rg i (evL x rg i).length (gT (evL x rg i)) (gW (evL x rg i)) j) (en26e a n g m x t k p r q ln co z rg m (evL x rg m).length (gT (evL x rg m)) (gW (evL x rg m)))
 | 0,i,j,h=>by
  have:m=i:=by omega
  subst this;exact LRun.exit (Apo M a n g m x t k p r q ln co z rg m _ _ _ j (Aw (Nat.le_refl _))) (by simp)
 | d+1,i,j,h=>by
  have hi:i<m:=by omega
  have hl:=Mq x rg i;have ih:=AgV M hm hz d (i+1) Aa (by omega);rw [evL] at ih;cases hc:ieq (x i).dir 1 with
  | true =>rw [hc] at ih;have h1:=Apn M a n g m x t k p r q ln co z rg i (evL x rg i).length (gT (evL x rg i)) (gW (evL x rg i)) j (ofNat_lt hi) (AX i) hc (Ag (by omega)) (decide_eq_true (by omega)) (decide_eq_true (by omega));rw [Ap hi (by omega)] at h1;refine LRun.round h1 (LE.refl _) ?_;have e1:=RP (evL x rg i) (⟨(x i).th,rg i,[]⟩,(x i).val);have e2:=RO (evL x rg i) (⟨(x i).th,rg i,[]⟩,(x i).val);have e3:(evL x rg i++[((⟨(x i).th,rg i,[]⟩,(x i).val):Tg×Int)]).length=AV (evL x rg i).length 1:=List.length_append;have ih:LRun ⟨Am FI,Gl⟩ (Kj M) (st26 a n g m x t k p r q ln co z rg (i+1) (evL x rg i++[((⟨(x i).th,rg i,[]⟩,(x i).val):Tg×Int)]).length (gT (evL x rg i++[((⟨(x i).th,rg i,[]⟩,(x i).val):Tg×Int)])) (gW (evL x rg i++[((⟨(x i).th,rg i,[]⟩,(x i).val):Tg×Int)])) Aa) _:=ih;rw [e3] at ih;unfold st26 at ih;rw [<- e1,<- e2] at ih;exact ih
  | false =>rw [hc] at ih;have h1:=Apm M a n g m x t k p r q ln co z rg i (evL x rg i).length (gT (evL x rg i)) (gW (evL x rg i)) j (ofNat_lt hi) (AX i) hc;rw [Ap hi (by omega)] at h1;exact LRun.round h1 (LE.refl _) ih
theorem XH (M:LT) (l:List (Tg×Int)) (hl:l.length <= 1023) (hq:q <= 1023):∀ (d i:Nat) (j:Nat->V),q=i+d ->
  LRun ⟨Am FI,Gl⟩ (Gj M) (JR a n g m x t k p r q ln co z rg i (coL l ln i).length (gT (coL l ln i)) (gW (coL l ln i)) j) (G9 a n g m x t k p r q ln co z rg q (coL l ln q).length (gT (coL l ln q)) (gW (coL l ln q)))
 | 0,i,j,h=>by
  have:q=i:=by omega
  subst this;exact LRun.exit (AjG M a n g m x t k p r q ln co z rg q _ _ _ j (Aw (Nat.le_refl _))) (by simp)
 | d+1,i,j,h=>by
  have hi:i<q:=by omega
  have hll:=Ad7 l ln i;have ih:=XH M l hl hq d (i+1) Aa (by omega);rw [coL] at ih;cases hc:ieq (ofNat (ln i)) 2 with
  | true =>rw [hc] at ih;have h1:=AjF M a n g m x t k p r q ln co z rg i (coL l ln i).length (gT (coL l ln i)) (gW (coL l ln i)) j (ofNat_lt hi) (AX i) hc (decide_eq_true (by omega)) (decide_eq_true (by omega));rw [Ap hi (by omega)] at h1;refine LRun.round h1 (LE.refl _) ?_;have e1:=RP (coL l ln i) (⟨-1,0,BB (ofNat i)⟩,2);have e2:=RO (coL l ln i) (⟨-1,0,BB (ofNat i)⟩,2);have e3:(coL l ln i++[((⟨-1,0,BB (ofNat i)⟩,2):Tg×Int)]).length=AV (coL l ln i).length 1:=List.length_append;have ih:LRun ⟨Am FI,Gl⟩ (Gj M) (JR a n g m x t k p r q ln co z rg (i+1) (coL l ln i++[((⟨-1,0,BB (ofNat i)⟩,2):Tg×Int)]).length (gT (coL l ln i++[((⟨-1,0,BB (ofNat i)⟩,2):Tg×Int)])) (gW (coL l ln i++[((⟨-1,0,BB (ofNat i)⟩,2):Tg×Int)])) Aa) _:=ih;rw [e3] at ih;unfold JR at ih;rw [<- e1,<- e2] at ih;exact ih
  | false =>rw [hc] at ih;have h1:=AjE M a n g m x t k p r q ln co z rg i (coL l ln i).length (gT (coL l ln i)) (gW (coL l ln i)) j (ofNat_lt hi) (AX i) hc;rw [Ap hi (by omega)] at h1;exact LRun.round h1 (LE.refl _) ih
theorem Adc:Gb (UW a n g m x t k p r q ln co z rg) [(2,tgV ⟨0,0,[]⟩),(3,iV 0)]=st26 a n g m x t k p r q ln co z rg 0 0 (gT []) (gW []) (λi=>nth (UW a n g m x t k p r q ln co z rg).t i):=by kernel_rfl
theorem Xa (b c:Nat) (Y:Nat->Tg) (W:Nat->Int):Lc a n g m x t k p r q ln co z rg b c Y W=JR a n g m x t k p r q ln co z rg 0 c Y W (λi=>nth (Lc a n g m x t k p r q ln co z rg b c Y W).t i):=by kernel_rfl
end
def Mw (s:Sh7) (z:Nat) (rg:Nat->Int):Bool :=
 Nat.ble s.nx 1023 && (Nat.ble s.nx z && (Nat.ble s.nc 1023 &&
  (IG (askL s.nx s.X rg s.nc λi=>(s.C i).1).length && (tgA (askL s.nx s.X rg s.nc λi=>(s.C i).1).length (gT (askL s.nx s.X rg s.nc λi=>(s.C i).1)) && AbU (askL s.nx s.X rg s.nc λi=>(s.C i).1).length (gW (askL s.nx s.X rg s.nc λi=>(s.C i).1))))))
def Ad1:List V->AE
 | [v,w]=>apS v λs=>apG SR w λz rg=>.br (Mw s z rg) (.leaf (Aoi (askL s.nx s.X rg s.nc λi=>(s.C i).1),[.row 35 6 (IZ (askL s.nx s.X rg s.nc λi=>(s.C i).1).length) (BQ (gT (askL s.nx s.X rg s.nc λi=>(s.C i).1)) (gW (askL s.nx s.X rg s.nc λi=>(s.C i).1)))])) .fail
 | _=>.fail
theorem Ap8:Ax Tryz.prog Gl 26 Ad1:=by
 refine Aj A7 mixed Tryz.func26 (by kernel_rfl) (by kernel_rfl) λvs v h' h=>?_;unfold Ad1 at h;split at h
 ·rename_i v1 w1
  obtain ⟨s,a1,h⟩:=apS_some h;obtain ⟨z,rg,a2,h⟩:=Bz h;obtain ⟨hw,h⟩:=Ad h;have:=Ab h;simp only [Prod.mk.injEq] at this;obtain ⟨rfl,rfl⟩:=this;obtain ⟨a,n,g,m,x,t,k,p,r,q,C⟩:=s;obtain ⟨ln,co,hC⟩:∃ (ln:Nat->Nat) (co:Nat->Nat->Int),C=λu=>(ln u,co u):=⟨λu=>(C u).1,λu=>(C u).2,rfl⟩;subst hC;simp only [Mw,Bool.and_eq_true] at hw;obtain ⟨k5,k6,k7,k8,k9,k10⟩:=hw;have k5:m <= 1023:=Nat.le_of_ble_eq_true k5;have k6:m <= z:=Nat.le_of_ble_eq_true k6;have k7:q <= 1023:=Nat.le_of_ble_eq_true k7;have hA:Bj [v1,w1] [.agg [iV a,.sl 6 n (λi=>eV (g i)),.sl 5 m (λi=>evV (x i)),iV t,iV k,.sl 1 p (λi=>iV (r i)),.sl 1 q (λu=>.sl 1 (ln u) (λi=>iV (co u i)))],.sl 1 z λi=>iV (rg i)]:=λS w cs hv=>by
   obtain ⟨c,l,rfl,q1,d,l',rfl,q2,q3⟩:=hv;exact ⟨c,_,rfl,a1 S w c q1,d,_,rfl,a2 S w d q2,q3⟩
  have hx:=(AH AaU []).1;have he:=Ad8 (evL x rg m) ln q;have i0:∀ M,LRun ⟨Am FI,Gl⟩ (Kj M) (UW a n g m x t k p r q ln co z rg) (en26e a n g m x t k p r q ln co z rg m (evL x rg m).length (gT (evL x rg m)) (gW (evL x rg m))):=λM=>by
   refine LRun.weak (st1:=Gb (UW a n g m x t k p r q ln co z rg) [(2,tgV ⟨0,0,[]⟩),(3,iV 0)]) (Tl _ _) ?_;rw [Adc];exact AgV a n g m x t k p r q ln co z rg M k5 k6 m 0 _ (by omega)
  have hml:=Mq x rg m;have i2:∀ M,LRun ⟨Am FI,Gl⟩ (Gj M) (Lc a n g m x t k p r q ln co z rg m (evL x rg m).length (gT (evL x rg m)) (gW (evL x rg m))) (G9 a n g m x t k p r q ln co z rg q (askL m x rg q ln).length (gT (askL m x rg q ln)) (gW (askL m x rg q ln))):=λM=>by
   rw [Xa];have:=XH a n g m x t k p r q ln co z rg M (evL x rg m) (by omega) k7 q 0 (λi=>nth (Lc a n g m x t k p r q ln co z rg m (evL x rg m).length (gT (evL x rg m)) (gW (evL x rg m))).t i) (by omega);rw [he] at this;exact this
  have hw:=AoP noL (isR ⟨Am FI,Gl⟩ (en26e a n g m x t k p r q ln co z rg m (evL x rg m).length (gT (evL x rg m)) (gW (evL x rg m)))) (isR ⟨Am FI,Gl⟩ (G9 a n g m x t k p r q ln co z rg q (askL m x rg q ln).length (gT (askL m x rg q ln)) (gW (askL m x rg q ln)))) a n g m x t k p r q ln co z rg m (evL x rg m).length (gT (evL x rg m)) (gW (evL x rg m)) q (askL m x rg q ln).length (gT (askL m x rg q ln)) (gW (askL m x rg q ln)) k8 k9 k10 (P7 _ _ _) (E1 (i0 _)) (E1 (i2 _));exact ⟨_,⟨Am FI,onP 0 (isR ⟨Am FI,Gl⟩ (en26e a n g m x t k p r q ln co z rg m (evL x rg m).length (gT (evL x rg m)) (gW (evL x rg m)))) (en26e a n g m x t k p r q ln co z rg m (evL x rg m).length (gT (evL x rg m)) (gW (evL x rg m))) (onP 2 (isR ⟨Am FI,Gl⟩ (G9 a n g m x t k p r q ln co z rg q (askL m x rg q ln).length (gT (askL m x rg q ln)) (gW (askL m x rg q ln)))) (G9 a n g m x t k p r q ln co z rg q (askL m x rg q ln).length (gT (askL m x rg q ln)) (gW (askL m x rg q ln))) noL),Gl⟩,_,hA,rfl,hx,HH (HH GO),hw,Av.refl _⟩
 ·cases h
end Go.Proofs.YtkgdhhieomndeaaGreatDoor.Em
namespace Go.Proofs.YtkgdhhieomndeaaGreatDoor.Em
open Go.Sy Go Go.Proofs.YtkgdhhieomndeaaGreatDoor.Ed Go.Proofs.YtkgdhhieomndeaaGreatDoor.Sh
set_option maxRecDepth 100000
set_option maxHeartbeats 1000000
noncomputable def tb7:AK:=[(21,codeT),(22,Zn),(23,Qt),(24,Akz),(25,Akp),(26,Ad1)]
theorem tb7_ok:Aq Tryz.prog Gl tb7:=.cons p44 <| .cons p8 <| .cons Ap4 <| .cons p24 <| .cons p25 <| .cons Ap8 .nil
theorem eS {α β:Type} {L:β->α} {C:T β} {d:DT α} (s:Sh7) (w:DK L C d):DK L C (.kn (A4 s.ne λ_=>true) true (.kn (A4 s.nx λ_=>true) true (.kn (A4 s.nr λ_=>true) true (.kn (A4 s.nc λi=>A4 (s.C i).1 λ_=>true) true d)))) :=
 .k (eL _) <| .k (eL _) <| .k (eL _) <| .k (CN () ()) w
def AgG:V->List V
 | .agg (_::l)=>l
 | _=>[]
def VI (s:Sh7):Bool:=Cp s.ne s.E && (ieq s.kk (Int.ofNat (toN s.kk)) && (IG (toN s.kk) && Mw s s.nx (wsS s).y))
def AaL:List V->AE
 | [v,.str nm]=>apS v λs=>.br (BC s.ne) (.br (BG s) (.br (ieq (rtS s) 0) (.br (wrB s) (.br (Nk nm) (.br (VI s) (.leaf (.tup [Qc s nm,iV 0],Tx s)) .fail) (.leaf (.tup [O3,iV 130],KB))) .fail) (.leaf (.tup [O3,iV (rtS s)],KB))) .fail) .fail
 | _=>.fail
section
variable {s:Sh7} (h:VI s=true)
include h
theorem t7:Cp s.ne s.E=true∧ieq s.kk (Int.ofNat (toN s.kk))=true∧IG (toN s.kk)=true∧Mw s s.nx (wsS s).y=true:=by simpa only [VI,Bool.and_eq_true] using h
theorem m7:Cp s.ne s.E=true:=(t7 h).1
theorem k7:ieq s.kk (Int.ofNat (toN s.kk))=true:=(t7 h).2.1
theorem l7:IG (toN s.kk)=true:=(t7 h).2.2.1
theorem c7:Mw s s.nx (wsS s).y=true:=(t7 h).2.2.2
end
theorem LY {s:Sh7} (h:ieq (rtS s) 0=true):Cj s=true:=by
 have h:ieq (bif ieq (sel (Cj s) 0 70) 0 then (bif ieq s.arch 1 then 0 else 5) else 70) 0=true:=h;cases hc:Cj s with
 | true=>rfl
 | false=>rw [hc] at h; cases h
theorem AlQ {s:Sh7} (h:ieq (rtS s) 0=true):s.arch=1:=by
 have hc:=LY h;have h:ieq (bif ieq (sel (Cj s) 0 70) 0 then (bif ieq s.arch 1 then 0 else 5) else 70) 0=true:=h;rw [hc] at h;cases ha:ieq s.arch 1 with
 | false=>rw [ha] at h; cases h
 | true=>simpa [ieq] using ha
theorem e7 {s:Sh7} (h:ieq (rtS s) 0=true) (nm:List UInt8):((V.tup [.agg (iV 1::AgG (Qc s nm)),iV 0],Tx s):V×List Blk)=(V.tup [Qc s nm,iV 0],Tx s):=by
 unfold Qc AgG;rw [AlQ h]
theorem p7t:Ax Tryz.prog Gl 7 AaL:=by
 refine Aj A7 mixed Tryz.func7 (by kernel_rfl) (by kernel_rfl) λvs v h' h=>?_;unfold AaL at h;split at h
 ·rename_i v1 nm
  obtain ⟨s,a1,h⟩:=apS_some h;have hx:=AH tb7_ok [] (G:=Gl);exact ⟨_,AA Gl tb7 [],_,AkB a1,rfl,hx.1,hx.2,DK.of h (.g λhf=>.g λhs=>eS s <| .k hf <| .k hs <| .c (λhr=>.g λhw=>.k hr <| .k hw <| .k (eN (eI 0)) <| .c (λht=>.g λh7=>.k (eN ht)<|eS s <| .k hf <| .k hs <| .k hr <| .k hw<|eS s <| .k hf <| .k (m7 h7) <| .k (Dh nm)<|eS s <| .k hf <| .k (m7 h7)<|eS s <| .k hf <| .k (m7 h7) <| .k (Dh nm)<|eS s <| .k (k7 h7) <| .k (l7 h7)<|eS s <| .k (k7 h7) <| .k (l7 h7) <| .k (Dh nm) <| .k (eG [toN s.tt])<|eS s <| .k (eL s.nx) <| .k (c7 h7) <| .k (eR [(IZ (Eu s.nx s.X (wsS s).y s.nc (λu=>(s.C u).1)),none)]) <| .k (Dh nm) <| .e (e7 hr nm)) λht=>.k (eN ht) <| .l) λhr=>.k hr <| .k (eN hr) <| .l) (by kernel_rfl),Av.refl _⟩
 ·cases h
end Go.Proofs.YtkgdhhieomndeaaGreatDoor.Em
