/-
  The condition that some things have some values (cond.All), of things and values that may be. No conditions.
-/
import Derived.Test.YtkgdhhieomndeaaGreatDoorShW
namespace Go.Proofs.YtkgdhhieomndeaaGreatDoor.Em
open Go.Sy Go Go.Proofs.YtkgdhhieomndeaaGreatDoor.Ed Go.Proofs.YtkgdhhieomndeaaGreatDoor.Sh
open Int (ofNat)
set_option maxRecDepth 100000
noncomputable def Aqp:List V->AE:=λvs=>Ay (Ai tab (AA Gl [] []) Tryz.f122 vs [])
noncomputable def Aqo:List V->AE:=λvs=>Ay (Ai tab (AA Gl [] []) Tryz.f123 vs [])
noncomputable def tb86:AK:=(122,Aqp)::(123,Aqo)::[]
theorem tb86_ok:Aq Tryz.prog Gl tb86:=.cons (AM A7 mixed Tryz.func122 (by kernel_rfl) (by kernel_rfl) (AH Aq.nil _)) <| .cons (AM A7 mixed Tryz.func123 (by kernel_rfl) (by kernel_rfl) (AH Aq.nil _)) .nil
def Us:List (List UInt8):=[[120],[121],[122],[97],[98],[99],[100],[101],[102],[103],[104],[105],[106],[107],[108],[109]]
def U4 (l:List UInt8):Bool:=Us.any λx=>seq x l
def lp86:Lp:=⟨List.replicate 40 true,0,List.replicate 40 true,0,3⟩
theorem ZF:Us.map (λl=>(Ay (Ai tab (AA Gl tb86 [(0,lp86)]) Tryz.f96 [.str l] [])).sem)=Us.map λ_=>some (bV true,[]):=by kernel_rfl
def Q9:List V->AE
 | [.str l]=>.br (U4 l) (out (bV true)) .fail
 | _=>.fail
theorem p86:Ax Tryz.prog Gl 96 Q9:=by
 refine Aj A7 mixed Tryz.func96 (by kernel_rfl) (by kernel_rfl) λvs v h' h=>?_;unfold Q9 at h;split at h
 ·rename_i l
  obtain ⟨h1,hq⟩:=Ad h;have:=Ab hq;simp only [Prod.mk.injEq] at this;obtain ⟨rfl,rfl⟩:=this;have hx:=AH tb86_ok [(0,lp86)];obtain ⟨y,hy,e⟩:=List.any_eq_true.1 h1;have e:y=l:=by simpa [seq] using e
  subst e;exact ⟨_,AA Gl tb86 [(0,lp86)],_,Bj.refl _,rfl,hx.1,hx.2,List.map_inj_left.1 ZF y hy,Av.refl _⟩
 ·cases h
def Qu:List V->AE
 | [.val (.int .i64 a)]=>.br (ieq a 2) (out (iV 32)) .fail
 | _=>.fail
theorem Amo:(Ay (Ai tab (AA Gl [] []) Tryz.f97 [iV 2] [])).sem=some (iV 32,[]):=by kernel_rfl
theorem p87:Ax Tryz.prog Gl 97 Qu:=by
 refine Aj A7 mixed Tryz.func97 (by kernel_rfl) (by kernel_rfl) λvs v h' h=>?_;unfold Qu at h;split at h
 ·rename_i a
  obtain ⟨h1,hq⟩:=Ad h;have:=Ab hq;simp only [Prod.mk.injEq] at this;obtain ⟨rfl,rfl⟩:=this;have hx:=AH (P:=Tryz.prog) (G:=Gl) Aq.nil [];have h1:a=2:=by simpa [ieq] using h1
  subst h1;exact ⟨_,AA Gl [] [],_,Bj.refl _,rfl,hx.1,hx.2,Amo,Av.refl _⟩
 ·cases h
def FT (x:Int):Bool:=bif ile (-2147483648) x then ile x 2147483647 else false
noncomputable def NY:AK:=[]
theorem T8:Aq Tryz.prog Gl NY:=.nil
theorem Al1 (L:LT) (x:Int) (h0:ile (-2147483648) x=true):(Ay (Ai tab ⟨Am NY,L,Gl⟩ Tryz.f66 [iV x] [])).sem=some ((bV (ile x 2147483647)),[]):=by
 exact Ac (ks:=[kn h0,kn h0,kn h0]) (by kernel_rfl)
def Q5:List V->AE
 | [.val (.int .i64 a)]=>.br (FT a) (out (bV true)) .fail
 | _=>.fail
theorem p64:Ax Tryz.prog Gl 66 Q5:=by
 refine Aj A7 mixed Tryz.func66 (by kernel_rfl) (by kernel_rfl) λvs v h' h=>?_;unfold Q5 at h;split at h
 ·rename_i a
  obtain ⟨h1,hq⟩:=Ad h;have:=Ab hq;simp only [Prod.mk.injEq] at this;obtain ⟨rfl,rfl⟩:=this;have hx:=AH T8 [];unfold FT at h1;cases h2:ile (-2147483648) a with
  | false=>rw [h2] at h1; cases h1
  | true =>rw [h2] at h1;have h1:ile a 2147483647=true:=h1;have:=Al1 (AA Gl NY []).loop a h2;rw [h1] at this;exact ⟨_,AA Gl NY [],_,Bj.refl _,rfl,hx.1,hx.2,this,Av.refl _⟩
 ·cases h
def tgB (t r:Int) (l:List UInt8):Bool:=bif ieq t (-1) then (ieq r 0 && U4 l) else (ile 0 t && (ilt t 16 && (ile 0 r && (ilt r 32 && seq l []))))
noncomputable def tb63:AK:=(96,Q9)::(97,Qu)::[]
theorem tb63_ok:Aq Tryz.prog Gl tb63:=.cons p86 <| .cons p87 .nil
section
variable (L:LT) (t r:Int) (l:List UInt8)
include L t r l
theorem Al3 (h0:ieq t (-1)=true) (h1:ieq r 0=true) (h28:U4 l=true):(Ay (Ai tab ⟨Am tb63,L,Gl⟩ Tryz.f65 [iV 2,.agg [iV t,iV r,.str l]] [])).sem=some ((bV true),[]):=by
 exact Ac (ks:=[kn h0,kn h1,kn h1,kn h1,kn h28,kn h1]) (by kernel_rfl)
theorem Al2 (h0:ieq t (-1)=false) (h1:ile 0 t=true) (h2:ilt t 16=true) (h3:ile 0 r=true) (h4:ilt r 32=true):(Ay (Ai tab ⟨Am tb63,L,Gl⟩ Tryz.f65 [iV 2,.agg [iV t,iV r,.str l]] [])).sem=some ((bV (seq l [])),[]):=by
 exact Ac (ks:=[kn h0,kn h1,kn h1,kn h1,kn h1,kn h2,kn h2,kn h2,kn h2,kn h3,kn h3,kn h3,kn h3,kI 2,kn h3,kn h3,kn h4,kn h4,kn h4,kn h4]) (by kernel_rfl)
end
def tgT:List V->AE
 | [.val (.int .i64 a),.agg [.val (.int .i64 t),.val (.int .i64 r),.str l]]=>.br (ieq a 2) (.br (tgB t r l) (out (bV true)) .fail) .fail
 | _=>.fail
theorem p63:Ax Tryz.prog Gl 65 tgT:=by
 refine Aj A7 mixed Tryz.func65 (by kernel_rfl) (by kernel_rfl) λvs v h' h=>?_;unfold tgT at h;split at h
 ·rename_i a t r l
  obtain ⟨h0,h⟩:=Ad h;obtain ⟨h1,hq⟩:=Ad h;have:=Ab hq;simp only [Prod.mk.injEq] at this;obtain ⟨rfl,rfl⟩:=this;have hx:=AH tb63_ok [];have h0:a=2:=by simpa [ieq] using h0
  subst h0;unfold tgB at h1;cases h2:ieq t (-1) with
  | true =>rw [h2] at h1;simp only [cond_true,Bool.and_eq_true] at h1;exact ⟨_,AA Gl tb63 [],_,Bj.refl _,rfl,hx.1,hx.2,Al3 _ t r l h2 h1.1 h1.2,Av.refl _⟩
  | false =>rw [h2] at h1;simp only [cond_false,Bool.and_eq_true] at h1;have:=Al2 (AA Gl tb63 []).loop t r l h2 h1.1 h1.2.1 h1.2.2.1 h1.2.2.2.1;rw [h1.2.2.2.2] at this;exact ⟨_,AA Gl tb63 [],_,Bj.refl _,rfl,hx.1,hx.2,this,Av.refl _⟩
 ·cases h
structure Tg where
 th:Int
 rg:Int
 lc:List UInt8
def tgV (x:Tg):V:=.agg [iV x.th,iV x.rg,.str x.lc]
def Aej:V->Option Tg
 | .agg [.val (.int .i64 a),.val (.int .i64 b),.str l]=>some ⟨a,b,l⟩
 | _=>none
theorem Zm {v:V} {e:Tg} (h:Aej v=some e):v=tgV e:=by
 unfold Aej at h;split at h
 ·simp only [Option.some.injEq] at h
  subst h;rfl
 ·cases h
def AjN (v:V):Bool:=match Aej v with
 | some _=>true
 | none=>false
def Akx (v:V):Tg:=match Aej v with
 | some e=>e
 | none=>⟨0,0,[]⟩
theorem ZB {v:V} (h:AjN v=true):v=tgV (Akx v):=by
 unfold AjN at h;unfold Akx;split at h
 ·rename_i e he
  exact Zm he
 ·cases h
def Aob:Cod Tg:=⟨3,tgV,AjN,Akx,λv h S w c hv=>by rw [<- ZB h]; exact hv⟩
def Agh (x:V):Nat->V:=As 0 Aa x
noncomputable def tb46:AK:=(65,tgT)::(66,Q5)::[]
theorem tb46_ok:Aq Tryz.prog Gl tb46:=.cons p63 <| .cons p64 .nil
def FV (n:Nat) (X:Nat->Tg) (m:Nat) (f:Nat->Int):Lp:=⟨bmK 65 0 [0,1,4,5,6,22,23,24],2,bmK 65 0 [4,5,6],2,n+1⟩
def Rv (n:Nat) (X:Nat->Tg) (m:Nat) (f:Nat->Int) (b:Nat) (g:Nat->V) (j:Nat->V):St:=⟨jsV 65 0 j [(0,.sl 3 n λi=>tgV (X i)),(1,.sl 1 m λi=>iV (f i)),(4,.ptr 0 0),(5,iV 0),(6,.ref 1),(22,.sl 3 n λi=>tgV (X i)),(23,nV n),(24,nV b)],[.cells [iV 0,iV 0,iV 0,iV 0,.str [],iV 0,.nilS],.row 35 6 b g]⟩
def Jx (n:Nat) (X:Nat->Tg) (m:Nat) (f:Nat->Int) (b:Nat) (g:Nat->V):Ex×St:=(.ex 1,⟨jsV 65 0 Aa [(4,.ptr 0 0),(5,iV 0),(6,.ref 1)],[.cells [iV 0,iV 0,iV 0,iV 0,.str [],iV 0,.nilS],.row 35 6 b g]⟩)
noncomputable def Gh (L:LT):St->T (Ex×St):=λst=>AD tab ⟨Am tb46,L,Gl⟩ (Au Tryz.f43 1) 1 st
section
variable (L:LT) (n:Nat) (X:Nat->Tg) (m:Nat) (f:Nat->Int) (b:Nat) (g:Nat->V)  (j:Nat->V)
include L n X m f b g j
theorem Apf (h0:ilt (ofNat b) (ofNat n)=false):Al (Gh L) (FV n X m f) (Rv n X m f b g j)=some ((.ex 1),⟨jsV 65 0 Aa [(4,.ptr 0 0),(5,iV 0),(6,.ref 1)],[.cells [iV 0,iV 0,iV 0,iV 0,.str [],iV 0,.nilS],.row 35 6 b g]⟩):=by
 exact Ac (ks:=[kn h0]) (by kernel_rfl)
theorem Ape (h0:ilt (ofNat b) (ofNat n)=true) (h27:ile 0 (ofNat b)=true) (h28:tgB (X b).th (X b).rg (X b).lc=true) (h29:Ao (ile 0 (ofNat b)) (ilt (ofNat b) (ofNat m))=true) (h30:FT (f b)=true) (h31:Bn b 1 72=true):Al (Gh L) (FV n X m f) (Rv n X m f b g j)=some (.nm,⟨jsV 65 0 Aa [(0,.sl 3 n (λi=>.agg [iV (X i).th,iV (X i).rg,.str (X i).lc])),(1,.sl 1 m (λi=>iV (f i))),(4,.ptr 0 0),(5,iV 0),(6,.ref 1),(22,.sl 3 n (λi=>.agg [iV (X i).th,iV (X i).rg,.str (X i).lc])),(23,nV n),(24,iV (wr .i64 (Ak (ofNat b) 1)))],[.cells [iV 0,iV 0,iV 0,iV 0,.str [],iV 0,.nilS],.row 35 6 (AV b 1) (As b g (.agg [iV 2,iV (X b).th,iV (X b).rg,.str (X b).lc,iV (f b),.nilS]))]⟩):=by
 exact Ac (ks:=[kn h0,kA (kn h27) (kn h0),kI 2,kn h28,kN kT,kN kT,kN kT,kn h29,kN kT,kN kT,kn h30,kN kT,kN kT,kN kT,kn h29,kn h31]) (by kernel_rfl)
end
def ent46 (n:Nat) (X:Nat->Tg) (m:Nat) (f:Nat->Int) :St:=⟨jsV 65 0 (λ_=>A9) [(0,.sl 3 n (λi=>.agg [iV (X i).th,iV (X i).rg,.str (X i).lc])),(1,.sl 1 m (λi=>iV (f i))),(4,.ptr 0 0),(5,iV 0),(6,.ref 1),(10,bV (A5 (ieq (ofNat n) (ofNat m)))),(11,.sl 3 n (λi=>.agg [iV (X i).th,iV (X i).rg,.str (X i).lc])),(12,nV n),(13,.sl 1 m (λi=>iV (f i))),(14,nV m),(15,bV (A5 (ieq (ofNat n) (ofNat m)))),(17,bV (ilt 1023 (ofNat n))),(18,.sl 3 n (λi=>.agg [iV (X i).th,iV (X i).rg,.str (X i).lc])),(19,nV n),(20,bV (ilt 1023 (ofNat n))),(22,.sl 3 n (λi=>.agg [iV (X i).th,iV (X i).rg,.str (X i).lc])),(23,nV n),(24,iV 0)],[.cells [iV 0,iV 0,iV 0,iV 0,.str [],iV 0,.nilS],.row 35 6 0 Aa]⟩
section
variable (L:LT) (p1:PT) (n:Nat) (X:Nat->Tg) (m:Nat) (f:Nat->Int) (b:Nat) (g:Nat->V)
include L p1 n X m f b g
theorem AoB (h0:ieq (ofNat n) (ofNat m)=true) (h1:ilt 1023 (ofNat n)=false) (h2:ieq (ofNat b) 0=true) (hp1:p1 (Gh (onP 1 p1 (Jx n X m f b g) L)) (ent46 n X m f)=true):(Ay (Ai tab ⟨Am tb46,onP 1 p1 (Jx n X m f b g) L,Gl⟩ Tryz.f43 [.sl 3 n λi=>tgV (X i),.sl 1 m λi=>iV (f i)] [])).sem=some ((.tup [.agg [iV 1,iV 1,iV 0,iV 0,.str [],iV 0,.ref 0],iV 0]),[.row 35 6 0 Aa]):=by
 exact Ac (ks:=[kN (kn h0),kn h1,kn hp1,kn h2]) (by kernel_rfl)
theorem AoC (h0:ieq (ofNat n) (ofNat m)=true) (h1:ilt 1023 (ofNat n)=false) (h2:ieq (ofNat b) 0=false) (h3:ieq (ofNat b) 1=false) (hp1:p1 (Gh (onP 1 p1 (Jx n X m f b g) L)) (ent46 n X m f)=true):(Ay (Ai tab ⟨Am tb46,onP 1 p1 (Jx n X m f b g) L,Gl⟩ Tryz.f43 [.sl 3 n λi=>tgV (X i),.sl 1 m λi=>iV (f i)] [])).sem=some ((.tup [.agg [iV 1,iV 4,iV 0,iV 0,.str [],iV 0,.ref 0],iV 0]),[.row 35 6 b g]):=by
 exact Ac (ks:=[kN (kn h0),kn h1,kn hp1,kn h2,kn h3]) (by kernel_rfl)
end
noncomputable abbrev Wp (L:LT) (p1:PT) (n:Nat) (X:Nat->Tg) (m:Nat) (f:Nat->Int):LT:=onP 1 p1 (Jx n X m f 1 (Agh (.agg [iV 2,iV (X 0).th,iV (X 0).rg,.str (X 0).lc,iV (f 0),.nilS]))) L
theorem w46o (L:LT) (p1:PT) (n:Nat) (X:Nat->Tg) (m:Nat) (f:Nat->Int) (h0:ieq (ofNat n) (ofNat m)=true) (h1:ilt 1023 (ofNat n)=false) (hp1:p1 (Gh (Wp L p1 n X m f)) (ent46 n X m f)=true):(Ay (Ai tab ⟨Am tb46,Wp L p1 n X m f,Gl⟩ Tryz.f43 [.sl 3 n λi=>tgV (X i),.sl 1 m λi=>iV (f i)] [])).sem=some ((.tup [.agg [iV 1,iV 2,iV (X 0).th,iV (X 0).rg,.str (X 0).lc,iV (f 0),.ref 0],iV 0]),[.row 35 6 0 Aa]):=Og (bbK 7 116) [A5 (ieq (ofNat n) (ofNat m)),ilt 1023 (ofNat n),p1 (Gh (Wp L p1 n X m f)) (ent46 n X m f),ieq 1 0,ieq 1 1,Ao (ile 0 0) (ilt 0 1),nlt 0 1] (by kernel_rfl) (by simp only [hp1] <;> simp only [h0,h1,Br] <;> rfl)
def BQ (X:Nat->Tg) (f:Nat->Int) (i:Nat):V:=.agg [iV 2,iV (X i).th,iV (X i).rg,.str (X i).lc,iV (f i),.nilS]
theorem run46 (L:LT) (n:Nat) (X:Nat->Tg) (f:Nat->Int) (hn:n <= 1023) (hX:∀ i,i<n->tgB (X i).th (X i).rg (X i).lc=true) (hf:∀ i,i<n->FT (f i)=true):∀ (d i:Nat) (j:Nat->V) (q:Nat),n=i+d->d<q ->
  (A3 (Gh L) (FV n X n f) q (Rv n X n f i (By (BQ X f) i) j)).sem=some (Jx n X n f n (By (BQ X f) n))
 | 0,i,j,q+1,h,_=>by
  have:n=i:=by omega
  subst this;exact Ae (Apf L n X n f n _ j (Aw (Nat.le_refl _)))
 | d+1,i,j,q+1,h,h2=>by
  have hi:i<n:=by omega
  rw [Ae (Ape L n X n f i _ j (ofNat_lt hi) (AX i) (hX i hi) (Ag hi) (hf i hi) (decide_eq_true (by omega))),A6,Ap hi (by omega)];exact run46 L n X f hn hX hf d (i+1) Aa q (by omega) (by omega)
def PD (n:Nat):Int:=bif Nat.beq n 0 then 1 else bif Nat.beq n 1 then 2 else 4
def IZ (n:Nat):Nat:=bif Nat.ble n 1 then 0 else n
def DJ (n:Nat) (X:Nat->Tg):Tg:=bif Nat.beq n 1 then X 0 else ⟨0,0,[]⟩
def PE (n:Nat) (f:Nat->Int):Int:=bif Nat.beq n 1 then f 0 else 0
def allT:List V->AE
 | [v,u]=>apG Aob v λn X=>apG SR u λm f=>.br (AW n m) (.br (Nat.ble n 1023) (.br (A4 n λi=>tgB (X i).th (X i).rg (X i).lc) (.br (A4 n λi=>FT (f i))
   (.leaf (.tup [.agg [iV 1,iV (PD n),iV (DJ n X).th,iV (DJ n X).rg,.str (DJ n X).lc,iV (PE n f),.ref 0],iV 0],[.row 35 6 (IZ n) (BQ X f)])) .fail) .fail) .fail) .fail
 | _=>.fail
theorem ent46_eq (n:Nat) (X:Nat->Tg) (m:Nat) (f:Nat->Int):ent46 n X m f=Rv n X m f 0 (By (BQ X f) 0) (λi=>nth (ent46 n X m f).t i):=by kernel_rfl
theorem p46:Ax Tryz.prog Gl 43 allT:=by
 refine Aj A7 mixed Tryz.func43 (by kernel_rfl) (by kernel_rfl) λvs v h' h=>?_;unfold allT at h;split at h
 ·rename_i v0 u0
  obtain ⟨n,X,ha,h⟩:=Bz h;obtain ⟨m,f,hb,h⟩:=Bz h;obtain ⟨h1,h⟩:=Ad h;obtain ⟨h2,h⟩:=Ad h;obtain ⟨h3,h⟩:=Ad h;obtain ⟨h4,h⟩:=Ad h;have:=Ab h;simp only [Prod.mk.injEq] at this;obtain ⟨rfl,rfl⟩:=this;have h1:n=m:=Nat.eq_of_beq_eq_true h1;subst h1;have h2:n <= 1023:=Nat.le_of_ble_eq_true h2;have h3:=λi (hi:i<n)=>A0.1 h3 i hi;have h4:=λi (hi:i<n)=>A0.1 h4 i hi;have hA:Bj [v0,u0] [.sl 3 n λi=>tgV (X i),.sl 1 n λi=>iV (f i)]:=λS w cs hv=>by
   obtain ⟨c,l,rfl,q1,d,l',rfl,q2,q3⟩:=hv;exact ⟨c,_,rfl,ha S w c q1,d,_,rfl,hb S w d q2,q3⟩
  have hx:=AH tb46_ok [(1,FV n X n f)];have hL:=AQ [(1,FV n X n f)];have hr:=λM=>run46 M n X f h2 h3 h4 n 0 (λi=>nth (ent46 n X n f).t i) (n+1) (by omega) (Nat.lt_succ_self _);have e1:ieq (ofNat n) (ofNat n)=true:=by simp [ieq]
  have e2:ilt 1023 (ofNat n)=false:=by rw [show (1023:Int)=ofNat 1023 from rfl,BP]; exact decide_eq_false (by omega)
  have rle:∀ (g:Nat->V),Av [Blk.row 35 6 0 Aa] [Blk.row 35 6 0 g]:=λg=>Av.one λj hj=>absurd hj (Nat.not_lt_zero _);have hn:n=0 ∨ n=1 ∨ ∃ k,n=k+2:=by
   rcases n with _ | _ | k
   ·exact .inl rfl
   ·exact .inr (.inl rfl)
   ·exact .inr (.inr ⟨k,rfl⟩)
  rcases hn with rfl | rfl | ⟨k,rfl⟩
  ·have hw:=AP (AI hL hL) _ (AoB (Ba [(1,FV 0 X 0 f)]) _ 0 X 0 f 0 (By (BQ X f) 0) e1 e2 rfl (Az (by rw [ent46_eq]; exact hr _)))
   exact ⟨_,AA Gl tb46 [(1,FV 0 X 0 f)],_,hA,rfl,hx.1,hx.2,hw,rle _⟩
  ·have hw:=AP (AI hL hL) _ (w46o (Ba [(1,FV 1 X 1 f)]) _ 1 X 1 f e1 e2 (Az (by rw [ent46_eq]; exact hr _)))
   exact ⟨_,AA Gl tb46 [(1,FV 1 X 1 f)],_,hA,rfl,hx.1,hx.2,hw,rle _⟩
  ·have e3:ieq (ofNat (k+2)) 0=false:=by simp [ieq]; omega
   have e4:ieq (ofNat (k+2)) 1=false:=by simp [ieq]; omega
   have hw:=AP (AI hL hL) _ (AoC (Ba [(1,FV (k+2) X (k+2) f)]) _ (k+2) X (k+2) f (k+2) (By (BQ X f) (k+2)) e1 e2 e3 e4 (Az (by rw [ent46_eq]; exact hr _)));exact ⟨_,AA Gl tb46 [(1,FV (k+2) X (k+2) f)],_,hA,rfl,hx.1,hx.2,hw,Av.one λj hj=>(FQ (BQ X f) (k+2) j hj).symm⟩
 ·cases h
end Go.Proofs.YtkgdhhieomndeaaGreatDoor.Em
namespace Go.Proofs.YtkgdhhieomndeaaGreatDoor.Sh
open Go.Sy Ed
open Int (ofNat)
set_option maxHeartbeats 1000000
set_option maxRecDepth 100000
noncomputable def Ak0 (n:Nat) (f:Nat->E6):Bool:=@decide (∃ a,IsCycle a n f) (Classical.propDecidable _)
theorem Vk {n:Nat} {f:Nat->E6}:Ak0 n f=true↔∃ a,IsCycle a n f:=by
 unfold Ak0;exact @decide_eq_true_iff _ (Classical.propDecidable _)
noncomputable def Ai7:AK:=(47,Ib)::(78,BW λe=>bV (AB e))::(69,Jc)::[]
theorem Aey:Aq Tryz.prog Gl Ai7:=.cons p93 <| .cons p60 <| .cons p69 .nil
section
variable (n:Nat) (f:Nat->E6)
def h53 (l:List Blk):List Blk:=.row 92 6 0 Aa :: .row 92 6 n (λi=>eV (AY n f i))::l
def S53 (c:Int) (_:Unit):St:=⟨jsV 27 0 Aa [(2,.ref 0),(3,.ref 1),(5,iV c)],h53 n f []⟩
def E53 (q:Int):Ex×St:=(.rt,⟨jsV 27 0 Aa [(2,.ref 2)],h53 n f [.row 92 6 n (λi=>eV (AT n (λi=>AY n f i) q i))]⟩)
def AnE:Ex×St:=(.ex 0,⟨jsV 27 0 Aa [(2,.ref 0)],h53 n f []⟩)
def g53 (i:Nat) (_:Unit):T (Unit ⊕ (Ex×St)):=.br (AB (AY n f i)) (.leaf (.inr (E53 n f (wr .i64 (Ak (ofNat i) 1))))) (.leaf (.inl ()))
end
def Anf:Lp:=⟨bmK 27 0 [2,3,5],2,bmK 27 0 [2],3,4611686018427387905⟩
def AjY:List (Nat×Lp×List (Nat×(Nat->V))):=[(0,Anf,[])]
noncomputable def B53 (L:LT):St->T (Ex×St):=λst=>AD tab ⟨Am Ai7,L,Gl⟩ (Au Tryz.f53 0) 0 st
theorem r53 (L:LT) {n:Nat} {f:Nat->E6} (hf:BC n=true) (hn:n <= 16) (h1:Cq (λi=>AB (AY n f i)) n<n) (h2:AB (AY n f (Cq (λi=>AB (AY n f i)) n))=true) (h3:∀ i,i<Cq (λi=>AB (AY n f i)) n->AB (AY n f i)=false) :
  (A3 (B53 L) Anf 4611686018427387905 (S53 n f 0 ())).sem=some (E53 n f (ofNat (Cq (λi=>AB (AY n f i)) n+1))):=by
 rw [<- Ap (n:=n) h1 (by omega)];exact Bq (R:=exR) BZ (S:=λc a _=>S53 n f c a) (j:=λ_=>.und) (g:=g53 n f) (fin:=λ_=>AnE n f) (e:=E53 n f (wr .i64 (Ak (ofNat (Cq (λi=>AB (AY n f i)) n)) 1))) (n:=n) (by omega)
  (λi a j r hi he=>DK.ok (L:=goR (λc a _=>S53 n f c a) exR i) (.k (ofNat_lt hi) <| .k (Ag hi) <| .k (decide_eq_true hi) <| .c (λh1=>.k h1 <| .k (eL n) <| .k hf <| .k (eR [(n,none)]) .l) λh1=>.k h1 .l) (by kernel_rfl) he)
  (λa j=>DK.ok (C:=.leaf (AnE n f)) (L:=exR) (.k (Aw (Nat.le_refl n)) .l) (by kernel_rfl) rfl) (Nat.zero_add _).symm (by omega)
  (FB (acc:=λ_=>()) (m:=Cq (λi=>AB (AY n f i)) n) (λi hi=>by unfold g53; rw [h3 i hi]; rfl) (by unfold g53; rw [h2]; rfl) n 0 (by omega) (by omega))
theorem Zl {n k:Nat}:Eh n (ofNat k)=k % n:=by
 unfold Eh;rw [DW];have:ilt (ofNat (k % n)) 0=false:=by simp [ilt]; omega
 rw [this];rfl
noncomputable def Adw:List V->AE:=Gs λn f=>.br (BC n) (.br (Ak0 n f) (.leaf (.ref 0,[.row 92 6 n λi=>eV (shG n f i)])) .fail) .fail
theorem p56:Ax Tryz.prog Gl 53 Adw:=by
 refine Aj A7 mixed Tryz.func53 (by kernel_rfl) (by kernel_rfl) λvs v h' h=>?_;obtain ⟨n,f,ha,h⟩:=C7 h;obtain ⟨hn,h⟩:=Ad h;obtain ⟨hc,h⟩:=Ad h;have:=Ab h;simp only [Prod.mk.injEq] at this;obtain ⟨rfl,rfl⟩:=this;obtain ⟨a,hy⟩:=Vk.1 hc;have hhi:=hy.hi;obtain ⟨z1,z2,z3,z4⟩:=HA hy;have hx:=D2 Aey AjY (G:=Gl);refine ⟨_,cxA Gl Ai7 AjY,_,ha,rfl,hx.1,hx.2,DK.of (C:=.leaf (.ref 0,[.row 92 6 n λi=>eV (AT n (λi=>AY n f i) (ofNat (Cq (λi=>AB (AY n f i)) n+1)) i)])) rfl (.k (eL n) <| .k hn <| .k hy.may <| .a (r53 (Go.Sy.askL AjY) hn hhi z1 z2 z3) .l) (by kernel_rfl),Av.one λi hi=>?_⟩
 rw [Fz hi];unfold AT shQ;rw [Zl]
def Io (n:Nat) (g:Nat->E6) (x:Nat->Ev5) (lc:Int) (i:Nat):Bool:=Ao (ieq (x i).loc lc) (AN (g ((i+(n-1)) % n)))
def Mo (n:Nat) (g:Nat->E6) (x:Nat->Ev5) (lc:Int):Int:=bif decide (Cq (Io n g x lc) n<n) then ofNat (Cq (Io n g x lc) n) else -1
noncomputable def Ai3:AK:=(79,BW λe=>bV (AN e))::[]
theorem Aem:Aq Tryz.prog Gl Ai3:=.cons p61 .nil
section
variable (s:Sh7) (lc:Int)
def shB (s:Sh7):List V:=[iV s.arch,.sl 6 s.ne (λi=>eV (s.E i)),.sl 5 s.ne (λi=>evV (s.X i)),iV s.tt,iV s.kk,.sl 1 s.nr (λi=>iV (s.R i)),.sl 1 s.nc (λu=>.sl 1 (s.C u).1 (λi=>iV ((s.C u).2 i)))]
def S83 (c:Int) (_:Unit):St:=⟨jsV 37 0 Aa [(1,iV lc),(2,.ptr 0 0),(4,iV 0),(5,iV (ofNat s.ne)),(6,iV c)],[.cells (shB s)]⟩
def E83 (e:Ex) (v:Int):Ex×St:=(e,⟨jsV 37 0 Aa [(4,iV v)],[]⟩)
def g83 (i:Nat) (_:Unit):T (Unit ⊕ (Ex×St)):=.br (ieq (s.X i).loc lc) (.br (AN (s.E (toN (yB s.ne i)))) (.leaf (.inr (E83 .rt (ofNat i)))) (.leaf (.inl ()))) (.leaf (.inl ()))
end
def Ane:Lp:=⟨bmK 37 0 [1,2,4,5,6],1,bmK 37 0 [4],0,4611686018427387905⟩
def AjX:List (Nat×Lp×List (Nat×(Nat->V))):=[(0,Ane,[])]
noncomputable def B83 (L:LT):St->T (Ex×St):=λst=>AD tab ⟨Am Ai3,L,Gl⟩ (Au Tryz.f83 0) 0 st
theorem AcM {σ ρ:Type} {g:Nat->σ->T (σ ⊕ ρ)} {fin:σ->ρ} {q:Nat->Bool} {a:σ} {x:Nat->ρ} {n:Nat} (hc:∀ i,i<n->(g i a).sem=sel (q i) (some (.inr (x i))) (some (.inl a))):BR g fin n 0 a=some (bif decide (Cq q n<n) then x (Cq q n) else fin a):=by
 by_cases h:∃ k,k<n∧q k=true
 ·obtain ⟨k,hk,hq⟩:=h
  obtain ⟨h1,h2,h3⟩:=DC hk hq;rw [decide_eq_true (show Cq q n<n by omega)];exact FB (acc:=λ_=>a) (m:=Cq q n) (λi hi=>by rw [hc i (by omega),h3 i hi]; rfl) (by rw [hc _ (by omega),h2]; rfl) n 0 (by omega) (by omega)
 ·have h0:∀ i,i<n->q i=false:=λi hi=>by
   cases hq:q i with
   | false=>rfl
   | true=>exact absurd ⟨i,hi,hq⟩ h
  rw [Hn h0,decide_eq_false (Nat.lt_irrefl n)];exact FZ (acc:=λ_=>a) (λi hi=>by rw [hc i hi,h0 i hi]; rfl) n 0 (Nat.zero_add n)
theorem r83 (L:LT) (s:Sh7) (lc:Int) (hn:s.ne <= 4611686018427387904):(A3 (B83 L) Ane 4611686018427387905 (S83 s lc 0 ())).sem=some (exR (bif decide (Cq (Io s.ne s.E s.X lc) s.ne<s.ne) then E83 .rt (ofNat (Cq (Io s.ne s.E s.X lc) s.ne)) else E83 (.ex 0) 0)) :=
 Bq (R:=exR) BZ (S:=λc a _=>S83 s lc c a) (j:=λ_=>.und) (g:=g83 s lc) (fin:=λ_=>E83 (.ex 0) 0) (n:=s.ne) hn
  (λi a j r hi he=>DK.ok (L:=goR (λc a _=>S83 s lc c a) exR i) (.k (ofNat_lt hi) <| .k (Ag hi) <| .c (λh1=>.r 8 h1 <| .k (KE hi) <| .k h1 <| .k (Vt hi hn) <| .r 3 h1 <| .c (λh2=>.k h2 .l) λh2=>.k h2 .l) λh1=>.r 12 h1 <| .k eF .l) (by kernel_rfl) he)
  (λa j=>DK.ok (C:=.leaf (E83 (.ex 0) 0)) (L:=exR) (.k (Aw (Nat.le_refl s.ne)) .l) (by kernel_rfl) rfl) (Nat.zero_add _).symm (Nat.lt_succ_of_le hn)
  (AcM (x:=λi=>E83 .rt (ofNat i)) λi hi=>by
   have hx:=L8 (a:=i) (n:=s.ne) (by omega) (by omega);unfold g83 Io;rw [show yB s.ne i=_ from hx];show sel _ (sel (AN (s.E ((i+(s.ne-1)) % s.ne))) _ _) _=_;cases ieq (s.X i).loc lc <;> cases AN (s.E ((i+(s.ne-1)) % s.ne)) <;> rfl)
def WR:List V->AE
 | [v,.val (.int .i64 lc)]=>apS v λs=>.br (AW s.nx s.ne) (.br (Af s.ne) (.leaf (iV (Mo s.ne s.E s.X lc),[])) .fail) .fail
 | _=>.fail
def C83 (s:Sh7) (lc:Int):AE:=.br (decide (Cq (Io s.ne s.E s.X lc) s.ne<s.ne)) (.leaf (iV (ofNat (Cq (Io s.ne s.E s.X lc) s.ne)),[])) (.leaf (iV (-1),[]))
theorem Ag7 (s:Sh7) (lc:Int):(C83 s lc).sem=some (iV (Mo s.ne s.E s.X lc),[]):=by
 unfold C83 Mo;cases decide (Cq (Io s.ne s.E s.X lc) s.ne<s.ne) <;> rfl
theorem p95:Ax Tryz.prog Gl 83 WR:=by
 refine Aj A7 mixed Tryz.func83 (by kernel_rfl) (by kernel_rfl) λvs v h' h=>?_;unfold WR at h;split at h
 ·rename_i u lc
  obtain ⟨s,ha,h⟩:=apS_some h;obtain ⟨h1,h⟩:=Ad h;obtain ⟨h2,h⟩:=Ad h;have:=Ab h;simp only [Prod.mk.injEq] at this;obtain ⟨rfl,rfl⟩:=this;have h1:s.nx=s.ne:=Nat.eq_of_beq_eq_true h1;have hn:s.ne <= 4611686018427387904:=of_decide_eq_true h2;have e:VS s = .agg (shB s):=by
   unfold VS shB;rw [h1];rfl
  rw [e] at ha;have R:=λq (h:decide (Cq (Io s.ne s.E s.X lc) s.ne<s.ne)=q)=>(r83 (Go.Sy.askL AjX) s lc hn).trans (congrArg (λq=>some (exR (bif q then E83 .rt (ofNat (Cq (Io s.ne s.E s.X lc) s.ne)) else E83 (.ex 0) 0))) h);have hx:=D2 Aem AjX (G:=Gl);exact ⟨_,cxA Gl Ai3 AjX,_,AkB ha,rfl,hx.1,hx.2,DK.of (Ag7 s lc) (.c (λh=>.a (R true h) .l) λh=>.a (R false h) .l) (by kernel_rfl),Av.refl _⟩
 ·cases h
noncomputable def Ai6:AK:=(83,WR)::[]
theorem X8:Aq Tryz.prog Gl Ai6:=.cons p95 .nil
theorem FU {p q:Nat->Bool} {n:Nat} (h:∀ i,i<n->p i=q i):Cq p n=Cq q n:=by
 by_cases hp:∃ k,k<n∧p k=true
 ·obtain ⟨k,hk,hpk⟩:=hp
  obtain ⟨h1,h2,h3⟩:=DC hk hpk;exact (N5 (p:=q) (by omega) (by rw [<- h _ (by omega)]; exact h2) (λi hi=>by rw [<- h i (by omega)]; exact h3 i hi)).symm
 ·have h1:∀ i,i<n->p i=false:=λi hi=>by
   cases hpi:p i with
   | false=>rfl
   | true=>exact absurd ⟨i,hi,hpi⟩ hp
  rw [Hn h1,Hn λi hi=>by rw [<- h i hi]; exact h1 i hi]
theorem ZT {n:Nat} {g:Nat->E6} {d:Nat->Bool} {k:Nat} (hk:k<kkN n g):Mo n g (evF n g d) (ofNat k)=ofNat (stN (mbF g) n k):=by
 have:Cq (Io n g (evF n g d) (ofNat k)) n=stN (mbF g) n k:=FU λi hi=>by
  unfold Io;rw [CH hi,AfN hi,DD,Bool.and_comm];rfl
 unfold Mo;rw [this,decide_eq_true (FL hk).1];rfl
def Aiu (ts:List V):List V:=CO 12 (kill.kills 11 ts)
abbrev dR (n:Nat) (g:Nat->E6):Nat->Nat->Nat->Bool:=dnF n g (loN n g)
def lnR (n:Nat) (g:Nat->E6) (b k:Nat):Nat:=bif Nat.blt k b then lnN (mbF g) (wrF g) n k else 0
def coR (n:Nat) (g:Nat->E6) (b k q:Nat):V:=bif Nat.blt k b then (bif Nat.blt q (lnN (mbF g) (wrF g) n k) then iV (ofNat (coN (mbF g) (wrF g) n k q)) else .und) else .und
section
variable (A:Int) (n:Nat) (g:Nat->E6) (th lo:Nat->Int) (tt:Int) (k:Nat)
def cE4:Blk:=.cells [iV A,.ref 1,.ref 5,iV tt,iV (ofNat (kkN n g)),.ref 6,.jref 7]
def hpX (x r:Nat->V):List Blk:=[.cells [iV 0,.nilS,.nilS,iV 0,iV 0,.nilS,.nilS],.row 92 6 n (λi=>eV (g i)),.row 3 1 n (λi=>iV (th i)),.row 3 1 n (λi=>iV (lo i)),cE4 A n g tt,.row 80 5 n x,.row 3 1 n r,.jag ⟨24,1,k,λ_=>.und,0,3,1,λ_=>true,lnR n g k,λu q=>coR n g k u q⟩]
def zI:Int:=Mo n g (evF n g (dR n g k 0)) (ofNat k)
def zN:Nat:=stN (mbF g) n k
def xR (i:Nat):Int:=Ar (wr .i64 (Ak (zI n g k) (ofNat i))) (ofNat n)
def wvR (t q:Nat):V:=bif Nat.blt q (wcN (wrF g) n (zN n g k) t) then iV (ofNat (coN (mbF g) (wrF g) n k q)) else .und
variable (ts:List V)
def hpY (x r:Nat->V) (m:Nat) (w:Nat->V) (ts:List V):List Blk:=hpX A n g th lo tt k x r++[.saved ts,cE4 A n g tt,.cells [iV 0,.nilS,.nilS,iV 0,iV 0,.nilS,.nilS],.row 3 1 m w]
def hpT (t:Nat) (ts:List V):List Blk:=hpY A n g th lo tt k (λi=>evV (evF n g (dR n g k t) i)) (λi=>iV (rfF n g (dR n g k t) i)) (wcN (wrF g) n (zN n g k) t) (λq=>wvR n g k t q) ts
def T56 (la:V) (c:Int) (h:List Blk):St:=⟨jsV 79 0 Aa [(1,nV k),(2,.ptr 9 0),(4,.ptr 10 0),(5,.ref 11),(6,nV n),(7,iV (zI n g k)),(8,la),(9,iV c)],h⟩
def S56 (c:Int) (_:Unit):St:=T56 n g k (iV (wlN (wrF g) n (zN n g k) (toN c))) c (hpT A n g th lo tt k (toN c) ts)
def E56 (t:Nat) (ts:List V):Ex×St:=(.ex 0,⟨jsV 79 0 Aa [(2,.ptr 9 0),(4,.ptr 10 0),(5,.ref 11)],hpT A n g th lo tt k t ts⟩)
def g56 (i:Nat) (_:Unit):T (Unit ⊕ Nat):=.br (ieq (evF n g (dR n g k i) (toN (xR n g k i))).loc (ofNat k)) (.br (nlt i (Cl (mbF g) n (zN n g k))) (.br (ieq (evF n g (dR n g k i) (toN (xR n g k i))).dir 2) (.leaf (.inl ())) (.leaf (.inl ()))) .fail) (.leaf (.inr i))
end
def lp56:Lp:=⟨bmK 79 0 [1,2,4,5,6,7,8,9],12,bmK 79 0 [2,4,5],12,4611686018427387905⟩
def Afw:List (Nat×Lp×List (Nat×(Nat->V))):=[(0,lp56,[])]
noncomputable def B56 (L:LT):St->T (Ex×St):=λst=>AD tab ⟨Am Ai6,L,Gl⟩ (Au Tryz.f56 0) 0 st
section
variable {n:Nat} {g:Nat->E6} {k:Nat} (hk:k<kkN n g)
include hk
theorem AkM:zI n g k=ofNat (zN n g k):=ZT hk
theorem zk:zN n g k<n∧Dy (mbF g) n (zN n g k)=true∧loN n g (zN n g k)=k:=⟨(FL hk).1,(FL hk).2.1,(FL hk).2.2.1⟩
variable (hn:n <= 16)
include hn
theorem Tr {i:Nat} (hi:i<n):xR n g k i=ofNat (rnd n (zN n g k) i)∧rnd n (zN n g k) i<n:=by
 have:=(zk hk).1;unfold xR;rw [AkM hk,Fb (by omega),DW];exact ⟨rfl,HD (by omega)⟩
theorem Tq {i:Nat} (hi:i<n):Ao (ile 0 (xR n g k i)) (ilt (xR n g k i) (ofNat n))=true:=by
 obtain ⟨e,h⟩:=Tr hk hn hi;rw [e];exact Ag h
theorem Tp {i:Nat} (hi:i<n):nlt (toN (xR n g k i)) n=true:=by
 obtain ⟨e,h⟩:=Tr hk hn hi;rw [e];exact decide_eq_true h
variable {t:Nat}
theorem AjZ (hl:t<Cl (mbF g) n (zN n g k)):ieq (evF n g (dR n g k t) (toN (xR n g k t))).loc (ofNat k)=true:=by
 obtain ⟨z1,z2,z3⟩:=zk hk;have hln:=(Dj z1 z2).2.1;obtain ⟨e,h⟩:=Tr hk hn (show t<n by omega);rw [e,show toN (ofNat (rnd n (zN n g k) t))=rnd n (zN n g k) t from rfl,CH h];show ieq (loF n g _) _=true;rw [AfN h,show loN n g (rnd n (zN n g k) t)=loN n g (zN n g k) from (Hj (mbF g) n).same (EW z1 z2 hl),DD];exact decide_eq_true z3
theorem Af1 (hl:Cl (mbF g) n (zN n g k)=t) (ht:t<n):ieq (evF n g (dR n g k t) (toN (xR n g k t))).loc (ofNat k)=false:=by
 obtain ⟨z1,z2,z3⟩:=zk hk;obtain ⟨l1,l2,l3,l4⟩:=Dj z1 z2;obtain ⟨e,h⟩:=Tr hk hn ht;rw [e,show toN (ofNat (rnd n (zN n g k) t))=rnd n (zN n g k) t from rfl,CH h];show ieq (loF n g _) _=false;rw [AfN h,DD];refine decide_eq_false λhe=>?_;have hs:Dy (mbF g) n (rnd n (zN n g k) t)=true:=by
  unfold Dy;rw [Gx,show t+(n-1)=(t-1)+n by omega,TW,<- hl];exact l3
 have h2:=(Hj (mbF g) n).apart h z1 hs z2 (he.trans z3.symm);have:=AeR z1 ht (by omega) (show rnd n (zN n g k) t=rnd n (zN n g k) 0 by rw [h2,TX z1]);omega
theorem ApS {fin:Unit->Nat} (hf:fin ()=n):BR (g56 n g k) fin n 0 ()=some (Cl (mbF g) n (zN n g k)):=by
 obtain ⟨z1,z2,_⟩:=zk hk;obtain ⟨l1,l2,_⟩:=Dj z1 z2;have e:∀ i,i<Cl (mbF g) n (zN n g k)->(g56 n g k i ()).sem=some (.inl ()):=λi hi=>by
  unfold g56;rw [AjZ hk hn hi,show nlt i (Cl (mbF g) n (zN n g k))=true from decide_eq_true hi];cases ieq (evF n g (dR n g k i) (toN (xR n g k i))).dir 2 <;> rfl
 rcases Nat.lt_or_ge (Cl (mbF g) n (zN n g k)) n with h | h
 ·exact FB (acc:=λ_=>()) e (by unfold g56; rw [Af1 hk hn rfl h]; rfl) n 0 (by omega) (by omega)
 ·have h:Cl (mbF g) n (zN n g k)=n:=by omega
  rw [h] at e ⊢;have:=FZ (fin:=fin) (acc:=λ_=>()) e n 0 (Nat.zero_add n);rw [hf] at this;exact this
variable (A:Int) (th lo:Nat->Int) (tt:Int) (ts:List V)
theorem Aa3 (hl:t<Cl (mbF g) n (zN n g k)):t<n∧xR n g k t=ofNat (rnd n (zN n g k) t)∧rnd n (zN n g k) t<n∧(∀ j,dR n g k (t+1) j=(decide (j=rnd n (zN n g k) t) || dR n g k t j))∧wcN (wrF g) n (zN n g k) t <= t:=by
 obtain ⟨z1,z2,z3⟩:=zk hk;have hln:=(Dj z1 z2).2.1;have hdn:=Vh (Hj (mbF g) n) z1 z2 hl;rw [show AZ (mbF g) n (zN n g k)=k from z3] at hdn;exact ⟨by omega,(Tr hk hn (by omega)).1,HD (by omega),hdn,Bm _ _⟩
theorem AhH (hl:t<Cl (mbF g) n (zN n g k)):ieq (evF n g (dR n g k t) (toN (xR n g k t))).dir 2=wrF g (rnd n (zN n g k) t):=by
 obtain ⟨_,h2,h3,_⟩:=Aa3 hk hn hl;rw [h2,show toN (ofNat (rnd n (zN n g k) t))=rnd n (zN n g k) t from rfl,CH h3];rfl
theorem Aqi (hl:t<Cl (mbF g) n (zN n g k)):Bn (wcN (wrF g) n (zN n g k) t) 1 8=true:=by
 obtain ⟨h1,_,_,_,h5⟩:=Aa3 hk hn hl;exact C0 (by omega)
theorem Aax (hl:t<Cl (mbF g) n (zN n g k)) (hw:wrF g (rnd n (zN n g k) t)=true):As (wcN (wrF g) n (zN n g k) t) (λq=>wvR n g k t q) (iV (ofNat (rnd n (zN n g k) t)))=λq=>wvR n g k (t+1) q:=by
 obtain ⟨h1,_⟩:=Aa3 hk hn hl;funext q;rw [Bo];unfold wvR;rw [Aa4 hw];by_cases hq:q=wcN (wrF g) n (zN n g k) t
 ·subst hq
  rw [Nat.beq_refl,show Nat.blt (wcN (wrF g) n (zN n g k) t) (wcN (wrF g) n (zN n g k) t+1)=true from Nat.ble_eq_true_of_le (Nat.le_refl _)];unfold coN;rw [show stN (mbF g) n k=zN n g k from rfl,X1 h1 hw];rfl
 ·rw [nbeq_ne hq]
  have:Nat.blt q (wcN (wrF g) n (zN n g k) t+1)=Nat.blt q (wcN (wrF g) n (zN n g k) t):=by
   rw [Bool.eq_iff_iff];simp only [Nat.blt_eq];omega
  rw [this];rfl
theorem AmV (hl:t<Cl (mbF g) n (zN n g k)) (hw:wrF g (rnd n (zN n g k) t)=true) (hT:Aiu ts=ts):T56 n g k (iV (xR n g k t)) (wr .i64 (Ak (ofNat t) 1)) (hpY A n g th lo tt k (Wo n g (dR n g k t) (toN (xR n g k t)) (ofNat (AV (wcN (wrF g) n (zN n g k) t) 1))) (λi=>iV (rfF n g (dR n g k t) i)) (AV (wcN (wrF g) n (zN n g k) t) 1) (As (wcN (wrF g) n (zN n g k) t) (λq=>wvR n g k t q) (iV (xR n g k t))) (Aiu ts))=S56 A n g th lo tt k ts (wr .i64 (Ak (ofNat t) 1)) ():=by
 obtain ⟨z1,z2,_⟩:=zk hk;obtain ⟨h1,h2,h3,h4,_⟩:=Aa3 hk hn hl;rw [h2,Ap (n:=n) h1 (by omega),hT,show toN (ofNat (rnd n (zN n g k) t))=rnd n (zN n g k) t from rfl,Aax hk hn hl hw,show AV (wcN (wrF g) n (zN n g k) t) 1=wcN (wrF g) n (zN n g k) t+1 from rfl,<- Aa4 hw,
  show Wo n g (dR n g k t) (rnd n (zN n g k) t) (ofNat (wcN (wrF g) n (zN n g k) (t+1)))=λi=>evV (evF n g (dR n g k (t+1)) i) from WU h3 h4 (by rw [Rk (EW z1 z2 hl)]),<- XN h4 hw,<- AkW hw]
 rfl
theorem AmW (hl:t<Cl (mbF g) n (zN n g k)) (hw:wrF g (rnd n (zN n g k) t)=false) (hT:CO 12 ts=ts):T56 n g k (iV (wlN (wrF g) n (zN n g k) t)) (wr .i64 (Ak (ofNat t) 1)) (hpY A n g th lo tt k (Wo n g (dR n g k t) (toN (xR n g k t)) (ofNat (wcN (wrF g) n (zN n g k) t))) (BH (λi=>iV (rfF n g (dR n g k t) i)) (toN (xR n g k t)) (iV (wlN (wrF g) n (zN n g k) t))) (wcN (wrF g) n (zN n g k) t) (λq=>wvR n g k t q) (CO 12 ts))=S56 A n g th lo tt k ts (wr .i64 (Ak (ofNat t) 1)) ():=by
 obtain ⟨z1,z2,_⟩:=zk hk;obtain ⟨h1,h2,h3,h4,_⟩:=Aa3 hk hn hl;have hv:=EW z1 z2 hl;have ew:(λq=>wvR n g k t q)=λq=>wvR n g k (t+1) q:=by
  funext q;unfold wvR;rw [Aa5 hw]
 rw [h2,Ap (n:=n) h1 (by omega),hT,show toN (ofNat (rnd n (zN n g k) t))=rnd n (zN n g k) t from rfl,ew,Ab8 h4 (Ahc hv hw).symm,<- Aa5 hw,
  show Wo n g (dR n g k t) (rnd n (zN n g k) t) (ofNat (wcN (wrF g) n (zN n g k) (t+1)))=λi=>evV (evF n g (dR n g k (t+1)) i) from WU h3 h4 (by rw [Rk hv]),<- AkX hw]
 rfl
theorem r56 (hT:Aiu ts=ts) (hU:CO 12 ts=ts):(A3 (B56 (Go.Sy.askL Afw)) lp56 4611686018427387905 (S56 A n g th lo tt k ts 0 ())).sem=some (E56 A n g th lo tt k (Cl (mbF g) n (zN n g k)) ts) :=
 Bq (R:=λt=>E56 A n g th lo tt k t ts) (λ_ h=>by cases h) (S:=λc a _=>S56 A n g th lo tt k ts c a) (j:=λ_=>.und) (g:=g56 n g k) (fin:=λ_=>n) (n:=n) (by omega)
  (λi a j r hi he=>DK.ok (L:=goR (λc a _=>S56 A n g th lo tt k ts c a) (λt=>E56 A n g th lo tt k t ts) i) (.r 7 (ofNat_lt hi) <| .k (KE hi) <| .k (ofNat_lt hi) <| .k (Tq hk hn hi) <| .r 2 (ofNat_lt hi) <| .k (Tp hk hn hi) <| .r 3 (ofNat_lt hi) <|
   .c (λh1=>.k h1 <| .g λhl=>.k (KE hi) <| .k (Tq hk hn hi) <| .k (Tp hk hn hi) <| .c (λh2=>.k h2 <| .k (Aqi hk hn (of_decide_eq_true hl)) <| .k (Tq hk hn hi) <| .k (Tp hk hn hi) <| .e (congrArg (Prod.mk Ex.nm) (AmV hk hn A th lo tt ts (of_decide_eq_true hl) ((AhH hk hn (of_decide_eq_true hl)).symm.trans h2) hT)))
    λh2=>.k h2 <| .k (Tq hk hn hi) <| .k (Tp hk hn hi) <| .k (Tq hk hn hi) <| .k (Tp hk hn hi) <| .e (congrArg (Prod.mk Ex.nm) (AmW hk hn A th lo tt ts (of_decide_eq_true hl) ((AhH hk hn (of_decide_eq_true hl)).symm.trans h2) hU)))
   λh1=>.k h1 <| .e (congrArg (E56 A n g th lo tt k i) hU)) (by kernel_rfl) he)
  (λa j=>DK.ok (C:=.leaf n) (L:=λt=>E56 A n g th lo tt k t ts) (.r 13 (Aw (Nat.le_refl n)) <| .k eF <| .e (congrArg (E56 A n g th lo tt k n) hU)) (by kernel_rfl) rfl) (Nat.zero_add _).symm (by omega) (ApS hk hn rfl)
end
end Go.Proofs.YtkgdhhieomndeaaGreatDoor.Sh
