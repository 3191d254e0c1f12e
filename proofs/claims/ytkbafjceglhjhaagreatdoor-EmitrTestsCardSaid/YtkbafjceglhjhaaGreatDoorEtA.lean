/-
  The condition that some things have some values (cond.All), of things and values that may be. No conditions.
-/
import Derived.Test.YtkbafjceglhjhaaGreatDoorShW
import Derived.Test.YtkbafjceglhjhaaGreatDoorEsF
namespace Go.Proofs.YtkbafjceglhjhaaGreatDoor.Em
open Go.Sy Go Go.Proofs.YtkbafjceglhjhaaGreatDoor.Ed Go.Proofs.YtkbafjceglhjhaaGreatDoor.Sh
open Int (ofNat)
set_option maxRecDepth 100000
noncomputable def Atk:List V->A5:=λvs=>A0 (Aj tab (AO Gl [] []) Tryz.f186 vs [])
noncomputable def Atj:List V->A5:=λvs=>A0 (Aj tab (AO Gl [] []) Tryz.f187 vs [])
noncomputable def tb86:A7:=(186,Atk)::(187,Atj)::[]
theorem tb86_ok:Ao Tryz.prog Gl tb86:=.cons (AM A2 mixed Tryz.func186 (by kernel_rfl) (by kernel_rfl) (Bh Ao.nil _)) <| .cons (AM A2 mixed Tryz.func187 (by kernel_rfl) (by kernel_rfl) (Bh Ao.nil _)) .nil
def Y4:List (List UInt8):=[[120],[121],[122],[97],[98],[99],[100],[101],[102],[103],[104],[105],[106],[107],[108],[109]]
def UY (l:List UInt8):Bool:=Y4.any λx=>seq x l
def lp86:Lp:=⟨List.replicate 40 true,0,List.replicate 40 true,0,3⟩
theorem Aai:Y4.map (λl=>(A0 (Aj tab (AO Gl tb86 [(0,lp86)]) Tryz.f158 [.str l] [])).sem)=Y4.map λ_=>some (bV true,[]):=by kernel_rfl
def Ade:List V->A5
 | [.str l]=>.br (UY l) (out (bV true)) .fail
 | _=>.fail
theorem p86:Ap Tryz.prog Gl 158 Ade:=by
 refine Ah A2 mixed Tryz.func158 (by kernel_rfl) (by kernel_rfl) λvs v h' h=>?_;unfold Ade at h;split at h
 ·rename_i l
  obtain ⟨h1,hq⟩:=Ac h;have:=Ab hq;simp only [Prod.mk.injEq] at this;obtain ⟨rfl,rfl⟩:=this;have hx:=Bh tb86_ok [(0,lp86)];obtain ⟨y,hy,e⟩:=List.any_eq_true.1 h1;have e:y=l:=by simpa [seq] using e
  subst e;exact ⟨_,AO Gl tb86 [(0,lp86)],_,Ba.refl _,rfl,hx.1,hx.2,List.map_inj_left.1 Aai y hy,Am.refl _⟩
 ·cases h
def QG:List V->A5
 | [.val (.int .i64 a)]=>.br (ieq a 2) (out (iV 32)) .fail
 | _=>.fail
theorem Aor:(A0 (Aj tab (AO Gl [] []) Tryz.f159 [iV 2] [])).sem=some (iV 32,[]):=by kernel_rfl
theorem p87:Ap Tryz.prog Gl 159 QG:=by
 refine Ah A2 mixed Tryz.func159 (by kernel_rfl) (by kernel_rfl) λvs v h' h=>?_;unfold QG at h;split at h
 ·rename_i a
  obtain ⟨h1,hq⟩:=Ac h;have:=Ab hq;simp only [Prod.mk.injEq] at this;obtain ⟨rfl,rfl⟩:=this;have hx:=Bh (P:=Tryz.prog) (G:=Gl) Ao.nil [];have h1:a=2:=by simpa [ieq] using h1
  subst h1;exact ⟨_,AO Gl [] [],_,Ba.refl _,rfl,hx.1,hx.2,Aor,Am.refl _⟩
 ·cases h
def HH (x:Int):Bool:=bif ile (-2147483648) x then ile x 2147483647 else false
noncomputable def Yb:A7:=[]
theorem Ab0:Ao Tryz.prog Gl Yb:=.nil
theorem Arj (L:LT) (x:Int) (h0:ile (-2147483648) x=true):(A0 (Aj tab ⟨Aw Yb,L,Gl⟩ Tryz.f113 [iV x] [])).sem=some ((bV (ile x 2147483647)),[]):=by
 exact Ae (ks:=[kn h0,kn h0,kn h0]) (by kernel_rfl)
def QS:List V->A5
 | [.val (.int .i64 a)]=>.br (HH a) (out (bV true)) .fail
 | _=>.fail
theorem p64:Ap Tryz.prog Gl 113 QS:=by
 refine Ah A2 mixed Tryz.func113 (by kernel_rfl) (by kernel_rfl) λvs v h' h=>?_;unfold QS at h;split at h
 ·rename_i a
  obtain ⟨h1,hq⟩:=Ac h;have:=Ab hq;simp only [Prod.mk.injEq] at this;obtain ⟨rfl,rfl⟩:=this;have hx:=Bh Ab0 [];unfold HH at h1;cases h2:ile (-2147483648) a with
  | false=>rw [h2] at h1; cases h1
  | true =>rw [h2] at h1;have h1:ile a 2147483647=true:=h1;have:=Arj (AO Gl Yb []).loop a h2;rw [h1] at this;exact ⟨_,AO Gl Yb [],_,Ba.refl _,rfl,hx.1,hx.2,this,Am.refl _⟩
 ·cases h
def tgB (t r:Int) (l:List UInt8):Bool:=bif ieq t (-1) then (ieq r 0 && UY l) else (ile 0 t && (ilt t 16 && (ile 0 r && (ilt r 32 && seq l []))))
noncomputable def tb63:A7:=(158,Ade)::(159,QG)::[]
theorem tb63_ok:Ao Tryz.prog Gl tb63:=.cons p86 <| .cons p87 .nil
theorem Ark (L:LT) (t r:Int) (l:List UInt8) (h0:ieq t (-1)=false) (h1:ile 0 t=true) (h2:ilt t 16=true) (h3:ile 0 r=true) (h4:ilt r 32=true):(A0 (Aj tab ⟨Aw tb63,L,Gl⟩ Tryz.f112 [iV 2,.agg [iV t,iV r,.str l]] [])).sem=some ((bV (seq l [])),[]):=by
 exact Ae (ks:=[kn h0,kn h1,kn h1,kn h1,kn h1,kn h2,kn h2,kn h2,kn h2,kn h3,kn h3,kn h3,kn h3,kI 2,kn h3,kn h3,kn h4,kn h4,kn h4,kn h4]) (by kernel_rfl)
def tgT:List V->A5
 | [.val (.int .i64 a),.agg [.val (.int .i64 t),.val (.int .i64 r),.str l]]=>.br (ieq a 2) (.br (tgB t r l) (out (bV true)) .fail) .fail
 | _=>.fail
theorem p63:Ap Tryz.prog Gl 112 tgT:=by
 refine Ah A2 mixed Tryz.func112 (by kernel_rfl) (by kernel_rfl) λvs v h' h=>?_;unfold tgT at h;split at h
 ·rename_i a t r l
  obtain ⟨h0,h⟩:=Ac h;obtain ⟨h1,hq⟩:=Ac h;have:=Ab hq;simp only [Prod.mk.injEq] at this;obtain ⟨rfl,rfl⟩:=this;have hx:=Bh tb63_ok [];have h0:a=2:=by simpa [ieq] using h0
  subst h0;unfold tgB at h1;cases h2:ieq t (-1) with
  | true =>rw [h2] at h1;simp only [cond_true,Bool.and_eq_true] at h1;exact ⟨_,AO Gl tb63 [],_,Ba.refl _,rfl,hx.1,hx.2,Ae (ks:=[kn h2,kn h1.1,kn h1.1,kn h1.1,kn h1.2,kn h1.1]) (by kernel_rfl)/-W:w63a-/,Am.refl _⟩
  | false =>rw [h2] at h1;simp only [cond_false,Bool.and_eq_true] at h1;have:=Ark (AO Gl tb63 []).loop t r l h2 h1.1 h1.2.1 h1.2.2.1 h1.2.2.2.1;rw [h1.2.2.2.2] at this;exact ⟨_,AO Gl tb63 [],_,Ba.refl _,rfl,hx.1,hx.2,this,Am.refl _⟩
 ·cases h
structure Tg where
 th:Int
 rg:Int
 lc:List UInt8
def tgV (x:Tg):V:=.agg [iV x.th,iV x.rg,.str x.lc]
def Afr:V->Option Tg
 | .agg [.val (.int .i64 a),.val (.int .i64 b),.str l]=>some ⟨a,b,l⟩
 | _=>none
theorem ZB {v:V} {e:Tg} (h:Afr v=some e):v=tgV e:=by
 unfold Afr at h;split at h
 ·simp only [Option.some.injEq] at h
  subst h;rfl
 ·cases h
def AlQ (v:V):Bool:=match Afr v with
 | some _=>true
 | none=>false
def Am4 (v:V):Tg:=match Afr v with
 | some e=>e
 | none=>⟨0,0,[]⟩
theorem Aad {v:V} (h:AlQ v=true):v=tgV (Am4 v):=by
 unfold AlQ at h;unfold Am4;split at h
 ·rename_i e he
  exact ZB he
 ·cases h
def Ajy:Cod Tg:=⟨3,tgV,AlQ,Am4,λv h S w c hv=>by rw [<- Aad h]; exact hv⟩
def AsF (x:V):Nat->V:=AD 0 Aa x
noncomputable def Ue:A7:=(112,tgT)::(113,QS)::[]
theorem AfB:Ao Tryz.prog Gl Ue:=.cons p63 <| .cons p64 .nil
def G4 (n:Nat) (X:Nat->Tg) (m:Nat) (f:Nat->Int):Lp:=⟨bmK 65 0 [0,1,4,5,6,22,23,24],2,bmK 65 0 [4,5,6],2,n+1⟩
def RX (n:Nat) (X:Nat->Tg) (m:Nat) (f:Nat->Int) (b:Nat) (g:Nat->V) (j:Nat->V):St:=⟨jsV 65 0 j [(0,.sl 3 n λi=>tgV (X i)),(1,.sl 1 m λi=>iV (f i)),(4,.ptr 0 0),(5,iV 0),(6,.ref 1),(22,.sl 3 n λi=>tgV (X i)),(23,nV n),(24,nV b)],[.cells [iV 0,iV 0,iV 0,iV 0,.str [],iV 0,.nilS],.row 46 6 b g]⟩
def JC (n:Nat) (X:Nat->Tg) (m:Nat) (f:Nat->Int) (b:Nat) (g:Nat->V):Ex×St:=(.ex 1,⟨jsV 65 0 Aa [(4,.ptr 0 0),(5,iV 0),(6,.ref 1)],[.cells [iV 0,iV 0,iV 0,iV 0,.str [],iV 0,.nilS],.row 46 6 b g]⟩)
noncomputable def GB (L:LT):St->T (Ex×St):=λst=>AA tab ⟨Aw Ue,L,Gl⟩ (As Tryz.f71 1) 1 st
section
variable (L:LT) (n:Nat) (X:Nat->Tg) (m:Nat) (f:Nat->Int) (b:Nat) (g:Nat->V)  (j:Nat->V)
include L n X m f b g j
theorem ArA (h0:ilt (ofNat b) (ofNat n)=false):Au (GB L) (G4 n X m f) (RX n X m f b g j)=some ((.ex 1),⟨jsV 65 0 Aa [(4,.ptr 0 0),(5,iV 0),(6,.ref 1)],[.cells [iV 0,iV 0,iV 0,iV 0,.str [],iV 0,.nilS],.row 46 6 b g]⟩):=by
 exact Ae (ks:=[kn h0]) (by kernel_rfl)
theorem Ar9 (h0:ilt (ofNat b) (ofNat n)=true) (h27:ile 0 (ofNat b)=true) (h28:tgB (X b).th (X b).rg (X b).lc=true) (h29:Al (ile 0 (ofNat b)) (ilt (ofNat b) (ofNat m))=true) (h30:HH (f b)=true) (h31:Bs b 1 72=true):Au (GB L) (G4 n X m f) (RX n X m f b g j)=some (.nm,⟨jsV 65 0 Aa [(0,.sl 3 n (λi=>.agg [iV (X i).th,iV (X i).rg,.str (X i).lc])),(1,.sl 1 m (λi=>iV (f i))),(4,.ptr 0 0),(5,iV 0),(6,.ref 1),(22,.sl 3 n (λi=>.agg [iV (X i).th,iV (X i).rg,.str (X i).lc])),(23,nV n),(24,iV (wr .i64 (Ai (ofNat b) 1)))],[.cells [iV 0,iV 0,iV 0,iV 0,.str [],iV 0,.nilS],.row 46 6 (AE b 1) (AD b g (.agg [iV 2,iV (X b).th,iV (X b).rg,.str (X b).lc,iV (f b),.nilS]))]⟩):=by
 exact Ae (ks:=[kn h0,kA (kn h27) (kn h0),kI 2,kn h28,kN kT,kN kT,kN kT,kn h29,kN kT,kN kT,kn h30,kN kT,kN kT,kN kT,kn h29,kn h31]) (by kernel_rfl)
end
def P6 (n:Nat) (X:Nat->Tg) (m:Nat) (f:Nat->Int) :St:=⟨jsV 65 0 (λ_=>AK) [(0,.sl 3 n (λi=>.agg [iV (X i).th,iV (X i).rg,.str (X i).lc])),(1,.sl 1 m (λi=>iV (f i))),(4,.ptr 0 0),(5,iV 0),(6,.ref 1),(10,bV (AQ (ieq (ofNat n) (ofNat m)))),(11,.sl 3 n (λi=>.agg [iV (X i).th,iV (X i).rg,.str (X i).lc])),(12,nV n),(13,.sl 1 m (λi=>iV (f i))),(14,nV m),(15,bV (AQ (ieq (ofNat n) (ofNat m)))),(17,bV (ilt 1023 (ofNat n))),(18,.sl 3 n (λi=>.agg [iV (X i).th,iV (X i).rg,.str (X i).lc])),(19,nV n),(20,bV (ilt 1023 (ofNat n))),(22,.sl 3 n (λi=>.agg [iV (X i).th,iV (X i).rg,.str (X i).lc])),(23,nV n),(24,iV 0)],[.cells [iV 0,iV 0,iV 0,iV 0,.str [],iV 0,.nilS],.row 46 6 0 Aa]⟩
section
variable (L:LT) (p1:PT) (n:Nat) (X:Nat->Tg) (m:Nat) (f:Nat->Int) (b:Nat) (g:Nat->V)
include L p1 n X m f b g
theorem Arl (h0:ieq (ofNat n) (ofNat m)=true) (h1:ilt 1023 (ofNat n)=false) (h2:ieq (ofNat b) 0=true) (hp1:p1 (GB (onP 1 p1 (JC n X m f b g) L)) (P6 n X m f)=true):(A0 (Aj tab ⟨Aw Ue,onP 1 p1 (JC n X m f b g) L,Gl⟩ Tryz.f71 [.sl 3 n λi=>tgV (X i),.sl 1 m λi=>iV (f i)] [])).sem=some ((.tup [.agg [iV 1,iV 1,iV 0,iV 0,.str [],iV 0,.ref 0],iV 0]),[.row 46 6 0 Aa]):=by
 exact Ae (ks:=[kN (kn h0),kn h1,kn hp1,kn h2]) (by kernel_rfl)
theorem Arm (h0:ieq (ofNat n) (ofNat m)=true) (h1:ilt 1023 (ofNat n)=false) (h2:ieq (ofNat b) 0=false) (h3:ieq (ofNat b) 1=false) (hp1:p1 (GB (onP 1 p1 (JC n X m f b g) L)) (P6 n X m f)=true):(A0 (Aj tab ⟨Aw Ue,onP 1 p1 (JC n X m f b g) L,Gl⟩ Tryz.f71 [.sl 3 n λi=>tgV (X i),.sl 1 m λi=>iV (f i)] [])).sem=some ((.tup [.agg [iV 1,iV 4,iV 0,iV 0,.str [],iV 0,.ref 0],iV 0]),[.row 46 6 b g]):=by
 exact Ae (ks:=[kN (kn h0),kn h1,kn hp1,kn h2,kn h3]) (by kernel_rfl)
end
noncomputable abbrev WJ (L:LT) (p1:PT) (n:Nat) (X:Nat->Tg) (m:Nat) (f:Nat->Int):LT:=onP 1 p1 (JC n X m f 1 (AsF (.agg [iV 2,iV (X 0).th,iV (X 0).rg,.str (X 0).lc,iV (f 0),.nilS]))) L
theorem Arn (L:LT) (p1:PT) (n:Nat) (X:Nat->Tg) (m:Nat) (f:Nat->Int) (h0:ieq (ofNat n) (ofNat m)=true) (h1:ilt 1023 (ofNat n)=false) (hp1:p1 (GB (WJ L p1 n X m f)) (P6 n X m f)=true):(A0 (Aj tab ⟨Aw Ue,WJ L p1 n X m f,Gl⟩ Tryz.f71 [.sl 3 n λi=>tgV (X i),.sl 1 m λi=>iV (f i)] [])).sem=some ((.tup [.agg [iV 1,iV 2,iV (X 0).th,iV (X 0).rg,.str (X 0).lc,iV (f 0),.ref 0],iV 0]),[.row 46 6 0 Aa]):=AbC (bbK 7 116) [AQ (ieq (ofNat n) (ofNat m)),ilt 1023 (ofNat n),p1 (GB (WJ L p1 n X m f)) (P6 n X m f),ieq 1 0,ieq 1 1,Al (ile 0 0) (ilt 0 1),nlt 0 1] (by kernel_rfl) (by simp only [hp1] <;> simp only [h0,h1,Vf] <;> rfl)
def ED (X:Nat->Tg) (f:Nat->Int) (i:Nat):V:=.agg [iV 2,iV (X i).th,iV (X i).rg,.str (X i).lc,iV (f i),.nilS]
theorem Ai7 (L:LT) (n:Nat) (X:Nat->Tg) (f:Nat->Int) (hn:n <= 1023) (hX:∀ i,i<n->tgB (X i).th (X i).rg (X i).lc=true) (hf:∀ i,i<n->HH (f i)=true):∀ (d i:Nat) (j:Nat->V) (q:Nat),n=i+d->d<q ->
  (Av (GB L) (G4 n X n f) q (RX n X n f i (BW (ED X f) i) j)).sem=some (JC n X n f n (BW (ED X f) n))
 | 0,i,j,q+1,h,_=>by
  have:n=i:=by omega
  subst this;exact Af (ArA L n X n f n _ j (A1 (Nat.le_refl _)))
 | d+1,i,j,q+1,h,h2=>by
  have hi:i<n:=by omega
  rw [Af (Ar9 L n X n f i _ j (ofNat_lt hi) (Cf i) (hX i hi) (Ad hi) (hf i hi) (decide_eq_true (by omega))),AT,A3 hi (by omega)];exact Ai7 L n X f hn hX hf d (i+1) Aa q (by omega) (by omega)
def XJ (n:Nat):Int:=bif Nat.beq n 0 then 1 else bif Nat.beq n 1 then 2 else 4
def LV (n:Nat):Nat:=bif Nat.ble n 1 then 0 else n
def I7 (n:Nat) (X:Nat->Tg):Tg:=bif Nat.beq n 1 then X 0 else ⟨0,0,[]⟩
def XK (n:Nat) (f:Nat->Int):Int:=bif Nat.beq n 1 then f 0 else 0
def allT:List V->A5
 | [v,u]=>apG Ajy v λn X=>apG LF u λm f=>.br (BN n m) (.br (Nat.ble n 1023) (.br (AV n λi=>tgB (X i).th (X i).rg (X i).lc) (.br (AV n λi=>HH (f i))
   (.leaf (.tup [.agg [iV 1,iV (XJ n),iV (I7 n X).th,iV (I7 n X).rg,.str (I7 n X).lc,iV (XK n f),.ref 0],iV 0],[.row 46 6 (LV n) (ED X f)])) .fail) .fail) .fail) .fail
 | _=>.fail
theorem P5 (n:Nat) (X:Nat->Tg) (m:Nat) (f:Nat->Int):P6 n X m f=RX n X m f 0 (BW (ED X f) 0) (λi=>nth (P6 n X m f).t i):=by kernel_rfl
theorem p46:Ap Tryz.prog Gl 71 allT:=by
 refine Ah A2 mixed Tryz.func71 (by kernel_rfl) (by kernel_rfl) λvs v h' h=>?_;unfold allT at h;split at h
 ·rename_i v0 u0
  obtain ⟨n,X,ha,h⟩:=B0 h;obtain ⟨m,f,hb,h⟩:=B0 h;obtain ⟨h1,h⟩:=Ac h;obtain ⟨h2,h⟩:=Ac h;obtain ⟨h3,h⟩:=Ac h;obtain ⟨h4,h⟩:=Ac h;have:=Ab h;simp only [Prod.mk.injEq] at this;obtain ⟨rfl,rfl⟩:=this;have h1:n=m:=Nat.eq_of_beq_eq_true h1;subst h1;have h2:n <= 1023:=Nat.le_of_ble_eq_true h2;have h3:=λi (hi:i<n)=>A8.1 h3 i hi;have h4:=λi (hi:i<n)=>A8.1 h4 i hi;have hA:Ba [v0,u0] [.sl 3 n λi=>tgV (X i),.sl 1 n λi=>iV (f i)]:=λS w cs hv=>by
   obtain ⟨c,l,rfl,q1,d,l',rfl,q2,q3⟩:=hv;exact ⟨c,_,rfl,ha S w c q1,d,_,rfl,hb S w d q2,q3⟩
  have hx:=Bh AfB [(1,G4 n X n f)];have hL:=Bb [(1,G4 n X n f)];have hr:=λM=>Ai7 M n X f h2 h3 h4 n 0 (λi=>nth (P6 n X n f).t i) (n+1) (by omega) (Nat.lt_succ_self _);have e1:ieq (ofNat n) (ofNat n)=true:=by simp [ieq]
  have e2:ilt 1023 (ofNat n)=false:=by rw [show (1023:Int)=ofNat 1023 from rfl,Cw]; exact decide_eq_false (by omega)
  have rle:∀ (g:Nat->V),Am [Blk.row 46 6 0 Aa] [Blk.row 46 6 0 g]:=λg=>Am.one λj hj=>absurd hj (Nat.not_lt_zero _);have hn:n=0 ∨ n=1 ∨ ∃ k,n=k+2:=by
   rcases n with _ | _ | k
   ·exact .inl rfl
   ·exact .inr (.inl rfl)
   ·exact .inr (.inr ⟨k,rfl⟩)
  rcases hn with rfl | rfl | ⟨k,rfl⟩
  ·have hw:=AW (AX hL hL) _ (Arl (BC [(1,G4 0 X 0 f)]) _ 0 X 0 f 0 (BW (ED X f) 0) e1 e2 rfl (A4 (by rw [P5]; exact hr _)))
   exact ⟨_,AO Gl Ue [(1,G4 0 X 0 f)],_,hA,rfl,hx.1,hx.2,hw,rle _⟩
  ·have hw:=AW (AX hL hL) _ (Arn (BC [(1,G4 1 X 1 f)]) _ 1 X 1 f e1 e2 (A4 (by rw [P5]; exact hr _)))
   exact ⟨_,AO Gl Ue [(1,G4 1 X 1 f)],_,hA,rfl,hx.1,hx.2,hw,rle _⟩
  ·have e3:ieq (ofNat (k+2)) 0=false:=by simp [ieq]; omega
   have e4:ieq (ofNat (k+2)) 1=false:=by simp [ieq]; omega
   have hw:=AW (AX hL hL) _ (Arm (BC [(1,G4 (k+2) X (k+2) f)]) _ (k+2) X (k+2) f (k+2) (BW (ED X f) (k+2)) e1 e2 e3 e4 (A4 (by rw [P5]; exact hr _)));exact ⟨_,AO Gl Ue [(1,G4 (k+2) X (k+2) f)],_,hA,rfl,hx.1,hx.2,hw,Am.one λj hj=>(HE (ED X f) (k+2) j hj).symm⟩
 ·cases h
end Go.Proofs.YtkbafjceglhjhaaGreatDoor.Em
namespace Go.Proofs.YtkbafjceglhjhaaGreatDoor.Er
open Go.Sy Go Go.Proofs.YtkbafjceglhjhaaGreatDoor.Ed Go.Proofs.YtkbafjceglhjhaaGreatDoor.Sh Go.Proofs.YtkbafjceglhjhaaGreatDoor.Em
open Int (ofNat)
set_option maxRecDepth 100000
set_option maxHeartbeats 1000000
def N2 (l:List UInt8) (i:Nat):Bool:=ilt (ER l i) 33 || (ilt 126 (ER l i) || ieq (ER l i) 34)
def Qk (l:List UInt8):Bool:=isN (AN (N2 l) (Bq l) 0) && (ile 1 (ofNat (Bq l)) && ile (ofNat (Bq l)) 1024)
theorem Kg {l:List UInt8} {i:Nat} (h:N2 l i=false):ilt (ER l i) 33=false∧ilt 126 (ER l i)=false∧ieq (ER l i) 34=false:=by
 unfold N2 at h;simpa only [Bool.or_eq_false_iff] using h
theorem Aj1 {l:List UInt8} {i:Nat} (h:N2 l i=true):ilt (ER l i) 33=true ∨ (ilt (ER l i) 33=false∧ilt 126 (ER l i)=true) ∨ (ilt (ER l i) 33=false∧ilt 126 (ER l i)=false∧ieq (ER l i) 34=true):=by
 unfold N2 at h;revert h;cases ilt (ER l i) 33 <;> cases ilt 126 (ER l i) <;> cases ieq (ER l i) 34 <;> simp
def ZE:List V->A5
 | [.str l]=>.br (Aq (Bq l)) (.leaf (bV (Qk l),[])) .fail
 | _=>.fail
section
variable (l:List UInt8)
def T46 (c:Int):St:=⟨jsV 34 0 Aa [(0,.str l),(5,iV (ofNat (Bq l))),(6,iV c)],[]⟩
def f46:Ex×St:=(.ex 0,⟨jsV 34 0 Aa [(0,.str l)],[]⟩)
def x46:Ex×St:=(.rt,⟨jsV 34 0 Aa [(0,.str l),(2,bV false)],[]⟩)
def T50 (c:Int):St:=⟨jsV 34 0 Aa [(0,.str l),(3,iV c)],[]⟩
def f50 (_:List UInt8):Ex×St:=(.ex 0,⟨jsV 34 0 Aa [],[]⟩)
def x50 (_:List UInt8):Ex×St:=(.rt,⟨jsV 34 0 Aa [(2,bV false)],[]⟩)
end
def ApJ:Lp:=⟨bmK 34 0 [0,5,6],0,bmK 34 0 [0,2],0,4611686018427387905⟩
def lp50:Lp:=⟨bmK 34 0 [0,3],0,bmK 34 0 [2],0,4611686018427387905⟩
def AgH:List (Nat×Lp×List (Nat×(Nat->V))):=[(0,ApJ,[])]
def AgG:List (Nat×Lp×List (Nat×(Nat->V))):=[(0,lp50,[])]
noncomputable def B46 (L:LT):St->T (Ex×St):=λst=>AA tab ⟨Aw tb0,L,Gl⟩ (As Tryz.f46 0) 0 st
noncomputable def B50 (L:LT):St->T (Ex×St):=λst=>AA tab ⟨Aw tb0,L,Gl⟩ (As Tryz.f50 0) 0 st
theorem r46 {l:List UInt8} (hl:Bq l <= 4611686018427387904):(Av (B46 (Go.Sy.askL AgH)) ApJ 4611686018427387905 (T46 l 0)).sem=some (match AN (N2 l) (Bq l) 0 with
  | none=>f46 l
  | some _=>x46 l) :=
 Mz (S:=λi=>T46 l (ofNat i)) (x:=λ_=>x46 l) (show (Ex.ex 0) ≠ .nm from nofun) (λ_=>(show Ex.rt ≠ .nm from nofun)) (λi hi h=>DW.rd (.k (ofNat_lt hi) <| .k (Ad hi) <| .r 3 (Kg h).1 <| .k (Ad hi) <| .r 2 (Kg h).1 <| .r 3 (Kg h).2.1 <| .k (Ad hi) <| .r 2 (Kg h).2.1 <| .k (Kg h).2.2 <| .e (nm1 (f:=T46 l) (D6 (by omega)))) (by kernel_rfl))
  (λi hi h=>by
   rcases Aj1 h with h1 | ⟨h1,h2⟩ | ⟨h1,h2,h3⟩
   ·exact DW.rd (.k (ofNat_lt hi) <| .k (Ad hi) <| .r 5 h1 <| .r 6 eT <| .l) (by kernel_rfl)
   ·exact DW.rd (.k (ofNat_lt hi) <| .k (Ad hi) <| .r 3 h1 <| .k (Ad hi) <| .r 2 h1 <| .r 5 h2 <| .k eT <| .l) (by kernel_rfl)
   ·exact DW.rd (.k (ofNat_lt hi) <| .k (Ad hi) <| .r 3 h1 <| .k (Ad hi) <| .r 2 h1 <| .r 3 h2 <| .k (Ad hi) <| .r 2 h2 <| .k h3 <| .l) (by kernel_rfl))
  (DW.rd (.k (DY (Bq l)) .l) (by kernel_rfl)) (by omega)
theorem r50 {l:List UInt8} (hl:Bq l <= 4611686018427387904):(Av (B50 (Go.Sy.askL AgG)) lp50 4611686018427387905 (T50 l 0)).sem=some (match AN (N2 l) (Bq l) 0 with
  | none=>f50 l
  | some _=>x50 l) :=
 Mz (S:=λi=>T50 l (ofNat i)) (x:=λ_=>x50 l) (show (Ex.ex 0) ≠ .nm from nofun) (λ_=>(show Ex.rt ≠ .nm from nofun)) (λi hi h=>DW.rd (.k (ofNat_lt hi) <| .k (Ad hi) <| .r 3 (Kg h).1 <| .k (Ad hi) <| .r 2 (Kg h).1 <| .r 3 (Kg h).2.1 <| .k (Ad hi) <| .r 2 (Kg h).2.1 <| .k (Kg h).2.2 <| .e (nm1 (f:=T50 l) (D6 (by omega)))) (by kernel_rfl))
  (λi hi h=>by
   rcases Aj1 h with h1 | ⟨h1,h2⟩ | ⟨h1,h2,h3⟩
   ·exact DW.rd (.k (ofNat_lt hi) <| .k (Ad hi) <| .r 5 h1 <| .r 6 eT <| .l) (by kernel_rfl)
   ·exact DW.rd (.k (ofNat_lt hi) <| .k (Ad hi) <| .r 3 h1 <| .k (Ad hi) <| .r 2 h1 <| .r 5 h2 <| .k eT <| .l) (by kernel_rfl)
   ·exact DW.rd (.k (ofNat_lt hi) <| .k (Ad hi) <| .r 3 h1 <| .k (Ad hi) <| .r 2 h1 <| .r 3 h2 <| .k (Ad hi) <| .r 2 h2 <| .k h3 <| .l) (by kernel_rfl))
  (DW.rd (.k (DY (Bq l)) .l) (by kernel_rfl)) (by omega)
theorem AiY (x:Nat):ile 1 (ofNat x)=!ilt (ofNat x) 1∧ile (ofNat x) 1024=!ilt 1024 (ofNat x):=by
 constructor
 ·unfold ile ilt
  rw [<- decide_not];exact decide_eq_decide.2 (by omega)
 ·unfold ile ilt
  rw [<- decide_not];exact decide_eq_decide.2 (by omega)
theorem ArV:Ap Tryz.prog Gl 46 ZE:=Ah A2 mixed Tryz.func46 (by kernel_rfl) (by kernel_rfl) λvs v h' h=>by
 unfold ZE at h;split at h
 ·rename_i l
  obtain ⟨hl,h⟩:=Ac h;cases Ab h;have hx:=AS Ca AgH (G:=Gl);have hr:=r46 (BM hl);unfold Qk;cases hq:AN (N2 l) (Bq l) 0 with
  | none =>rw [hq] at hr;exact ⟨_,cxA Gl tb0 AgH,_,Ba.refl _,rfl,hx.1,hx.2,DW.ok (.a hr <| .c (ile 1 (ofNat (Bq l))) (λh1=>.r 4 h1 <| .e (by rw [h1]; first | done | rfl)) λh1=>.r 4 h1 <| .e (by rw [h1]; first | done | rfl)) (by kernel_rfl),Am.refl _⟩
  | some k =>rw [hq] at hr;exact ⟨_,cxA Gl tb0 AgH,_,Ba.refl _,rfl,hx.1,hx.2,DW.ok (.a hr <| .l) (by kernel_rfl),Am.refl _⟩
 ·cases h
theorem ArU:Ap Tryz.prog Gl 50 ZE:=Ah A2 mixed Tryz.func50 (by kernel_rfl) (by kernel_rfl) λvs v h' h=>by
 unfold ZE at h;split at h
 ·rename_i l
  obtain ⟨hl,h⟩:=Ac h;cases Ab h;have hx:=AS Ca AgG (G:=Gl);have hr:=r50 (BM hl);unfold Qk;rw [(AiY (Bq l)).1,(AiY (Bq l)).2];have key:∀ b,(match AN (N2 l) (Bq l) 0 with
   | none=>f50 l
   | some _=>x50 l)=(match b with
   | true=>f50 l
   | false=>x50 l)->isN (AN (N2 l) (Bq l) 0)=b->(A0 (Aj tab (cxA Gl tb0 AgG) Tryz.f50 [.str l] [])).sem=some (bV (isN (AN (N2 l) (Bq l) 0) && (!ilt (ofNat (Bq l)) 1 && !ilt 1024 (ofNat (Bq l)))),[]):=λb hm hb=>by
   rw [hm] at hr;rw [hb];cases b with
   | true=>exact DW.ok (.c (ilt (ofNat (Bq l)) 1) (λh1=>.r 4 h1 <| .k eT <| .e (show ((bV false,[]):V×List Blk)=_ from by rw [h1]; first | done | rfl)) λh1=>.r 4 h1 <| .c (ilt 1024 (ofNat (Bq l))) (λh2=>.k h2 <| .e (show ((bV false,[]):V×List Blk)=_ from by rw [h2,Bool.not_true,Bool.and_false,Bool.and_false])) λh2=>.k h2 <| .a hr <| .e (show ((bV true,[]):V×List Blk)=_ from by rw [h1,h2]; first | done | rfl)) (by kernel_rfl)
   | false=>exact DW.ok (.c (ilt (ofNat (Bq l)) 1) (λh1=>.r 4 h1 <| .k eT <| .l) λh1=>.r 4 h1 <| .c (ilt 1024 (ofNat (Bq l))) (λh2=>.k h2 <| .l) λh2=>.k h2 <| .a hr <| .l) (by kernel_rfl)
  refine ⟨_,cxA Gl tb0 AgG,_,Ba.refl _,rfl,hx.1,hx.2,?_,Am.refl _⟩;cases hq:AN (N2 l) (Bq l) 0 with
  | none =>rw [hq] at key;exact key true rfl rfl
  | some k =>rw [hq] at key;exact key false rfl rfl
 ·cases h
noncomputable def Ab3:A7:=Jk tab Gl [] [(190,Tryz.f190),(191,Tryz.f191)]
theorem Ab2:Ao Tryz.prog Gl Ab3:=MH A2 mixed .nil (.cons Tryz.func190 (by kernel_rfl) <| .cons Tryz.func191 (by kernel_rfl) .nil)
theorem Ap3:Y4.all (λx=>tB (A0 (Aj tab (cxC Gl Ab3) Tryz.f164 [.str x] [])).sem)=true:=by kernel_rfl
def Add:List V->A5
 | [.str l]=>.br (UY l) (.leaf (bV true,[])) .fail
 | _=>.fail
theorem Asn:Ap Tryz.prog Gl 164 Add:=by
 refine Ah A2 mixed Tryz.func164 (by kernel_rfl) (by kernel_rfl) λvs v h' h=>?_;unfold Add at h;split at h
 ·rename_i l
  obtain ⟨h1,h2⟩:=Ac h;obtain ⟨x,hx,h1⟩:=List.any_eq_true.1 h1;have h1:x=l:=by simpa [seq] using h1
  subst h1;cases Ab h2;have hc:=Jg Ab2;exact ⟨_,cxC Gl Ab3,_,Ba.refl _,rfl,hc.1,hc.2,Ai0 (List.all_eq_true.1 Ap3 _ hx),Am.refl _⟩
 ·cases h
theorem Asm:Ap Tryz.prog Gl 165 QG:=by
 refine Ah A2 mixed Tryz.func165 (by kernel_rfl) (by kernel_rfl) λvs v h' h=>?_;have hc:=Jg (P:=Tryz.prog) (G:=Gl) .nil;unfold QG at h;split at h
 ·rename_i a
  obtain ⟨h1,h2⟩:=Ac h;have h1:a=2:=by simpa [ieq] using h1
  subst h1;cases Ab h2;exact ⟨_,cxC Gl [],_,Ba.refl _,rfl,hc.1,hc.2,(show (A0 (Aj tab (cxC Gl []) Tryz.f165 [iV 2] [])).sem=some (iV 32,[]) from by kernel_rfl),Am.refl _⟩
 ·cases h
noncomputable def Aiz:A7:=(164,Add)::(165,QG)::[]
theorem Ab7:Ao Tryz.prog Gl Aiz:=.cons Asn <| .cons Asm .nil
theorem Ast:Ap Tryz.prog Gl 124 tgT:=by
 refine Ah A2 mixed Tryz.func124 (by kernel_rfl) (by kernel_rfl) λvs v h' h=>?_;unfold tgT at h;split at h
 ·rename_i a t r l
  obtain ⟨ha,h⟩:=Ac h;obtain ⟨hb,hq⟩:=Ac h;have ha:a=2:=by simpa [ieq] using ha
  subst ha;cases Ab (show (T.leaf _).sem=_ from hq);have hx:=AS Ab7 [] (G:=Gl);refine ⟨_,cxA Gl Aiz [],_,Ba.refl _,rfl,hx.1,hx.2,?_,Am.refl _⟩;unfold tgB at hb;cases h0:ieq t (-1) with
  | true =>rw [h0] at hb;simp only [cond_true,Bool.and_eq_true] at hb;obtain ⟨h1,h2⟩:=hb;exact DW.ok (.k h0 <| .r 3 h1 <| .k h2 <| .k h1 <| .l) (by kernel_rfl)
  | false =>rw [h0] at hb;simp only [cond_false,Bool.and_eq_true] at hb;obtain ⟨h1,h2,h3,h4,h5⟩:=hb;exact DW.ok (.k h0 <| .r 4 h1 <| .r 4 h2 <| .r 4 h3 <| .k (eI 2) <| .r 2 h3 <| .r 4 h4 <| .e (show ((bV (seq l []),[]):V×List Blk)=(bV true,[]) from by rw [h5])) (by kernel_rfl)
 ·cases h
theorem Ass:Ap Tryz.prog Gl 125 QS:=by
 refine Ah A2 mixed Tryz.func125 (by kernel_rfl) (by kernel_rfl) λvs v h' h=>?_;unfold QS at h;split at h
 ·rename_i a
  obtain ⟨hb,h⟩:=Ac h;cases Ab h;have hx:=AS Ca [] (G:=Gl);refine ⟨_,cxA Gl tb0 [],_,Ba.refl _,rfl,hx.1,hx.2,?_,Am.refl _⟩;unfold HH at hb;cases h0:ile (-2147483648) a with
  | false=>rw [h0] at hb; cases hb
  | true =>rw [h0] at hb;exact DW.ok (.r 3 h0 <| .e (show ((bV (ile a 2147483647),[]):V×List Blk)=(bV true,[]) from by rw [show ile a 2147483647=true from hb])) (by kernel_rfl)
 ·cases h
section
variable (X:Nat->Tg) (f:Nat->Int)
def T81 (n:Nat) (c:Int) (m:Nat) (g:Nat->V):St:=⟨jsV 69 0 Aa [(0,.sl 3 n (λk=>tgV (X k))),(1,.sl 1 n (λk=>iV (f k))),(4,.ptr 0 0),(6,.ptr 1 0),(7,.ref 2),(8,iV c)],[.cells [iV 0,iV 0,iV 0,iV 0,.str [],iV 0,.nilS],.cells [iV 0,iV 0,iV 0,iV 0,.str [],iV 0,.nilS],.row 46 6 m g]⟩
end
def lp81:Lp:=⟨bmK 69 0 [0,1,4,6,7,8],3,bmK 69 0 [4,7],3,4611686018427387905⟩
def AcG:List (Nat×Lp×List (Nat×(Nat->V))):=[(0,lp81,[(2,λ_=>.und)])]
noncomputable def Abv:A7:=(124,tgT)::(125,QS)::[]
theorem Af1:Ao Tryz.prog Gl Abv:=.cons Ast <| .cons Ass .nil
noncomputable def B81 (L:LT):St->T (Ex×St):=λst=>AA tab ⟨Aw Abv,L,Gl⟩ (As Tryz.f81 0) 0 st
theorem Atb {i n:Nat} (hi:i<n) (hn:n <= 1023):Bs i 1 72=true:=decide_eq_true (by omega)
def Qq (X:Nat->Tg) (f:Nat->Int) (i k:Nat):V:=bif Nat.blt k i then ED X f k else .und
theorem Ad1 (X:Nat->Tg) (f:Nat->Int) (i:Nat):AD i (Qq X f i) (ED X f i)=Qq X f (i+1):=by
 funext k;rw [Br];unfold Qq;by_cases hk:k=i
 ·subst hk
  rw [show Nat.beq k k=true from Nat.beq_refl k,HY];rfl
 ·rw [Hx hk,HZ hk]
  rfl
theorem As9 (X:Nat->Tg) (f:Nat->Int) {i n:Nat} (hi:i<n) (hn:n <= 1023):(Ex.nm,T81 X f n (wr .i64 (Ai (ofNat i) 1)) (AE i 1) (AD i (Qq X f i) (ED X f i)))=(Ex.nm,T81 X f n (ofNat (i+1)) (i+1) (Qq X f (i+1))):=nm3 (D6 (by omega)) rfl (Ad1 X f i)
theorem r81 {X:Nat->Tg} {f:Nat->Int} {n:Nat} (hn:n <= 1023) (hX:∀ i,i<n->tgB (X i).th (X i).rg (X i).lc=true) (hf:∀ i,i<n->HH (f i)=true):(Av (B81 (Go.Sy.askL AcG)) lp81 4611686018427387905 (T81 X f n 0 0 (Qq X f 0))).sem=some (.ex 0,⟨jsV 69 0 Aa [(4,.ptr 0 0),(7,.ref 2)],[.cells [iV 0,iV 0,iV 0,iV 0,.str [],iV 0,.nilS],.cells [iV 0,iV 0,iV 0,iV 0,.str [],iV 0,.nilS],.row 46 6 n (Qq X f n)]⟩) :=
 Bv (S:=λi=>T81 X f n (ofNat i) i (Qq X f i)) (m:=n) (show (Ex.ex 0) ≠ .nm from nofun) (λi hi=>DW.rd (.k (ofNat_lt hi) <| .k (Ad hi) <| .k (eI 2) <| .k (hX i hi) <| .r 3 (eN eT) <| .k (Ad hi) <| .r 2 (eN eT) <| .k (hf i hi) <| .r 3 (eN eT) <| .r 2 (Ad hi) <| .k (Atb hi hn) <| .e (As9 X f hi hn)) (by kernel_rfl)) (DW.rd (.k (DY n) .l) (by kernel_rfl)) (by omega)
theorem ArO:Ap Tryz.prog Gl 81 Em.allT:=by
 refine Ah A2 mixed Tryz.func81 (by kernel_rfl) (by kernel_rfl) λvs v h' h=>?_;unfold Em.allT at h;split at h
 ·rename_i u1 u2
  obtain ⟨n,X,a1,h⟩:=B0 h;obtain ⟨m,f,a2,h⟩:=B0 h;obtain ⟨hm,h⟩:=Ac h;obtain ⟨hn,h⟩:=Ac h;obtain ⟨hX,h⟩:=Ac h;obtain ⟨hf,h⟩:=Ac h;cases Ab h;obtain rfl:n=m:=Nat.eq_of_beq_eq_true hm;have hn:=Nat.le_of_ble_eq_true hn;have hr:=r81 hn (A8.1 hX) (A8.1 hf);have hx:=AS Af1 AcG (G:=Gl);have h10:ilt 1023 (ofNat n)=false:=decide_eq_false (by show ¬ (1023:Int)<(n:Int); omega);have hA:Ba [u1,u2] [Ei Ajy n X,Ei LF n f]:=λS w cs hq=>by
   obtain ⟨c,l,rfl,q1,c2,l2,rfl,q2,q3⟩:=hq;exact ⟨c,_,rfl,a1 S w c q1,c2,_,rfl,a2 S w c2 q2,q3⟩
  rcases Nat.lt_trichotomy n 1 with h0 | h0 | h0
  ·obtain rfl:n=0:=by omega
   exact ⟨_,cxA Gl Abv AcG,[.row 46 6 0 λ_=>.und],hA,rfl,hx.1,hx.2,DW.ok (.k (eN (eI 0)) <| .k h10 <| .a hr <| .k eT <| .k eF <| .l) (by kernel_rfl),.cons (λj hj=>absurd hj (Nat.not_lt_zero j)) (Am.refl [])⟩
  ·subst h0
   exact ⟨_,cxA Gl Abv AcG,[.row 46 6 0 λ_=>.und],hA,rfl,hx.1,hx.2,DW.ok (.k (eN (eI 1)) <| .k h10 <| .a hr <| .k eF <| .k eT <| .r 2 eT <| .l) (by kernel_rfl),.cons (λj hj=>absurd hj (Nat.not_lt_zero j)) (Am.refl [])⟩
  ·have e0:Nat.beq n 0=false:=Hx (by omega)
   have e1:Nat.beq n 1=false:=Hx (by omega);have e2:Nat.ble n 1=false:=by
    cases hb:Nat.ble n 1 with
    | false=>rfl
    | true=>have:=Nat.le_of_ble_eq_true hb; omega
   refine ⟨_,cxA Gl Abv AcG,[.row 46 6 n (Qq X f n)],hA,rfl,hx.1,hx.2,?_,?_⟩
   ·unfold XJ I7 XK
    rw [e0,e1];exact DW.ok (.k (eN (eI (ofNat n))) <| .k h10 <| .a hr <| .k (Aa1 (x:=ofNat n) (k:=ofNat n) (j:=0) rfl (λh=>by have:(n:Int)=0:=h; omega)) <| .k (Aa1 (x:=ofNat n) (k:=ofNat n) (j:=1) rfl (λh=>by have:(n:Int)=1:=h; omega)) <| .l) (by kernel_rfl)
   ·unfold LV
    rw [e2];exact .cons (λj hj=>by
     unfold Qq;rw [show Nat.blt j n=true from Nat.ble_eq_true_of_le hj];rfl) (Am.refl [])
 ·cases h
end Go.Proofs.YtkbafjceglhjhaaGreatDoor.Er
