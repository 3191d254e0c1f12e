/-
  Layer 11: a shape's threads as code (function 75, with 107 and 116 in it). No conditions.
-/
import Derived.Test.YtkgdhhieomndeaaGreatDoorShT
namespace Go.Proofs.YtkgdhhieomndeaaGreatDoor.Sh
open Go.Sy Ed
open Int (ofNat)
set_option maxHeartbeats 1000000
set_option maxRecDepth 4000
noncomputable def Aeo:AK:=(20,OK)::[]
theorem Nu:Aq Tryz.prog Gl Aeo:=.cons p37 .nil
noncomputable def AnX:Cx:=AA Gl Aeo []
noncomputable def Adv:Cx:=⟨Lx [(59,PS tab AnX Tryz.f59)] (Am Aeo),Ba [],Gl⟩
noncomputable def Mz:FuncId->List V->St->T (V×Res):=Lx [(36,PS tab Adv Tryz.f36)] (Am Aeo)
theorem Vl:Bv Tryz.prog Adv.base∧Cd Adv :=
 ⟨Hx mixed (.cons rfl A7 (AH Nu []).1 (AH Nu []).2 Tryz.func59 (by kernel_rfl) (by kernel_rfl) .nil) (D5 rfl Nu),
  λid f st r hr=>by
   have hr:(Ba [] id f st).sem=some r:=hr;cases hr⟩
theorem Aaj:Bv Tryz.prog ⟨Mz,Gl⟩:=Hx mixed (.cons rfl A7 Vl.1 Vl.2 Tryz.func36 (by kernel_rfl) (by kernel_rfl) .nil) (D5 rfl Nu)
structure In4 where
 op:Int
 d:Int
 imm:Int
 loc:List UInt8
def inV (i:In4):V:=.agg [iV i.op,iV i.d,iV 0,iV 0,iV i.imm,.str i.loc,.str [],iV 0]
def Gc:In4:=⟨5,0,0,[]⟩
def Abc (x:Ev5):In4:=⟨1,0,x.val,BB x.loc⟩
def Ahu (d:Int) (x:Ev5):In4:=⟨3,d,0,BB x.loc⟩
structure Wr4 where
 nx:Nat->Int
 lw:Nat->Nat
 cw:Nat->Nat->In4
 y:Nat->Int
def Gp (lw:Nat->Nat) (u:Nat):Nat->Nat:=λi=>sel (AW i u) (AV (lw u) 1) (lw i)
def JS (lw:Nat->Nat) (cw:Nat->Nat->In4) (u:Nat) (v:In4):Nat->Nat->In4:=λi j=>bif AW i u then (bif AW j (lw u) then v else cw u j) else cw i j
def Wr (W:Wr4) (u:Nat) (v:In4):Wr4:=⟨W.nx,Gp W.lw u,JS W.lw W.cw u v,W.y⟩
def yW (W:Wr4) (b:Nat) (v:Int):Wr4:={ W with y:=λi=>bif AW i b then v else W.y i }
def nxW (W:Wr4) (u:Nat):Wr4:={ W with nx:=λi=>sel (AW i u) (wr .i64 (Ak (W.nx u) 1)) (W.nx i) }
def yvW (x:Ev5) (W:Wr4):Int:=bif ieq x.dir 2 then -1 else wr .i64 (AC (sel (AW (toN x.th) (toN x.th)) (wr .i64 (Ak (W.nx (toN x.th)) 1)) (W.nx (toN x.th))) 1)
def Sz (x:Ev5) (W:Wr4):In4:=bif ieq x.dir 2 then Abc x else Ahu (W.nx (toN x.th)) x
def evW (fe:Bool) (x:Ev5) (b:Nat) (W:Wr4):Wr4 :=
 yW (bif ieq x.dir 2 then Wr (bif fe then Wr W (toN x.th) Gc else W) (toN x.th) (Sz x W) else nxW (Wr (bif fe then Wr W (toN x.th) Gc else W) (toN x.th) (Sz x W)) (toN x.th)) b (yvW x W)
def evC (fe:Bool) (x:Ev5) (W:Wr4) (c:Nat->Nat->V):Nat->Nat->V :=
 bif fe then Cm (Cm c (toN x.th) (As (W.lw (toN x.th)) (c (toN x.th)) (inV Gc))) (toN x.th) (As (Gp W.lw (toN x.th) (toN x.th)) (Cm c (toN x.th) (As (W.lw (toN x.th)) (c (toN x.th)) (inV Gc)) (toN x.th)) (inV (Sz x W)))
 else Cm c (toN x.th) (As (W.lw (toN x.th)) (c (toN x.th)) (inV (Sz x W)))
def W0:Wr4:=⟨λ_=>0,λ_=>0,λ_ _=>Gc,λ_=>0⟩
def wsF (fe:Nat->Bool) (x:Nat->Ev5):Nat->Wr4
 | 0=>W0
 | b+1=>evW (fe b) (x b) b (wsF fe x b)
def cV (W:Wr4):Nat->Nat->V:=λi j=>inV (W.cw i j)
def yV (W:Wr4):Nat->V:=λi=>iV (W.y i)
def cR (fe:Nat->Bool) (x:Nat->Ev5):Nat->Nat->Nat->V
 | 0=>λ_ _=>.und
 | b+1=>evC (fe b) (x b) (wsF fe x b) (cR fe x b)
def yR (fe:Nat->Bool) (x:Nat->Ev5):Nat->Nat->V
 | 0=>λ_=>.und
 | b+1=>As b (yR fe x b) (iV (yvW (x b) (wsF fe x b)))
theorem Wq {lw:Nat->Nat} {cw:Nat->Nat->In4} {c:Nat->Nat->V} (h:∀ i j,j<lw i->c i j=inV (cw i j)) (u:Nat) (v:In4) :
  ∀ i j,j<Gp lw u i->Cm c u (As (lw u) (c u) (inV v)) i j=inV (JS lw cw u v i j):=λi j hj=>by
 unfold Gp at hj;unfold Cm JS;rw [Fy,Bo];cases hi:AW i u with
 | true =>
  rw [hi] at hj;have hj:j<lw u+1:=hj;show (bif Nat.beq j (lw u) then _ else _)=inV (bif Nat.beq j (lw u) then _ else _);cases hb:Nat.beq j (lw u) with
  | true=>rfl
  | false=>exact h u j (by have:=Nat.ne_of_beq_eq_false hb; omega)
 | false =>rw [hi] at hj;exact h i j hj
theorem AhJ (fe:Nat->Bool) (x:Nat->Ev5):∀ b i j,j<(wsF fe x b).lw i->cR fe x b i j=inV ((wsF fe x b).cw i j)
 | 0,_,_,h=>by cases h
 | b+1,i,j,h=>by
  have ih:=AhJ fe x b;have h:j<(evW (fe b) (x b) b (wsF fe x b)).lw i:=h;show evC (fe b) (x b) (wsF fe x b) (cR fe x b) i j=inV ((evW (fe b) (x b) b (wsF fe x b)).cw i j);revert h;unfold evC evW;generalize Sz (x b) (wsF fe x b)=v;cases fe b with
  | false=>cases ieq (x b).dir 2 <;> exact Wq ih _ v i j
  | true =>have ih2:=Wq ih (toN (x b).th) Gc;have h2:=Wq ih2 (toN (x b).th) v i j;cases ieq (x b).dir 2 <;> exact h2
theorem AgC (fe:Nat->Bool) (x:Nat->Ev5):∀ b i,i<b->yR fe x b i=iV ((wsF fe x b).y i)
 | b+1,i,h=>by
  show As b (yR fe x b) (iV (yvW (x b) (wsF fe x b))) i=iV ((evW (fe b) (x b) b (wsF fe x b)).y i);have e:(evW (fe b) (x b) b (wsF fe x b)).y i=bif AW i b then yvW (x b) (wsF fe x b) else (wsF fe x b).y i:=by
   unfold evW; cases fe b <;> cases ieq (x b).dir 2 <;> rfl
  rw [e,Bo];show (bif Nat.beq i b then _ else _)=iV (bif Nat.beq i b then _ else _);cases hb:Nat.beq i b with
  | true=>rfl
  | false=>exact AgC fe x b i (by have:=Nat.ne_of_beq_eq_false hb; omega)
theorem Ah0 (u:Nat):(λi=>sel (AW i u) true (sel (AW i u) false true))=λ_=>true:=by
 funext i; cases AW i u <;> rfl
theorem Ahz (u:Nat):(λi=>sel (AW i u) true (sel (AW i u) false (sel (AW i u) true (sel (AW i u) false true))))=λ_=>true:=by
 funext i; cases AW i u <;> rfl
theorem AcI (u:Nat) (f:Nat->Int):(λi=>V.agg [cif (AW i u) .nilS .nilS,iV (f i)])=λi=>V.agg [.nilS,iV (f i)]:=by
 funext i; cases AW i u <;> rfl
theorem Akv (fe:Bool) (x:Ev5) (b:Nat) (W:Wr4) (i:Nat):(evW fe x b W).lw i <= W.lw i+2:=by
 have h:∀ (lw:Nat->Nat) (u i:Nat),Gp lw u i <= lw i+1:=λlw u i=>by
  unfold Gp;cases h:AW i u with
  | true=>have:i=u:=Nat.eq_of_beq_eq_true h; subst this; exact Nat.le_refl _
  | false=>exact Nat.le_succ _
 have e:(evW fe x b W).lw i=Gp (bif fe then Gp W.lw (toN x.th) else W.lw) (toN x.th) i:=by unfold evW; cases fe <;> cases ieq x.dir 2 <;> rfl
 rw [e];cases fe
 ·exact Nat.le_trans (h _ _ _) (Nat.succ_le_succ (Nat.le_succ _))
 ·exact Nat.le_trans (h _ _ _) (Nat.succ_le_succ (h _ _ _))
theorem Aa0 (fe:Nat->Bool) (x:Nat->Ev5) (i:Nat):∀ b,(wsF fe x b).lw i <= 2 * b
 | 0=>Nat.le_refl _
 | b+1=>by have:=Akv (fe b) (x b) b (wsF fe x b) i; have:=Aa0 fe x i b; show (evW _ _ _ _).lw i <= _; omega
def W9 (_:Int) (_:Nat) (_:Nat->E6) (m:Nat) (_:Nat->Ev5) (_:Nat) (_:Int) (_:Nat) (_:Nat->Int) (_:Nat) (_:Nat->Nat) (_:Nat->Nat->Int):Lp:=⟨bmK 73 0 [1,2,3,4,5,6,20,21,22],5,bmK 73 0 [1,2,3,4,5],5,m+1⟩
def TF (a:Int) (n:Nat) (g:Nat->E6) (m:Nat) (x:Nat->Ev5) (t:Nat) (k:Int) (p:Nat) (r:Nat->Int) (q:Nat) (ln:Nat->Nat) (co:Nat->Nat->Int) (b:Nat) (nx:Nat->Int) (lw:Nat->Nat) (cw:Nat->Nat->V) (y:Nat->V) (j:Nat->V):St:=⟨jsV 73 0 j [(1,.ptr 0 0),(2,.jref 1),(3,.ref 2),(4,.jref 3),(5,.ref 4),(6,nV m),(20,.sl 5 m (λi=>evV (x i))),(21,nV m),(22,nV b)],[.cells [iV a,.sl 6 n (λi=>eV (g i)),.sl 5 m (λi=>evV (x i)),nV t,iV k,.sl 1 p (λi=>iV (r i)),.sl 1 q (λu=>.sl 1 (ln u) (λi=>iV (co u i)))],.jag (Jag.mk 49 1 0 Aa 0 51 8 (λ_=>true) (λ_=>0) (λ_ _=>.und)),.row 3 1 0 Aa,.jag (Jag.mk 89 2 t (λu=>.agg [.nilS,iV (nx u)]) 0 51 8 (λ_=>true) lw cw),.row 3 1 b y]⟩
def UY (a:Int) (n:Nat) (g:Nat->E6) (m:Nat) (x:Nat->Ev5) (t:Nat) (k:Int) (p:Nat) (r:Nat->Int) (q:Nat) (ln:Nat->Nat) (co:Nat->Nat->Int) (b:Nat) (nx:Nat->Int) (lw:Nat->Nat) (cw:Nat->Nat->V) (y:Nat->V):Ex×St:=(.ex 0,⟨jsV 73 0 Aa [(1,.ptr 0 0),(2,.jref 1),(3,.ref 2),(4,.jref 3),(5,.ref 4)],[.cells [iV a,.sl 6 n (λi=>eV (g i)),.sl 5 m (λi=>evV (x i)),nV t,iV k,.sl 1 p (λi=>iV (r i)),.sl 1 q (λu=>.sl 1 (ln u) (λi=>iV (co u i)))],.jag (Jag.mk 49 1 0 Aa 0 51 8 (λ_=>true) (λ_=>0) (λ_ _=>.und)),.row 3 1 0 Aa,.jag (Jag.mk 89 2 t (λu=>.agg [.nilS,iV (nx u)]) 0 51 8 (λ_=>true) lw cw),.row 3 1 b y]⟩)
noncomputable def IO (L:LT):St->T (Ex×St):=λst=>AD tab ⟨Mz,L,Gl⟩ (Au Tryz.f16 0) 0 st
section
variable (L:LT) (a:Int) (n:Nat) (g:Nat->E6) (m:Nat) (x:Nat->Ev5) (t:Nat) (k:Int) (p:Nat) (r:Nat->Int) (q:Nat) (ln:Nat->Nat) (co:Nat->Nat->Int) (b:Nat) (nx:Nat->Int) (lw:Nat->Nat) (cw:Nat->Nat->V) (y:Nat->V)  (j:Nat->V)
include L a n g m x t k p r q ln co b nx lw cw y j
theorem AlT (h0:ilt (ofNat b) (ofNat m)=false):Al (IO L) (W9 a n g m x t k p r q ln co) (TF a n g m x t k p r q ln co b nx lw cw y j)=some ((.ex 0),⟨jsV 73 0 Aa [(1,.ptr 0 0),(2,.jref 1),(3,.ref 2),(4,.jref 3),(5,.ref 4)],[.cells [iV a,.sl 6 n (λi=>eV (g i)),.sl 5 m (λi=>evV (x i)),nV t,iV k,.sl 1 p (λi=>iV (r i)),.sl 1 q (λu=>.sl 1 (ln u) (λi=>iV (co u i)))],.jag (Jag.mk 49 1 0 Aa 0 51 8 (λ_=>true) (λ_=>0) (λ_ _=>.und)),.row 3 1 0 Aa,.jag (Jag.mk 89 2 t (λu=>.agg [.nilS,iV (nx u)]) 0 51 8 (λ_=>true) lw (λi i_1=>cw i i_1)),.row 3 1 b y]⟩):=by
 exact Ac (ks:=[kn h0]) (by kernel_rfl)
theorem AlR (h0:ilt (ofNat b) (ofNat m)=true) (h29:ile 0 (ofNat b)=true) (h31:Ao (ile 0 (x b).th) (ilt (x b).th (ofNat t))=true) (h1:ieq (ofNat m) 0=false) (h33:Ao (ile 0 (Ar (wr .i64 (AC (wr .i64 (Ak (ofNat b) (ofNat m))) 1)) (ofNat m))) (ilt (Ar (wr .i64 (AC (wr .i64 (Ak (ofNat b) (ofNat m))) 1)) (ofNat m)) (ofNat n))=true) (h2:ieq (g (toN (Ar (wr .i64 (AC (wr .i64 (Ak (ofNat b) (ofNat m))) 1)) (ofNat m)))).kind 5=false) (h3:ieq (x b).dir 2=true) (h34:nlt (toN (x b).th) t=true) (h35:Bn (lw (toN (x b).th)) 1 80=true) (h36:Bn b 1 8=true):Al (IO L) (W9 a n g m x t k p r q ln co) (TF a n g m x t k p r q ln co b nx lw cw y j)=some (.nm,⟨jsV 73 0 Aa [(1,.ptr 0 0),(2,.jref 1),(3,.ref 2),(4,.jref 3),(5,.ref 4),(6,nV m),(20,.sl 5 m (λi=>evV (x i))),(21,nV m),(22,iV (wr .i64 (Ak (ofNat b) 1)))],[.cells [iV a,.sl 6 n (λi=>eV (g i)),.sl 5 m (λi=>evV (x i)),nV t,iV k,.sl 1 p (λi=>iV (r i)),.sl 1 q (λu=>.sl 1 (ln u) (λi=>iV (co u i)))],.jag (Jag.mk 49 1 0 Aa 0 51 8 (λ_=>true) (λ_=>0) (λ_ _=>.und)),.row 3 1 0 Aa,.jag (Jag.mk 89 2 t (λi=>.agg [.nilS,iV (nx i)]) 0 51 8 (λi=>sel (AW i (toN (x b).th)) true (sel (AW i (toN (x b).th)) false true)) (λi=>sel (AW i (toN (x b).th)) (AV (lw (toN (x b).th)) 1) (lw i)) (λi i_1=>Cm (λi_2 i_3=>cw i_2 i_3) (toN (x b).th) (As (lw (toN (x b).th)) (cw (toN (x b).th)) (.agg [iV 1,iV 0,iV 0,iV 0,iV (x b).val,.str (BB (x b).loc),.str [],iV 0])) i i_1)),.row 3 1 (AV b 1) (As b y (iV (-1)))]⟩):=by
 exact Ac (ks:=[kn h0,kA (kn h29) (kn h0),kn h31,kn h1,kn h33,kn h2,kn h3,kn h34,kT,kJ (toN (x b).th),kJ (toN (x b).th),kJ (toN (x b).th),kJ (toN (x b).th),kn h34,kT,kJ (toN (x b).th),kJ (toN (x b).th),kJ (toN (x b).th),kJ (toN (x b).th),kJ (toN (x b).th),kn h34,kT,kJ (toN (x b).th),kT,kn h35,kJ (toN (x b).th),kn h34,kn h36]) (by kernel_rfl)
theorem AiH (h0:ilt (ofNat b) (ofNat m)=true) (h29:ile 0 (ofNat b)=true) (h31:Ao (ile 0 (x b).th) (ilt (x b).th (ofNat t))=true) (h1:ieq (ofNat m) 0=false) (h33:Ao (ile 0 (Ar (wr .i64 (AC (wr .i64 (Ak (ofNat b) (ofNat m))) 1)) (ofNat m))) (ilt (Ar (wr .i64 (AC (wr .i64 (Ak (ofNat b) (ofNat m))) 1)) (ofNat m)) (ofNat n))=true) (h2:ieq (g (toN (Ar (wr .i64 (AC (wr .i64 (Ak (ofNat b) (ofNat m))) 1)) (ofNat m)))).kind 5=true) (h34:nlt (toN (x b).th) t=true) (h35:Bn (lw (toN (x b).th)) 1 80=true) (h3:ieq (x b).dir 2=true) (h36:sel (AW (toN (x b).th) (toN (x b).th)) true (sel (AW (toN (x b).th) (toN (x b).th)) false true)=true) (h37:Bn (sel (AW (toN (x b).th) (toN (x b).th)) (AV (lw (toN (x b).th)) 1) (lw (toN (x b).th))) 1 80=true) (h38:Bn b 1 8=true):Al (IO L) (W9 a n g m x t k p r q ln co) (TF a n g m x t k p r q ln co b nx lw cw y j)=some (.nm,⟨jsV 73 0 Aa [(1,.ptr 0 0),(2,.jref 1),(3,.ref 2),(4,.jref 3),(5,.ref 4),(6,nV m),(20,.sl 5 m (λi=>evV (x i))),(21,nV m),(22,iV (wr .i64 (Ak (ofNat b) 1)))],[.cells [iV a,.sl 6 n (λi=>eV (g i)),.sl 5 m (λi=>evV (x i)),nV t,iV k,.sl 1 p (λi=>iV (r i)),.sl 1 q (λu=>.sl 1 (ln u) (λi=>iV (co u i)))],.jag (Jag.mk 49 1 0 Aa 0 51 8 (λ_=>true) (λ_=>0) (λ_ _=>.und)),.row 3 1 0 Aa,.jag (Jag.mk 89 2 t (λi=>.agg [.nilS,iV (nx i)]) 0 51 8 (λi=>sel (AW i (toN (x b).th)) true (sel (AW i (toN (x b).th)) false (sel (AW i (toN (x b).th)) true (sel (AW i (toN (x b).th)) false true)))) (λi=>sel (AW i (toN (x b).th)) (AV (sel (AW (toN (x b).th) (toN (x b).th)) (AV (lw (toN (x b).th)) 1) (lw (toN (x b).th))) 1) (sel (AW i (toN (x b).th)) (AV (lw (toN (x b).th)) 1) (lw i))) (λi i_1=>Cm (λi_2 i_3=>Cm (λi_4 i_5=>cw i_4 i_5) (toN (x b).th) (As (lw (toN (x b).th)) (cw (toN (x b).th)) (.agg [iV 5,iV 0,iV 0,iV 0,iV 0,.str [],.str [],iV 0])) i_2 i_3) (toN (x b).th) (As (sel (AW (toN (x b).th) (toN (x b).th)) (AV (lw (toN (x b).th)) 1) (lw (toN (x b).th))) (Cm (λi_4 i_5=>cw i_4 i_5) (toN (x b).th) (As (lw (toN (x b).th)) (cw (toN (x b).th)) (.agg [iV 5,iV 0,iV 0,iV 0,iV 0,.str [],.str [],iV 0])) (toN (x b).th)) (.agg [iV 1,iV 0,iV 0,iV 0,iV (x b).val,.str (BB (x b).loc),.str [],iV 0])) i i_1)),.row 3 1 (AV b 1) (As b y (iV (-1)))]⟩):=by
 exact Ac (ks:=[kn h0,kA (kn h29) (kn h0),kn h31,kn h1,kn h33,kn h2,kn h34,kT,kJ (toN (x b).th),kJ (toN (x b).th),kJ (toN (x b).th),kJ (toN (x b).th),kn h34,kT,kJ (toN (x b).th),kJ (toN (x b).th),kJ (toN (x b).th),kJ (toN (x b).th),kJ (toN (x b).th),kn h34,kT,kJ (toN (x b).th),kT,kn h35,kJ (toN (x b).th),kn h34,kn h3,kn h34,kn h36,kJ (toN (x b).th),kJ (toN (x b).th),kJ (toN (x b).th),kJ (toN (x b).th),kn h34,kn h36,kJ (toN (x b).th),kJ (toN (x b).th),kJ (toN (x b).th),kJ (toN (x b).th),kJ (toN (x b).th),kn h34,kn h36,kJ (toN (x b).th),kn h36,kn h37,kJ (toN (x b).th),kn h34,kn h38]) (by kernel_rfl)
theorem AlS (h0:ilt (ofNat b) (ofNat m)=true) (h29:ile 0 (ofNat b)=true) (h31:Ao (ile 0 (x b).th) (ilt (x b).th (ofNat t))=true) (h1:ieq (ofNat m) 0=false) (h33:Ao (ile 0 (Ar (wr .i64 (AC (wr .i64 (Ak (ofNat b) (ofNat m))) 1)) (ofNat m))) (ilt (Ar (wr .i64 (AC (wr .i64 (Ak (ofNat b) (ofNat m))) 1)) (ofNat m)) (ofNat n))=true) (h2:ieq (g (toN (Ar (wr .i64 (AC (wr .i64 (Ak (ofNat b) (ofNat m))) 1)) (ofNat m)))).kind 5=false) (h3:ieq (x b).dir 2=false) (h34:nlt (toN (x b).th) t=true) (h35:Bn (lw (toN (x b).th)) 1 80=true) (h36:sel (AW (toN (x b).th) (toN (x b).th)) true (sel (AW (toN (x b).th) (toN (x b).th)) false true)=true) (h37:Bn b 1 8=true):Al (IO L) (W9 a n g m x t k p r q ln co) (TF a n g m x t k p r q ln co b nx lw cw y j)=some (.nm,⟨jsV 73 0 Aa [(1,.ptr 0 0),(2,.jref 1),(3,.ref 2),(4,.jref 3),(5,.ref 4),(6,nV m),(20,.sl 5 m (λi=>evV (x i))),(21,nV m),(22,iV (wr .i64 (Ak (ofNat b) 1)))],[.cells [iV a,.sl 6 n (λi=>eV (g i)),.sl 5 m (λi=>evV (x i)),nV t,iV k,.sl 1 p (λi=>iV (r i)),.sl 1 q (λu=>.sl 1 (ln u) (λi=>iV (co u i)))],.jag (Jag.mk 49 1 0 Aa 0 51 8 (λ_=>true) (λ_=>0) (λ_ _=>.und)),.row 3 1 0 Aa,.jag (Jag.mk 89 2 t (λi=>.agg [cif (AW i (toN (x b).th)) .nilS .nilS,iV (sel (AW i (toN (x b).th)) (wr .i64 (Ak (nx (toN (x b).th)) 1)) (nx i))]) 0 51 8 (λi=>sel (AW i (toN (x b).th)) true (sel (AW i (toN (x b).th)) false true)) (λi=>sel (AW i (toN (x b).th)) (AV (lw (toN (x b).th)) 1) (lw i)) (λi i_1=>Cm (λi_2 i_3=>cw i_2 i_3) (toN (x b).th) (As (lw (toN (x b).th)) (cw (toN (x b).th)) (.agg [iV 3,iV (nx (toN (x b).th)),iV 0,iV 0,iV 0,.str (BB (x b).loc),.str [],iV 0])) i i_1)),.row 3 1 (AV b 1) (As b y (iV (wr .i64 (AC (sel (AW (toN (x b).th) (toN (x b).th)) (wr .i64 (Ak (nx (toN (x b).th)) 1)) (nx (toN (x b).th))) 1))))]⟩):=by
 exact Ac (ks:=[kn h0,kA (kn h29) (kn h0),kn h31,kn h1,kn h33,kn h2,kn h3,kn h34,kT,kn h34,kT,kJ (toN (x b).th),kJ (toN (x b).th),kJ (toN (x b).th),kJ (toN (x b).th),kn h34,kT,kJ (toN (x b).th),kJ (toN (x b).th),kJ (toN (x b).th),kJ (toN (x b).th),kJ (toN (x b).th),kn h34,kT,kJ (toN (x b).th),kT,kn h35,kJ (toN (x b).th),kn h34,kn h34,kn h36,kn h34,kn h34,kn h36,kn h37]) (by kernel_rfl)
theorem AiI (h0:ilt (ofNat b) (ofNat m)=true) (h29:ile 0 (ofNat b)=true) (h31:Ao (ile 0 (x b).th) (ilt (x b).th (ofNat t))=true) (h1:ieq (ofNat m) 0=false) (h33:Ao (ile 0 (Ar (wr .i64 (AC (wr .i64 (Ak (ofNat b) (ofNat m))) 1)) (ofNat m))) (ilt (Ar (wr .i64 (AC (wr .i64 (Ak (ofNat b) (ofNat m))) 1)) (ofNat m)) (ofNat n))=true) (h2:ieq (g (toN (Ar (wr .i64 (AC (wr .i64 (Ak (ofNat b) (ofNat m))) 1)) (ofNat m)))).kind 5=true) (h34:nlt (toN (x b).th) t=true) (h35:Bn (lw (toN (x b).th)) 1 80=true) (h3:ieq (x b).dir 2=false) (h36:sel (AW (toN (x b).th) (toN (x b).th)) true (sel (AW (toN (x b).th) (toN (x b).th)) false true)=true) (h37:Bn (sel (AW (toN (x b).th) (toN (x b).th)) (AV (lw (toN (x b).th)) 1) (lw (toN (x b).th))) 1 80=true) (h38:sel (AW (toN (x b).th) (toN (x b).th)) true (sel (AW (toN (x b).th) (toN (x b).th)) false (sel (AW (toN (x b).th) (toN (x b).th)) true (sel (AW (toN (x b).th) (toN (x b).th)) false true)))=true) (h39:Bn b 1 8=true):Al (IO L) (W9 a n g m x t k p r q ln co) (TF a n g m x t k p r q ln co b nx lw cw y j)=some (.nm,⟨jsV 73 0 Aa [(1,.ptr 0 0),(2,.jref 1),(3,.ref 2),(4,.jref 3),(5,.ref 4),(6,nV m),(20,.sl 5 m (λi=>evV (x i))),(21,nV m),(22,iV (wr .i64 (Ak (ofNat b) 1)))],[.cells [iV a,.sl 6 n (λi=>eV (g i)),.sl 5 m (λi=>evV (x i)),nV t,iV k,.sl 1 p (λi=>iV (r i)),.sl 1 q (λu=>.sl 1 (ln u) (λi=>iV (co u i)))],.jag (Jag.mk 49 1 0 Aa 0 51 8 (λ_=>true) (λ_=>0) (λ_ _=>.und)),.row 3 1 0 Aa,.jag (Jag.mk 89 2 t (λi=>.agg [cif (AW i (toN (x b).th)) .nilS .nilS,iV (sel (AW i (toN (x b).th)) (wr .i64 (Ak (nx (toN (x b).th)) 1)) (nx i))]) 0 51 8 (λi=>sel (AW i (toN (x b).th)) true (sel (AW i (toN (x b).th)) false (sel (AW i (toN (x b).th)) true (sel (AW i (toN (x b).th)) false true)))) (λi=>sel (AW i (toN (x b).th)) (AV (sel (AW (toN (x b).th) (toN (x b).th)) (AV (lw (toN (x b).th)) 1) (lw (toN (x b).th))) 1) (sel (AW i (toN (x b).th)) (AV (lw (toN (x b).th)) 1) (lw i))) (λi i_1=>Cm (λi_2 i_3=>Cm (λi_4 i_5=>cw i_4 i_5) (toN (x b).th) (As (lw (toN (x b).th)) (cw (toN (x b).th)) (.agg [iV 5,iV 0,iV 0,iV 0,iV 0,.str [],.str [],iV 0])) i_2 i_3) (toN (x b).th) (As (sel (AW (toN (x b).th) (toN (x b).th)) (AV (lw (toN (x b).th)) 1) (lw (toN (x b).th))) (Cm (λi_4 i_5=>cw i_4 i_5) (toN (x b).th) (As (lw (toN (x b).th)) (cw (toN (x b).th)) (.agg [iV 5,iV 0,iV 0,iV 0,iV 0,.str [],.str [],iV 0])) (toN (x b).th)) (.agg [iV 3,iV (nx (toN (x b).th)),iV 0,iV 0,iV 0,.str (BB (x b).loc),.str [],iV 0])) i i_1)),.row 3 1 (AV b 1) (As b y (iV (wr .i64 (AC (sel (AW (toN (x b).th) (toN (x b).th)) (wr .i64 (Ak (nx (toN (x b).th)) 1)) (nx (toN (x b).th))) 1))))]⟩):=by
 exact Ac (ks:=[kn h0,kA (kn h29) (kn h0),kn h31,kn h1,kn h33,kn h2,kn h34,kT,kJ (toN (x b).th),kJ (toN (x b).th),kJ (toN (x b).th),kJ (toN (x b).th),kn h34,kT,kJ (toN (x b).th),kJ (toN (x b).th),kJ (toN (x b).th),kJ (toN (x b).th),kJ (toN (x b).th),kn h34,kT,kJ (toN (x b).th),kT,kn h35,kJ (toN (x b).th),kn h34,kn h3,kn h34,kn h36,kn h34,kn h36,kJ (toN (x b).th),kJ (toN (x b).th),kJ (toN (x b).th),kJ (toN (x b).th),kn h34,kn h36,kJ (toN (x b).th),kJ (toN (x b).th),kJ (toN (x b).th),kJ (toN (x b).th),kJ (toN (x b).th),kn h34,kn h36,kJ (toN (x b).th),kn h36,kn h37,kJ (toN (x b).th),kn h34,kn h34,kn h38,kn h34,kn h34,kn h38,kn h39]) (by kernel_rfl)
end
structure WrOK (n m t:Nat) (x:Nat->Ev5):Prop where
 m16:m <= 16
 t16:t <= 16
 th:∀ b,b<m->Ao (ile 0 (x b).th) (ilt (x b).th (ofNat t))=true
 ed:∀ b,b<m->(b+m-1) % m<n
theorem AeX {b m:Nat} (hb:b<m) (hm:m <= 16):Ar (wr .i64 (AC (wr .i64 (Ak (ofNat b) (ofNat m))) 1)) (ofNat m)=ofNat ((b+m-1) % m):=by
 have e1:Ak (ofNat b) (ofNat m)=Ak (ofNat (b+m-1)) 1:=by
  show (b:Int)+(m:Int)=((b+m-1:Nat):Int)+1;omega
 have e2:=Ap (i:=b+m-1) (n:=b+m) (by omega) (by omega);rw [e1,e2];have e3:=Nz (k:=b+m-1) (by omega);rw [e3];exact (Int.ofNat_tmod _ _).symm
def feF (g:Nat->E6) (m:Nat) (b:Nat):Bool:=ieq (g ((b+m-1) % m)).kind 5
theorem AgN (L:LT) (a:Int) (n:Nat) (g:Nat->E6) (m:Nat) (x:Nat->Ev5) (t:Nat) (k:Int) (p:Nat) (r:Nat->Int) (q:Nat) (ln:Nat->Nat) (co:Nat->Nat->Int) (O:WrOK n m t x):∀ (e b:Nat) (j:Nat->V) (u:Nat),m=b+e->e<u ->
  (A3 (IO L) (W9 a n g m x t k p r q ln co) u (TF a n g m x t k p r q ln co b (wsF (feF g m) x b).nx (wsF (feF g m) x b).lw (cR (feF g m) x b) (yR (feF g m) x b) j)).sem=some (UY a n g m x t k p r q ln co m (wsF (feF g m) x m).nx (wsF (feF g m) x m).lw (cR (feF g m) x m) (yR (feF g m) x m))
 | 0,b,j,u+1,h,_=>by
  have:m=b:=by omega
  subst this;exact Ae (AlT L a n g m x t k p r q ln co m _ _ _ _ j (Aw (Nat.le_refl _)))
 | e+1,b,j,u+1,h,h2=>by
  have hb:b<m:=by omega
  have next:=AgN L a n g m x t k p r q ln co O e (b+1) Aa u (by omega) (by omega)
  have m16:=O.m16;have hth:=O.th b hb;have hl:=Aa0 (feF g m) x (toN (x b).th) b;have hu:nlt (toN (x b).th) t=true:=by
   obtain ⟨h0,h1⟩:=AO hth;have e:=Qa h0;rw [e,BP] at h1;rw [e];exact h1
  rw [show wsF (feF g m) x (b+1)=evW (feF g m b) (x b) b (wsF (feF g m) x b) from rfl,show cR (feF g m) x (b+1)=evC (feF g m b) (x b) (wsF (feF g m) x b) (cR (feF g m) x b) from rfl,show yR (feF g m) x (b+1)=As b (yR (feF g m) x b) (iV (yvW (x b) (wsF (feF g m) x b))) from rfl] at next
  generalize wsF (feF g m) x b=W at hl next ⊢
  generalize cR (feF g m) x b=c at next ⊢
  generalize yR (feF g m) x b=y at next ⊢
  have hJ:=AeX hb m16;have hj:Ao (ile 0 (Ar (wr .i64 (AC (wr .i64 (Ak (ofNat b) (ofNat m))) 1)) (ofNat m))) (ilt (Ar (wr .i64 (AC (wr .i64 (Ak (ofNat b) (ofNat m))) 1)) (ofNat m)) (ofNat n))=true:=by rw [hJ]; exact Ag (O.ed b hb)
  have hf0:ieq (g (toN (Ar (wr .i64 (AC (wr .i64 (Ak (ofNat b) (ofNat m))) 1)) (ofNat m)))).kind 5=feF g m b:=by rw [hJ]; rfl
  unfold evW evC yvW Sz at next
  cases hF:feF g m b <;> rw [hF] at hf0 next <;> have hf:=hf0 <;> cases hd:ieq (x b).dir 2 <;> rw [hd] at next
  ·rw [Ae (AlS L a n g m x t k p r q ln co b W.nx W.lw c y j (ofNat_lt hb) (AX b) hth (N1 (by omega)) hj hf hd hu (C0 (by omega)) (by rw [nbeq_self]; rfl) (C0 (by omega))),A6,Ap hb (by omega),Ah0,AcI]
   exact next
  ·rw [Ae (AlR L a n g m x t k p r q ln co b W.nx W.lw c y j (ofNat_lt hb) (AX b) hth (N1 (by omega)) hj hf hd hu (C0 (by omega)) (C0 (by omega))),A6,Ap hb (by omega),Ah0]
   exact next
  ·rw [Ae (AiI L a n g m x t k p r q ln co b W.nx W.lw c y j (ofNat_lt hb) (AX b) hth (N1 (by omega)) hj hf hu (C0 (by omega)) hd (by rw [nbeq_self]; rfl) (C0 (by rw [nbeq_self]; show (W.lw (toN (x b).th)+1+1) * 80 <= _; omega)) (by rw [nbeq_self]; rfl) (C0 (by omega))),A6,Ap hb (by omega),Ahz,AcI]
   exact next
  ·rw [Ae (AiH L a n g m x t k p r q ln co b W.nx W.lw c y j (ofNat_lt hb) (AX b) hth (N1 (by omega)) hj hf hu (C0 (by omega)) hd (by rw [nbeq_self]; rfl) (C0 (by rw [nbeq_self]; show (W.lw (toN (x b).th)+1+1) * 80 <= _; omega)) (C0 (by omega))),A6,Ap hb (by omega),Ahz]
   exact next
def Sj (_:Int) (_:Nat) (_:Nat->E6) (_:Nat) (_:Nat->Ev5) (t:Nat) (_:Int) (_:Nat) (_:Nat->Int) (_:Nat) (_:Nat->Nat) (_:Nat->Nat->Int):Lp:=⟨bmK 73 0 [1,2,3,4,5,11,56,57,58],6,bmK 73 0 [1,2,3,4,5,11],6,t+1⟩
def Oc (a:Int) (n:Nat) (g:Nat->E6) (m:Nat) (x:Nat->Ev5) (t:Nat) (k:Int) (p:Nat) (r:Nat->Int) (q:Nat) (ln:Nat->Nat) (co:Nat->Nat->Int) (b:Nat) (nx:Nat->Int) (lw:Nat->Nat) (cw:Nat->Nat->V) (y gz:Nat->V) (lv:Nat->Bool) (lo:Nat->Nat) (mo:Nat->Nat->V) (j:Nat->V):St:=⟨jsV 73 0 j [(1,.ptr 0 0),(2,.jref 1),(3,.ref 2),(4,.jref 3),(5,.ref 4),(11,.jref 5),(56,.jref 3),(57,nV t),(58,nV b)],[.cells [iV a,.sl 6 n (λi=>eV (g i)),.sl 5 m (λi=>evV (x i)),nV t,iV k,.sl 1 p (λi=>iV (r i)),.sl 1 q (λu=>.sl 1 (ln u) (λi=>iV (co u i)))],.jag (Jag.mk 49 1 0 Aa 0 51 8 (λ_=>true) (λ_=>0) (λ_ _=>.und)),.row 3 1 0 Aa,.jag (Jag.mk 89 2 t (λu=>.agg [.nilS,iV (nx u)]) 0 51 8 lv lw cw),.row 3 1 m y,.jag (Jag.mk 49 1 b gz 0 51 8 (λ_=>true) lo mo)]⟩
def Lk (a:Int) (n:Nat) (g:Nat->E6) (m:Nat) (x:Nat->Ev5) (t:Nat) (k:Int) (p:Nat) (r:Nat->Int) (q:Nat) (ln:Nat->Nat) (co:Nat->Nat->Int) (b:Nat) (nx:Nat->Int) (lw:Nat->Nat) (cw:Nat->Nat->V) (y gz:Nat->V) (lv:Nat->Bool) (lo:Nat->Nat) (mo:Nat->Nat->V):Ex×St:=(.ex 2,⟨jsV 73 0 Aa [(1,.ptr 0 0),(2,.jref 1),(3,.ref 2),(4,.jref 3),(5,.ref 4),(11,.jref 5)],[.cells [iV a,.sl 6 n (λi=>eV (g i)),.sl 5 m (λi=>evV (x i)),nV t,iV k,.sl 1 p (λi=>iV (r i)),.sl 1 q (λu=>.sl 1 (ln u) (λi=>iV (co u i)))],.jag (Jag.mk 49 1 0 Aa 0 51 8 (λ_=>true) (λ_=>0) (λ_ _=>.und)),.row 3 1 0 Aa,.jag (Jag.mk 89 2 t (λu=>.agg [.nilS,iV (nx u)]) 0 51 8 lv lw cw),.row 3 1 m y,.jag (Jag.mk 49 1 b gz 0 51 8 (λ_=>true) lo mo)]⟩)
noncomputable def IN (L:LT):St->T (Ex×St):=λst=>AD tab ⟨Mz,L,Gl⟩ (Au Tryz.f16 2) 2 st
section
variable (L:LT) (a:Int) (n:Nat) (g:Nat->E6) (m:Nat) (x:Nat->Ev5) (t:Nat) (k:Int) (p:Nat) (r:Nat->Int) (q:Nat) (ln:Nat->Nat) (co:Nat->Nat->Int) (b:Nat) (nx:Nat->Int) (lw:Nat->Nat) (cw:Nat->Nat->V) (y gz:Nat->V) (lv:Nat->Bool) (lo:Nat->Nat) (mo:Nat->Nat->V)  (j:Nat->V)
include L a n g m x t k p r q ln co b nx lw cw y gz lv lo mo j
theorem AlE (h0:ilt (ofNat b) (ofNat t)=false):Al (IN L) (Sj a n g m x t k p r q ln co) (Oc a n g m x t k p r q ln co b nx lw cw y gz lv lo mo j)=some ((.ex 2),⟨jsV 73 0 Aa [(1,.ptr 0 0),(2,.jref 1),(3,.ref 2),(4,.jref 3),(5,.ref 4),(11,.jref 5)],[.cells [iV a,.sl 6 n (λi=>eV (g i)),.sl 5 m (λi=>evV (x i)),nV t,iV k,.sl 1 p (λi=>iV (r i)),.sl 1 q (λu=>.sl 1 (ln u) (λi=>iV (co u i)))],.jag (Jag.mk 49 1 0 Aa 0 51 8 (λ_=>true) (λ_=>0) (λ_ _=>.und)),.row 3 1 0 Aa,.jag (Jag.mk 89 2 t (λu=>.agg [.nilS,iV (nx u)]) 0 51 8 lv lw (λi i_1=>cw i i_1)),.row 3 1 m y,.jag (Jag.mk 49 1 b gz 0 51 8 (λ_=>true) lo (λi i_1=>mo i i_1))]⟩):=by
 exact Ac (ks:=[kn h0]) (by kernel_rfl)
theorem AlD (h0:ilt (ofNat b) (ofNat t)=true) (h27:ile 0 (ofNat b)=true) (h28:nlt b t=true) (h29:lv b=true) (h30:Bn b 1 24=true):Al (IN L) (Sj a n g m x t k p r q ln co) (Oc a n g m x t k p r q ln co b nx lw cw y gz lv lo mo j)=some (.nm,⟨jsV 73 0 Aa [(1,.ptr 0 0),(2,.jref 1),(3,.ref 2),(4,.jref 3),(5,.ref 4),(11,.jref 5),(56,.jref 3),(57,nV t),(58,iV (wr .i64 (Ak (ofNat b) 1)))],[.cells [iV a,.sl 6 n (λi=>eV (g i)),.sl 5 m (λi=>evV (x i)),nV t,iV k,.sl 1 p (λi=>iV (r i)),.sl 1 q (λu=>.sl 1 (ln u) (λi=>iV (co u i)))],.jag (Jag.mk 49 1 0 Aa 0 51 8 (λ_=>true) (λ_=>0) (λ_ _=>.und)),.row 3 1 0 Aa,.jag (Jag.mk 89 2 t (λi=>.agg [.nilS,iV (nx i)]) 0 51 8 (λi=>sel (AW i b) false (lv i)) lw (λi i_1=>cw i i_1)),.row 3 1 m y,.jag (Jag.mk 49 1 (AV b 1) (As b gz .und) 0 51 8 (λi=>sel (AW i b) true true) (λi=>sel (AW i b) (lw b) (lo i)) (λi i_1=>Cm (λi_2 i_3=>mo i_2 i_3) b (cw b) i i_1))]⟩):=by
 exact Ac (ks:=[kn h0,kA (kn h27) (kn h0),kn h28,kn h29,kn h29,kT,kn h30]) (by kernel_rfl)
end
def ApK (a:Int) (n:Nat) (g:Nat->E6) (m:Nat) (x:Nat->Ev5) (t:Nat) (k:Int) (p:Nat) (r:Nat->Int) (q:Nat) (ln:Nat->Nat) (co:Nat->Nat->Int) :Nat->V:=lkV A9 [(0,.agg [iV a,.sl 6 n (λi=>eV (g i)),.sl 5 m (λi=>evV (x i)),nV t,iV k,.sl 1 p (λi=>iV (r i)),.sl 1 q (λu=>.sl 1 (ln u) (λi=>iV (co u i)))]),(13,.ptr 0 3),(14,nV t),(15,.jref 3),(16,.ptr 0 2),(17,.sl 5 m (λi=>evV (x i))),(18,nV m),(19,.ptr 0 2)]
def Akh (_:Int) (_:Nat) (_:Nat->E6) (_:Nat) (_:Nat->Ev5) (_:Nat) (_:Int) (_:Nat) (_:Nat->Int) (_:Nat) (_:Nat->Nat) (_:Nat->Nat->Int) (_:Nat->Int) (_:Nat->Nat) (_:Nat->Nat->V) (_:Nat->V):Nat->V:=lkU 9444228562581024929729 []
theorem w75 (L:LT) (p0:PT) (p2:PT) (a:Int) (n:Nat) (g:Nat->E6) (m:Nat) (x:Nat->Ev5) (t:Nat) (k:Int) (p:Nat) (r:Nat->Int) (q:Nat) (ln:Nat->Nat) (co:Nat->Nat->Int) (nx:Nat->Int) (lw:Nat->Nat) (cw:Nat->Nat->V) (y gz:Nat->V) (lv:Nat->Bool) (lo:Nat->Nat) (mo:Nat->Nat->V) (h26:E8 32 (ofNat t) (ofNat t)=true) (hp0:p0 (IO (onP 0 p0 (UY a n g m x t k p r q ln co m nx lw cw y) (onP 2 p2 (Lk a n g m x t k p r q ln co t nx lw cw y gz lv lo mo) L))) (TF a n g m x t k p r q ln co 0 (λ_=>0) (λ_=>0) (λ_ _=>.und) Aa (ApK a n g m x t k p r q ln co))=true) (hp2:p2 (IN (onP 0 p0 (UY a n g m x t k p r q ln co m nx lw cw y) (onP 2 p2 (Lk a n g m x t k p r q ln co t nx lw cw y gz lv lo mo) L))) (Oc a n g m x t k p r q ln co 0 nx lw cw y Aa (λ_=>true) (λ_=>0) (λ_ _=>.und) (Akh a n g m x t k p r q ln co nx lw cw y))=true):(Ay (Ai tab ⟨Mz,onP 0 p0 (UY a n g m x t k p r q ln co m nx lw cw y) (onP 2 p2 (Lk a n g m x t k p r q ln co t nx lw cw y gz lv lo mo) L),Gl⟩ Tryz.f16 [.agg [iV a,.sl 6 n (λi=>eV (g i)),.sl 5 m (λi=>evV (x i)),nV t,iV k,.sl 1 p (λi=>iV (r i)),.sl 1 q (λu=>.sl 1 (ln u) (λi=>iV (co u i)))]] [])).sem=some ((.tup [.jref 0,.ref 1]),[.jag (Jag.mk 49 1 t gz 0 51 8 (λ_=>true) lo (λi i_1=>mo i i_1)),.row 3 1 m y]):=by
 exact Ac (ks:=[kn h26,kn hp0,kn hp2]) (by kernel_rfl)
def MU (t:Nat):Nat->Nat->Bool
 | 0=>λ_=>true
 | b+1=>λi=>sel (AW i b) false (MU t b i)
def JA:Nat->Nat->V
 | 0=>λ_=>.und
 | b+1=>As b (JA b) .und
def Gq (lw:Nat->Nat):Nat->Nat->Nat
 | 0=>λ_=>0
 | b+1=>λi=>sel (AW i b) (lw b) (Gq lw b i)
def Hm (cw:Nat->Nat->V):Nat->Nat->Nat->V
 | 0=>λ_ _=>.und
 | b+1=>Cm (Hm cw b) b (cw b)
theorem Uu (t:Nat):∀ b i,b <= i->MU t b i=true
 | 0,_,_=>rfl
 | b+1,i,h=>by
  show sel (AW i b) false (MU t b i)=true;rw [show AW i b=false from Go.Sy.nbeq_ne (by omega),Uu t b i (by omega)];rfl
theorem KJ (lw:Nat->Nat):∀ b i,i<b->Gq lw b i=lw i
 | b+1,i,h=>by
  show sel (AW i b) (lw b) (Gq lw b i)=lw i;by_cases he:i=b
  ·subst he; rw [nbeq_self]; rfl
  ·rw [show AW i b=false from Go.Sy.nbeq_ne he,KJ lw b i (by omega)]; rfl
theorem Sf (cw:Nat->Nat->V):∀ b i,i<b->Hm cw b i=cw i
 | b+1,i,h=>by
  show Cm (Hm cw b) b (cw b) i=cw i;by_cases he:i=b
  ·subst he; exact F9 _ _ _
  ·rw [Jh he]; exact Sf cw b i (by omega)
theorem Ahy (b:Nat):(λi=>sel (AW i b) true true)=λ_=>true:=by
 funext i; cases AW i b <;> rfl
theorem Abw (L:LT) (a:Int) (n:Nat) (g:Nat->E6) (m:Nat) (x:Nat->Ev5) (t:Nat) (k:Int) (p:Nat) (r:Nat->Int) (q:Nat) (ln:Nat->Nat) (co:Nat->Nat->Int) (t16:t <= 16) (nx:Nat->Int) (lw:Nat->Nat) (cw:Nat->Nat->V) (y:Nat->V):∀ (e b:Nat) (j:Nat->V) (u:Nat),t=b+e->e<u ->
  (A3 (IN L) (Sj a n g m x t k p r q ln co) u (Oc a n g m x t k p r q ln co b nx lw cw y (JA b) (MU t b) (Gq lw b) (Hm cw b) j)).sem=some (Lk a n g m x t k p r q ln co t nx lw cw y (JA t) (MU t t) (Gq lw t) (Hm cw t))
 | 0,b,j,u+1,h,_=>by
  have:t=b:=by omega
  subst this;exact Ae (AlE L a n g m x t k p r q ln co t _ _ _ _ _ _ _ _ j (Aw (Nat.le_refl _)))
 | e+1,b,j,u+1,h,h2=>by
  have hb:b<t:=by omega
  have hb2:nlt b t=true:=decide_eq_true hb;have hv:=Uu t b b (Nat.le_refl _);have next:=Abw L a n g m x t k p r q ln co t16 nx lw cw y e (b+1) Aa u (by omega) (by omega)
  rw [Ae (AlD L a n g m x t k p r q ln co b nx lw cw y (JA b) (MU t b) (Gq lw b) (Hm cw b) j (ofNat_lt hb) (AX b) hb2 hv (C0 (by omega))),A6,Ap hb (by omega),Ahy];exact next
def wrB (s:Sh7):Bool:=Ao (Nat.ble s.nx 16) (Ao (Nat.ble (toN s.tt) 16) (Ao (ieq s.tt (ofNat (toN s.tt))) (Ao (A4 s.nx λb=>Ao (ile 0 (s.X b).th) (ilt (s.X b).th s.tt)) (A4 s.nx λb=>nlt ((b+s.nx-1) % s.nx) s.ne))))
theorem AhW {s:Sh7} (h:wrB s=true):∃ t,s.tt=ofNat t∧WrOK s.ne s.nx t s.X:=by
 obtain ⟨h1,h⟩:=AO h;obtain ⟨h2,h⟩:=AO h;obtain ⟨h3,h⟩:=AO h;obtain ⟨h4,h5⟩:=AO h;refine ⟨toN s.tt,BX h3,⟨Nat.le_of_ble_eq_true h1,Nat.le_of_ble_eq_true h2,λb hb=>?_,λb hb=>?_⟩⟩
 ·rw [<- BX h3]; exact A0.1 h4 b hb
 ·exact of_decide_eq_true (A0.1 h5 b hb)
def wsS (s:Sh7):Wr4:=wsF (feF s.E s.nx) s.X s.nx
def Aoa (s:Sh7):List Blk:=[.jag ⟨49,1,toN s.tt,λ_=>.und,0,51,8,λ_=>true,(wsS s).lw,cV (wsS s)⟩,.row 3 1 s.nx (yV (wsS s))]
def NP:List V->AE
 | [v]=>apS v λs=>.br (wrB s) (.leaf (.tup [.jref 0,.ref 1],Aoa s)) .fail
 | _=>.fail
theorem p75:Ax Tryz.prog Gl 16 NP:=by
 refine Aj A7 mixed Tryz.func16 (by kernel_rfl) (by kernel_rfl) λvs v h' h=>?_;unfold NP at h;split at h
 ·rename_i v1
  obtain ⟨s,a1,h⟩:=apS_some h;obtain ⟨hw,h⟩:=Ad h;have:=Ab h;simp only [Prod.mk.injEq] at this;obtain ⟨rfl,rfl⟩:=this;obtain ⟨t,ht,O⟩:=AhW hw;obtain ⟨a,n,g,m,x,tt,k,p,r,q,C⟩:=s;have ht:tt=ofNat t:=ht;subst ht;have O:WrOK n m t x:=O;have m16:=O.m16;have t16:=O.t16;obtain ⟨ln,co,hC⟩:∃ (ln:Nat->Nat) (co:Nat->Nat->Int),C=λu=>(ln u,co u):=⟨λu=>(C u).1,λu=>(C u).2,rfl⟩;subst hC;have hA:Bj [v1] [.agg [iV a,.sl 6 n (λi=>eV (g i)),.sl 5 m (λi=>evV (x i)),nV t,iV k,.sl 1 p (λi=>iV (r i)),.sl 1 q (λu=>.sl 1 (ln u) (λi=>iV (co u i)))]]:=λS w cs hv=>by
   obtain ⟨c,l,rfl,q1,q2⟩:=hv;exact ⟨c,_,rfl,a1 S w c q1,q2⟩
  have hm:E8 32 (ofNat t) (ofNat t)=true:=by
   unfold E8;simp only [Int.ofNat_eq_natCast,Bool.and_eq_true,decide_eq_true_eq];omega
  generalize hls:[(0,W9 a n g m x t k p r q ln co),(2,Sj a n g m x t k p r q ln co)]=ls;have hx:Cd ⟨Mz,Ba ls,Gl⟩:=λid f st r hr=>by
   have hr:(Ba ls id f st).sem=some r:=hr;unfold Ba at hr;split at hr
   ·exact Hr hr
   ·cases hr
  have hL:=AQ ls;generalize hW:wsF (feF g m) x m=W;generalize hc:cR (feF g m) x m=c;generalize hy:yR (feF g m) x m=y;have i0:∀ L' j,(Ba ls 0 (IO L') (TF a n g m x t k p r q ln co 0 (λ_=>0) (λ_=>0) (λ_ _=>.und) Aa j)).sem=some (UY a n g m x t k p r q ln co m W.nx W.lw c y):=λL' j=>by
   subst hls;have:=AgN L' a n g m x t k p r q ln co O m 0 j (m+1) (by omega) (by omega);rw [hW,hc,hy] at this;exact this
  have i2:∀ L' j,(Ba ls 2 (IN L') (Oc a n g m x t k p r q ln co 0 W.nx W.lw c y Aa (λ_=>true) (λ_=>0) (λ_ _=>.und) j)).sem=some (Lk a n g m x t k p r q ln co t W.nx W.lw c y (JA t) (MU t t) (Gq W.lw t) (Hm c t)):=λL' j=>by
   subst hls;exact Abw L' a n g m x t k p r q ln co t16 W.nx W.lw c y t 0 j (t+1) (by omega) (by omega)
  refine ⟨_,⟨Mz,Ba ls,Gl⟩,_,hA,rfl,Aaj,hx,AP (AI (AI hL hL) hL) _ (w75 _ _ _ a n g m x t k p r q ln co W.nx W.lw c y (JA t) (MU t t) (Gq W.lw t) (Hm c t) hm (Az (i0 _ _)) (Az (i2 _ _))),?_⟩;refine .consB (.jag (λ_ _=>.inr rfl) (λ_ _=>rfl) (λk hk=>?_) (λk hk q hq=>?_)) (.one λi hi=>?_)
  ·have hk:k<t:=hk
   show (wsS _).lw k=Gq W.lw t k;rw [KJ _ _ _ hk,<- hW];rfl
  ·have hk:k<t:=hk
   have hq:q<Gq W.lw t k:=hq;show cV (wsS _) k q=Hm c t k q;rw [Sf _ _ _ hk,<- hc];rw [KJ _ _ _ hk,<- hW] at hq;exact (AhJ _ _ _ _ _ hq).symm
  ·show yV (wsS _) i=y i
   rw [<- hy];exact (AgC _ _ _ _ hi).symm
 ·cases h
end Go.Proofs.YtkgdhhieomndeaaGreatDoor.Sh
namespace Go.Proofs.YtkgdhhieomndeaaGreatDoor.Sh
open Go.Sy Ed
set_option maxHeartbeats 1000000
set_option maxRecDepth 4000
noncomputable def Ai4:AK:=(35,GE)::(16,NP)::[]
theorem Rm:Aq Tryz.prog Gl Ai4:=.cons AbK <| .cons p75 .nil
noncomputable def Ak1:Cx:=⟨Lx [(14,PS tab (AA Gl Ai4 []) Tryz.f14)] (Am Ai4),Ba [],Gl⟩
theorem YM:Bv Tryz.prog Ak1.base∧Cd Ak1 :=
 ⟨Hx mixed (.cons rfl A7 (AH Rm []).1 (AH Rm []).2 Tryz.func14 (by kernel_rfl) (by kernel_rfl) .nil) (D5 rfl Rm),
  λid f st r hr=>by
   have hr:(Ba [] id f st).sem=some r:=hr;cases hr⟩
noncomputable def tb43:AK:=(32,psT)::(33,ofT)::[]
theorem tb43_ok:Aq Tryz.prog Gl tb43:=.cons p41 <| .cons p15 .nil
noncomputable def Agp:Cx:=⟨Lx [(34,PS tab Ak1 Tryz.f34)] (Am tb43),Ba [],Gl⟩
theorem Ago:Bv Tryz.prog Agp.base∧Cd Agp :=
 ⟨Hx mixed (.cons rfl A7 YM.1 YM.2 Tryz.func34 (by kernel_rfl) (by kernel_rfl) .nil) (D5 rfl tb43_ok),
  λid f st r hr=>by
   have hr:(Ba [] id f st).sem=some r:=hr;cases hr⟩
theorem Aog:(Ay (Ai tab Agp Tryz.f10 [] [])).sem=some (bV true,[]):=by kernel_rfl
theorem p43:Ax Tryz.prog Gl 10 (AaB (bV true)):=by
 refine Ax.congr (AM A7 mixed Tryz.func10 (by kernel_rfl) (by kernel_rfl) (Γ:=Agp) Ago) λvs r h=>?_;unfold AaB at h;split at h
 ·rw [Ab h]
  exact Aog
 ·cases h
end Go.Proofs.YtkgdhhieomndeaaGreatDoor.Sh
