/-
  Layer 11: a shape's threads as code (function 75, with 107 and 116 in it). No conditions.
-/
import Derived.Test.YtjhnfomefcngfaaShT
namespace Go.Proofs.Ytjhnfomefcngfaa.Sh
open Go.Sy Ed
open Int (ofNat)
set_option maxHeartbeats 1000000
set_option maxRecDepth 4000
noncomputable def AaK:List (Nat × (List V->T (V × List Blk))):=[(37,Agt)]
theorem M8:AB Try.prog Gl AaK:=.cons p37 .nil
noncomputable def Aj8:Cx:=AS Gl AaK []
noncomputable def ZR:Cx:=⟨KP [(116,KA tab Aj8 Try.f116)] (Ap AaK),Bb [],Gl⟩
noncomputable def LI:FuncId->List V->St->T (V × Res):=KP [(107,KA tab ZR Try.f107)] (Ap AaK)
theorem Tr:Bj Try.prog ZR.base ∧ BO ZR :=
 ⟨Hm AP (.cons rfl AO (AQ M8 []).1 (AQ M8 []).2 Try.func116 (by kernel_rfl) (by kernel_rfl) .nil) (En rfl M8),
  λid f st r hr=>by
   have hr:(Bb [] id f st).sem = some r:=hr
   cases hr⟩
theorem Xz:Bj Try.prog ⟨LI,Gl⟩:=Hm AP (.cons rfl AO Tr.1 Tr.2 Try.func107 (by kernel_rfl) (by kernel_rfl) .nil) (En rfl M8)
structure In4 where
 op:Int
 d:Int
 imm:Int
 loc:List UInt8
def inV (i:In4):V:=.agg [iV i.op,iV i.d,iV 0,iV 0,iV i.imm,.str i.loc,.str [],iV 0]
def Eh:In4:=⟨5,0,0,[]⟩
def Nh (x:Ev5):In4:=⟨1,0,x.val,D3 x.loc⟩
def S8 (d:Int) (x:Ev5):In4:=⟨3,d,0,D3 x.loc⟩
structure Wr4 where
 nx:Nat->Int
 lw:Nat->Nat
 cw:Nat->Nat->In4
 y:Nat->Int
def H4 (lw:Nat->Nat) (u:Nat):Nat->Nat:=λi=>sel (A3 i u) (Bn (lw u) 1) (lw i)
def M3 (lw:Nat->Nat) (cw:Nat->Nat->In4) (u:Nat) (v:In4):Nat->Nat->In4:=λi j=>bif A3 i u then (bif A3 j (lw u) then v else cw u j) else cw i j
def Abt (W:Wr4) (u:Nat) (v:In4):Wr4:=⟨W.nx,H4 W.lw u,M3 W.lw W.cw u v,W.y⟩
def yW (W:Wr4) (b:Nat) (v:Int):Wr4:={ W with y:=λi=>bif A3 i b then v else W.y i }
def nxW (W:Wr4) (u:Nat):Wr4:={ W with nx:=λi=>sel (A3 i u) (wr .i64 (Ae (W.nx u) 1)) (W.nx i) }
def yvW (x:Ev5) (W:Wr4):Int:=bif ieq x.dir 2 then -1 else wr .i64 (A2 (sel (A3 (toN x.th) (toN x.th)) (wr .i64 (Ae (W.nx (toN x.th)) 1)) (W.nx (toN x.th))) 1)
def JQ (x:Ev5) (W:Wr4):In4:=bif ieq x.dir 2 then Nh x else S8 (W.nx (toN x.th)) x
def evW (fe:Bool) (x:Ev5) (b:Nat) (W:Wr4):Wr4 :=
 yW (bif ieq x.dir 2 then Abt (bif fe then Abt W (toN x.th) Eh else W) (toN x.th) (JQ x W) else nxW (Abt (bif fe then Abt W (toN x.th) Eh else W) (toN x.th) (JQ x W)) (toN x.th)) b (yvW x W)
def evC (fe:Bool) (x:Ev5) (W:Wr4) (c:Nat->Nat->V):Nat->Nat->V :=
 bif fe then Cm (Cm c (toN x.th) (AE (W.lw (toN x.th)) (c (toN x.th)) (inV Eh))) (toN x.th) (AE (H4 W.lw (toN x.th) (toN x.th)) (Cm c (toN x.th) (AE (W.lw (toN x.th)) (c (toN x.th)) (inV Eh)) (toN x.th)) (inV (JQ x W)))
 else Cm c (toN x.th) (AE (W.lw (toN x.th)) (c (toN x.th)) (inV (JQ x W)))
def W0:Wr4:=⟨λ_=>0,λ_=>0,λ_ _=>Eh,λ_=>0⟩
def wsF (fe:Nat->Bool) (x:Nat->Ev5):Nat->Wr4
 | 0=>W0
 | b+1=>evW (fe b) (x b) b (wsF fe x b)
def cV (W:Wr4):Nat->Nat->V:=λi j=>inV (W.cw i j)
def yV (W:Wr4):Nat->V:=λi=>iV (W.y i)
def cR (fe:Nat->Bool) (x:Nat->Ev5):Nat->Nat->Nat->V
 | 0=>λ_ _=>.und
 | b+1=>evC (fe b) (x b) (wsF fe x b) (cR fe x b)
def yR (fe:Nat->Bool) (x:Nat->Ev5):Nat->Nat->V
 | 0=>λ_=>.und
 | b+1=>AE b (yR fe x b) (iV (yvW (x b) (wsF fe x b)))
theorem Up {lw:Nat->Nat} {cw:Nat->Nat->In4} {c:Nat->Nat->V} (h:∀ i j,j < lw i->c i j = inV (cw i j)) (u:Nat) (v:In4) :
  ∀ i j,j < H4 lw u i->Cm c u (AE (lw u) (c u) (inV v)) i j = inV (M3 lw cw u v i j):=λi j hj=>by
 unfold H4 at hj
 unfold Cm M3
 rw [Fv,BC]
 cases hi:A3 i u with
 | true =>
  rw [hi] at hj
  have hj:j < lw u+1:=hj
  show (bif Nat.beq j (lw u) then _ else _) = inV (bif Nat.beq j (lw u) then _ else _)
  cases hb:Nat.beq j (lw u) with
  | true=>rfl
  | false=>exact h u j (by have:=Nat.ne_of_beq_eq_false hb; omega)
 | false =>
  rw [hi] at hj
  exact h i j hj
theorem Ade (fe:Nat->Bool) (x:Nat->Ev5):∀ b i j,j < (wsF fe x b).lw i->cR fe x b i j = inV ((wsF fe x b).cw i j)
 | 0,_,_,h=>by cases h
 | b+1,i,j,h=>by
  have ih:=Ade fe x b
  have h:j < (evW (fe b) (x b) b (wsF fe x b)).lw i:=h
  show evC (fe b) (x b) (wsF fe x b) (cR fe x b) i j = inV ((evW (fe b) (x b) b (wsF fe x b)).cw i j)
  revert h
  unfold evC evW
  generalize JQ (x b) (wsF fe x b) = v
  cases fe b with
  | false=>cases ieq (x b).dir 2 <;> exact Up ih _ v i j
  | true =>
   have ih2:=Up ih (toN (x b).th) Eh
   have h2:=Up ih2 (toN (x b).th) v i j
   cases ieq (x b).dir 2 <;> exact h2
theorem Acz (fe:Nat->Bool) (x:Nat->Ev5):∀ b i,i < b->yR fe x b i = iV ((wsF fe x b).y i)
 | b+1,i,h=>by
  show AE b (yR fe x b) (iV (yvW (x b) (wsF fe x b))) i = iV ((evW (fe b) (x b) b (wsF fe x b)).y i)
  have e:(evW (fe b) (x b) b (wsF fe x b)).y i = bif A3 i b then yvW (x b) (wsF fe x b) else (wsF fe x b).y i:=by
   unfold evW; cases fe b <;> cases ieq (x b).dir 2 <;> rfl
  rw [e,BC]
  show (bif Nat.beq i b then _ else _) = iV (bif Nat.beq i b then _ else _)
  cases hb:Nat.beq i b with
  | true=>rfl
  | false=>exact Acz fe x b i (by have:=Nat.ne_of_beq_eq_false hb; omega)
theorem AcR (u:Nat):(λi=>sel (A3 i u) true (sel (A3 i u) false true)) = λ_=>true:=by
 funext i; cases A3 i u <;> rfl
theorem AcQ (u:Nat):(λi=>sel (A3 i u) true (sel (A3 i u) false (sel (A3 i u) true (sel (A3 i u) false true)))) = λ_=>true:=by
 funext i; cases A3 i u <;> rfl
theorem Z2 (u:Nat) (f:Nat->Int):(λi=>V.agg [cif (A3 i u) .nilS .nilS,iV (f i)]) = λi=>V.agg [.nilS,iV (f i)]:=by
 funext i; cases A3 i u <;> rfl
theorem AgB (fe:Bool) (x:Ev5) (b:Nat) (W:Wr4) (i:Nat):(evW fe x b W).lw i <= W.lw i+2:=by
 have h:∀ (lw:Nat->Nat) (u i:Nat),H4 lw u i <= lw i+1:=λlw u i=>by
  unfold H4
  cases h:A3 i u with
  | true=>have:i = u:=Nat.eq_of_beq_eq_true h; subst this; exact Nat.le_refl _
  | false=>exact Nat.le_succ _
 have e:(evW fe x b W).lw i = H4 (bif fe then H4 W.lw (toN x.th) else W.lw) (toN x.th) i:=by unfold evW; cases fe <;> cases ieq x.dir 2 <;> rfl
 rw [e]
 cases fe
 ·exact Nat.le_trans (h _ _ _) (Nat.succ_le_succ (Nat.le_succ _))
 ·exact Nat.le_trans (h _ _ _) (Nat.succ_le_succ (h _ _ _))
theorem T9 (fe:Nat->Bool) (x:Nat->Ev5) (i:Nat):∀ b,(wsF fe x b).lw i <= 2 * b
 | 0=>Nat.le_refl _
 | b+1=>by have:=AgB (fe b) (x b) b (wsF fe x b) i; have:=T9 fe x i b; show (evW _ _ _ _).lw i <= _; omega
def U1 (a:Int) (n:Nat) (g:Nat->E6) (m:Nat) (x:Nat->Ev5) (t:Nat) (k:Int) (p:Nat) (r:Nat->Int) (q:Nat) (ln:Nat->Nat) (co:Nat->Nat->Int):Lp:=⟨(bmK 73 0 [1,2,3,4,5,6,20,21,22]),5,bmK 73 0 [1,2,3,4,5],5,m+1⟩
def Qp (a:Int) (n:Nat) (g:Nat->E6) (m:Nat) (x:Nat->Ev5) (t:Nat) (k:Int) (p:Nat) (r:Nat->Int) (q:Nat) (ln:Nat->Nat) (co:Nat->Nat->Int) (b:Nat) (nx:Nat->Int) (lw:Nat->Nat) (cw:Nat->Nat->V) (y:Nat->V) (j:Nat->V):St:=⟨(jsV 73 0 j [(1,.ptr 0 0),(2,.jref 1),(3,.ref 2),(4,.jref 3),(5,.ref 4),(6,nV m),(20,.sl 5 m (λi=>evV (x i))),(21,nV m),(22,nV b)]),[.cells [iV a,.sl 6 n (λi=>eV (g i)),.sl 5 m (λi=>evV (x i)),nV t,iV k,.sl 1 p (λi=>iV (r i)),.sl 1 q (λu=>.sl 1 (ln u) (λi=>iV (co u i)))],.jag (Jag.mk 64 1 0 (λ_=>.und) 0 66 8 (λ_=>true) (λ_=>0) (λ_ _=>.und)),r3Z,.jag (Jag.mk 118 2 t (λu=>.agg [.nilS,iV (nx u)]) 0 66 8 (λ_=>true) lw cw),.row 3 1 b y]⟩
def On (a:Int) (n:Nat) (g:Nat->E6) (m:Nat) (x:Nat->Ev5) (t:Nat) (k:Int) (p:Nat) (r:Nat->Int) (q:Nat) (ln:Nat->Nat) (co:Nat->Nat->Int) (b:Nat) (nx:Nat->Int) (lw:Nat->Nat) (cw:Nat->Nat->V) (y:Nat->V):Ex × St:=(.ex 0,⟨(jsV 73 0 (λ_=>.und) [(1,.ptr 0 0),(2,.jref 1),(3,.ref 2),(4,.jref 3),(5,.ref 4)]),[.cells [iV a,.sl 6 n (λi=>eV (g i)),.sl 5 m (λi=>evV (x i)),nV t,iV k,.sl 1 p (λi=>iV (r i)),.sl 1 q (λu=>.sl 1 (ln u) (λi=>iV (co u i)))],.jag (Jag.mk 64 1 0 (λ_=>.und) 0 66 8 (λ_=>true) (λ_=>0) (λ_ _=>.und)),r3Z,.jag (Jag.mk 118 2 t (λu=>.agg [.nilS,iV (nx u)]) 0 66 8 (λ_=>true) lw cw),.row 3 1 b y]⟩)
noncomputable def HV (L:LT):St->T (Ex × St):=λst=>AF tab ⟨LI,L,Gl⟩ (A1 Try.f75 0) 0 st
section
variable (L:LT) (a:Int) (n:Nat) (g:Nat->E6) (m:Nat) (x:Nat->Ev5) (t:Nat) (k:Int) (p:Nat) (r:Nat->Int) (q:Nat) (ln:Nat->Nat) (co:Nat->Nat->Int) (b:Nat) (nx:Nat->Int) (lw:Nat->Nat) (cw:Nat->Nat->V) (y:Nat->V)  (j:Nat->V)
include L a n g m x t k p r q ln co b nx lw cw y j
theorem Aic (h0:ilt (ofNat b) (ofNat m) = false):Ai (HV L) (U1 a n g m x t k p r q ln co) (Qp a n g m x t k p r q ln co b nx lw cw y j) = some ((.ex 0),⟨(jsV 73 0 (λ_=>.und) [(1,(.ptr 0 0)),(2,(.jref 1)),(3,(.ref 2)),(4,(.jref 3)),(5,(.ref 4))]),[.cells [iV a,.sl 6 n (λi=>eV (g i)),.sl 5 m (λi=>evV (x i)),nV t,iV k,.sl 1 p (λi=>iV (r i)),.sl 1 q (λu=>.sl 1 (ln u) (λi=>iV (co u i)))],.jag (Jag.mk 64 1 0 (λ_=>.und) 0 66 8 (λ_=>true) (λ_=>0) (λ_ _=>.und)),r3Z,.jag (Jag.mk 118 2 t (λu=>.agg [.nilS,iV (nx u)]) 0 66 8 (λ_=>true) lw (λi i_1=>cw i i_1)),.row 3 1 b y]⟩):=Aa [false] [ilt (ofNat b) (ofNat m)] (by kernel_rfl) (by simp only [h0] <;> rfl)
theorem Aia (h0:ilt (ofNat b) (ofNat m) = true) (h29:ile 0 (ofNat b) = true) (h31:Af (ile 0 ((x b)).th) (ilt ((x b)).th (ofNat t)) = true) (h1:ieq (ofNat m) 0 = false) (h33:Af (ile 0 (Ab (wr .i64 (A2 (wr .i64 (Ae (ofNat b) (ofNat m))) 1)) (ofNat m))) (ilt (Ab (wr .i64 (A2 (wr .i64 (Ae (ofNat b) (ofNat m))) 1)) (ofNat m)) (ofNat n)) = true) (h2:ieq ((g (toN (Ab (wr .i64 (A2 (wr .i64 (Ae (ofNat b) (ofNat m))) 1)) (ofNat m))))).kind 5 = false) (h3:ieq ((x b)).dir 2 = true) (h34:nlt (toN ((x b)).th) t = true) (h35:Bg (lw (toN ((x b)).th)) 1 80 = true) (h36:Bg b 1 8 = true):Ai (HV L) (U1 a n g m x t k p r q ln co) (Qp a n g m x t k p r q ln co b nx lw cw y j) = some (.nm,⟨(jsV 73 0 (λ_=>.und) [(1,(.ptr 0 0)),(2,(.jref 1)),(3,(.ref 2)),(4,(.jref 3)),(5,(.ref 4)),(6,(nV m)),(20,(.sl 5 m (λi=>evV (x i)))),(21,(nV m)),(22,(iV (wr .i64 (Ae (ofNat b) 1))))]),[.cells [iV a,.sl 6 n (λi=>eV (g i)),.sl 5 m (λi=>evV (x i)),nV t,iV k,.sl 1 p (λi=>iV (r i)),.sl 1 q (λu=>.sl 1 (ln u) (λi=>iV (co u i)))],.jag (Jag.mk 64 1 0 (λ_=>.und) 0 66 8 (λ_=>true) (λ_=>0) (λ_ _=>.und)),r3Z,.jag (Jag.mk 118 2 t (λi=>.agg [.nilS,iV (nx i)]) 0 66 8 (λi=>sel (A3 i (toN ((x b)).th)) true (sel (A3 i (toN ((x b)).th)) false true)) (λi=>sel (A3 i (toN ((x b)).th)) (Bn (lw (toN ((x b)).th)) 1) (lw i)) (λi i_1=>Cm (λi_2 i_3=>cw i_2 i_3) (toN ((x b)).th) (AE (lw (toN ((x b)).th)) (cw (toN ((x b)).th)) (.agg [iV 1,iV 0,iV 0,iV 0,iV ((x b)).val,.str (D3 ((x b)).loc),.str [],iV 0])) i i_1)),.row 3 1 (Bn b 1) (AE b y (iV (-1)))]⟩):=Aa (bbK 28 268435415) ((λc0 c1 c2=>[ilt (ofNat b) (ofNat m),Af (ile 0 (ofNat b)) (ilt (ofNat b) (ofNat m)),Af (ile 0 ((x b)).th) (ilt ((x b)).th (ofNat t)),ieq (ofNat m) 0,Af (ile 0 (Ab (wr .i64 (A2 (wr .i64 (Ae (ofNat b) (ofNat m))) 1)) (ofNat m))) (ilt (Ab (wr .i64 (A2 (wr .i64 (Ae (ofNat b) (ofNat m))) 1)) (ofNat m)) (ofNat n)),ieq ((g (toN (Ab (wr .i64 (A2 (wr .i64 (Ae (ofNat b) (ofNat m))) 1)) (ofNat m))))).kind 5,ieq ((x b)).dir 2,c0,c1,c2,c2,c2,c2,c0,c1,c2,c2,c2,c2,c2,c0,c1,c2,c1,Bg (lw (toN ((x b)).th)) 1 80,c2,c0,Bg b 1 8]) (nlt (toN ((x b)).th) t) (true) (A3 (toN ((x b)).th) (toN ((x b)).th))) (by kernel_rfl) (by simp only [h31,h33] <;> simp only [*,nbeq_self] <;> rfl)
theorem Ae5 (h0:ilt (ofNat b) (ofNat m) = true) (h29:ile 0 (ofNat b) = true) (h31:Af (ile 0 ((x b)).th) (ilt ((x b)).th (ofNat t)) = true) (h1:ieq (ofNat m) 0 = false) (h33:Af (ile 0 (Ab (wr .i64 (A2 (wr .i64 (Ae (ofNat b) (ofNat m))) 1)) (ofNat m))) (ilt (Ab (wr .i64 (A2 (wr .i64 (Ae (ofNat b) (ofNat m))) 1)) (ofNat m)) (ofNat n)) = true) (h2:ieq ((g (toN (Ab (wr .i64 (A2 (wr .i64 (Ae (ofNat b) (ofNat m))) 1)) (ofNat m))))).kind 5 = true) (h34:nlt (toN ((x b)).th) t = true) (h35:Bg (lw (toN ((x b)).th)) 1 80 = true) (h3:ieq ((x b)).dir 2 = true) (h36:sel (A3 (toN ((x b)).th) (toN ((x b)).th)) true (sel (A3 (toN ((x b)).th) (toN ((x b)).th)) false true) = true) (h37:Bg (sel (A3 (toN ((x b)).th) (toN ((x b)).th)) (Bn (lw (toN ((x b)).th)) 1) (lw (toN ((x b)).th))) 1 80 = true) (h38:Bg b 1 8 = true):Ai (HV L) (U1 a n g m x t k p r q ln co) (Qp a n g m x t k p r q ln co b nx lw cw y j) = some (.nm,⟨(jsV 73 0 (λ_=>.und) [(1,(.ptr 0 0)),(2,(.jref 1)),(3,(.ref 2)),(4,(.jref 3)),(5,(.ref 4)),(6,(nV m)),(20,(.sl 5 m (λi=>evV (x i)))),(21,(nV m)),(22,(iV (wr .i64 (Ae (ofNat b) 1))))]),[.cells [iV a,.sl 6 n (λi=>eV (g i)),.sl 5 m (λi=>evV (x i)),nV t,iV k,.sl 1 p (λi=>iV (r i)),.sl 1 q (λu=>.sl 1 (ln u) (λi=>iV (co u i)))],.jag (Jag.mk 64 1 0 (λ_=>.und) 0 66 8 (λ_=>true) (λ_=>0) (λ_ _=>.und)),r3Z,.jag (Jag.mk 118 2 t (λi=>.agg [.nilS,iV (nx i)]) 0 66 8 (λi=>sel (A3 i (toN ((x b)).th)) true (sel (A3 i (toN ((x b)).th)) false (sel (A3 i (toN ((x b)).th)) true (sel (A3 i (toN ((x b)).th)) false true)))) (λi=>sel (A3 i (toN ((x b)).th)) (Bn (sel (A3 (toN ((x b)).th) (toN ((x b)).th)) (Bn (lw (toN ((x b)).th)) 1) (lw (toN ((x b)).th))) 1) (sel (A3 i (toN ((x b)).th)) (Bn (lw (toN ((x b)).th)) 1) (lw i))) (λi i_1=>Cm (λi_2 i_3=>Cm (λi_4 i_5=>cw i_4 i_5) (toN ((x b)).th) (AE (lw (toN ((x b)).th)) (cw (toN ((x b)).th)) (.agg [iV 5,iV 0,iV 0,iV 0,iV 0,.str [],.str [],iV 0])) i_2 i_3) (toN ((x b)).th) (AE (sel (A3 (toN ((x b)).th) (toN ((x b)).th)) (Bn (lw (toN ((x b)).th)) 1) (lw (toN ((x b)).th))) (Cm (λi_4 i_5=>cw i_4 i_5) (toN ((x b)).th) (AE (lw (toN ((x b)).th)) (cw (toN ((x b)).th)) (.agg [iV 5,iV 0,iV 0,iV 0,iV 0,.str [],.str [],iV 0])) (toN ((x b)).th)) (.agg [iV 1,iV 0,iV 0,iV 0,iV ((x b)).val,.str (D3 ((x b)).loc),.str [],iV 0])) i i_1)),.row 3 1 (Bn b 1) (AE b y (iV (-1)))]⟩):=Aa (bbK 48 281474976710647) ((λc0 c1 c2 c3=>[ilt (ofNat b) (ofNat m),Af (ile 0 (ofNat b)) (ilt (ofNat b) (ofNat m)),Af (ile 0 ((x b)).th) (ilt ((x b)).th (ofNat t)),ieq (ofNat m) 0,Af (ile 0 (Ab (wr .i64 (A2 (wr .i64 (Ae (ofNat b) (ofNat m))) 1)) (ofNat m))) (ilt (Ab (wr .i64 (A2 (wr .i64 (Ae (ofNat b) (ofNat m))) 1)) (ofNat m)) (ofNat n)),ieq ((g (toN (Ab (wr .i64 (A2 (wr .i64 (Ae (ofNat b) (ofNat m))) 1)) (ofNat m))))).kind 5,c0,c1,c2,c2,c2,c2,c0,c1,c2,c2,c2,c2,c2,c0,c1,c2,c1,Bg (lw (toN ((x b)).th)) 1 80,c2,c0,ieq ((x b)).dir 2,c0,c3,c2,c2,c2,c2,c0,c3,c2,c2,c2,c2,c2,c0,c3,c2,c3,Bg (sel (A3 (toN ((x b)).th) (toN ((x b)).th)) (Bn (lw (toN ((x b)).th)) 1) (lw (toN ((x b)).th))) 1 80,c2,c0,Bg b 1 8]) (nlt (toN ((x b)).th) t) (true) (A3 (toN ((x b)).th) (toN ((x b)).th)) (sel (A3 (toN ((x b)).th) (toN ((x b)).th)) true (sel (A3 (toN ((x b)).th) (toN ((x b)).th)) false true))) (by kernel_rfl) (by simp only [h36,h37] <;> simp only [h31,h33] <;> simp only [*,nbeq_self] <;> rfl)
theorem Aib (h0:ilt (ofNat b) (ofNat m) = true) (h29:ile 0 (ofNat b) = true) (h31:Af (ile 0 ((x b)).th) (ilt ((x b)).th (ofNat t)) = true) (h1:ieq (ofNat m) 0 = false) (h33:Af (ile 0 (Ab (wr .i64 (A2 (wr .i64 (Ae (ofNat b) (ofNat m))) 1)) (ofNat m))) (ilt (Ab (wr .i64 (A2 (wr .i64 (Ae (ofNat b) (ofNat m))) 1)) (ofNat m)) (ofNat n)) = true) (h2:ieq ((g (toN (Ab (wr .i64 (A2 (wr .i64 (Ae (ofNat b) (ofNat m))) 1)) (ofNat m))))).kind 5 = false) (h3:ieq ((x b)).dir 2 = false) (h34:nlt (toN ((x b)).th) t = true) (h35:Bg (lw (toN ((x b)).th)) 1 80 = true) (h36:sel (A3 (toN ((x b)).th) (toN ((x b)).th)) true (sel (A3 (toN ((x b)).th) (toN ((x b)).th)) false true) = true) (h37:Bg b 1 8 = true):Ai (HV L) (U1 a n g m x t k p r q ln co) (Qp a n g m x t k p r q ln co b nx lw cw y j) = some (.nm,⟨(jsV 73 0 (λ_=>.und) [(1,(.ptr 0 0)),(2,(.jref 1)),(3,(.ref 2)),(4,(.jref 3)),(5,(.ref 4)),(6,(nV m)),(20,(.sl 5 m (λi=>evV (x i)))),(21,(nV m)),(22,(iV (wr .i64 (Ae (ofNat b) 1))))]),[.cells [iV a,.sl 6 n (λi=>eV (g i)),.sl 5 m (λi=>evV (x i)),nV t,iV k,.sl 1 p (λi=>iV (r i)),.sl 1 q (λu=>.sl 1 (ln u) (λi=>iV (co u i)))],.jag (Jag.mk 64 1 0 (λ_=>.und) 0 66 8 (λ_=>true) (λ_=>0) (λ_ _=>.und)),r3Z,.jag (Jag.mk 118 2 t (λi=>.agg [cif (A3 i (toN ((x b)).th)) .nilS .nilS,iV (sel (A3 i (toN ((x b)).th)) (wr .i64 (Ae (nx (toN ((x b)).th)) 1)) (nx i))]) 0 66 8 (λi=>sel (A3 i (toN ((x b)).th)) true (sel (A3 i (toN ((x b)).th)) false true)) (λi=>sel (A3 i (toN ((x b)).th)) (Bn (lw (toN ((x b)).th)) 1) (lw i)) (λi i_1=>Cm (λi_2 i_3=>cw i_2 i_3) (toN ((x b)).th) (AE (lw (toN ((x b)).th)) (cw (toN ((x b)).th)) (.agg [iV 3,iV (nx (toN ((x b)).th)),iV 0,iV 0,iV 0,.str (D3 ((x b)).loc),.str [],iV 0])) i i_1)),.row 3 1 (Bn b 1) (AE b y (iV (wr .i64 (A2 (sel (A3 (toN ((x b)).th) (toN ((x b)).th)) (wr .i64 (Ae (nx (toN ((x b)).th)) 1)) (nx (toN ((x b)).th))) 1))))]⟩):=Aa (bbK 35 34359738263) ((λc0 c1 c2 c3=>[ilt (ofNat b) (ofNat m),Af (ile 0 (ofNat b)) (ilt (ofNat b) (ofNat m)),Af (ile 0 ((x b)).th) (ilt ((x b)).th (ofNat t)),ieq (ofNat m) 0,Af (ile 0 (Ab (wr .i64 (A2 (wr .i64 (Ae (ofNat b) (ofNat m))) 1)) (ofNat m))) (ilt (Ab (wr .i64 (A2 (wr .i64 (Ae (ofNat b) (ofNat m))) 1)) (ofNat m)) (ofNat n)),ieq ((g (toN (Ab (wr .i64 (A2 (wr .i64 (Ae (ofNat b) (ofNat m))) 1)) (ofNat m))))).kind 5,ieq ((x b)).dir 2,c0,c1,c0,c1,c2,c2,c2,c2,c0,c1,c2,c2,c2,c2,c2,c0,c1,c2,c1,Bg (lw (toN ((x b)).th)) 1 80,c2,c0,c0,c3,c0,c0,c3,Bg b 1 8]) (nlt (toN ((x b)).th) t) (true) (A3 (toN ((x b)).th) (toN ((x b)).th)) (sel (A3 (toN ((x b)).th) (toN ((x b)).th)) true (sel (A3 (toN ((x b)).th) (toN ((x b)).th)) false true))) (by kernel_rfl) (by simp only [h36] <;> simp only [h31,h33] <;> simp only [*,nbeq_self] <;> rfl)
theorem Ae6 (h0:ilt (ofNat b) (ofNat m) = true) (h29:ile 0 (ofNat b) = true) (h31:Af (ile 0 ((x b)).th) (ilt ((x b)).th (ofNat t)) = true) (h1:ieq (ofNat m) 0 = false) (h33:Af (ile 0 (Ab (wr .i64 (A2 (wr .i64 (Ae (ofNat b) (ofNat m))) 1)) (ofNat m))) (ilt (Ab (wr .i64 (A2 (wr .i64 (Ae (ofNat b) (ofNat m))) 1)) (ofNat m)) (ofNat n)) = true) (h2:ieq ((g (toN (Ab (wr .i64 (A2 (wr .i64 (Ae (ofNat b) (ofNat m))) 1)) (ofNat m))))).kind 5 = true) (h34:nlt (toN ((x b)).th) t = true) (h35:Bg (lw (toN ((x b)).th)) 1 80 = true) (h3:ieq ((x b)).dir 2 = false) (h36:sel (A3 (toN ((x b)).th) (toN ((x b)).th)) true (sel (A3 (toN ((x b)).th) (toN ((x b)).th)) false true) = true) (h37:Bg (sel (A3 (toN ((x b)).th) (toN ((x b)).th)) (Bn (lw (toN ((x b)).th)) 1) (lw (toN ((x b)).th))) 1 80 = true) (h38:sel (A3 (toN ((x b)).th) (toN ((x b)).th)) true (sel (A3 (toN ((x b)).th) (toN ((x b)).th)) false (sel (A3 (toN ((x b)).th) (toN ((x b)).th)) true (sel (A3 (toN ((x b)).th) (toN ((x b)).th)) false true))) = true) (h39:Bg b 1 8 = true):Ai (HV L) (U1 a n g m x t k p r q ln co) (Qp a n g m x t k p r q ln co b nx lw cw y j) = some (.nm,⟨(jsV 73 0 (λ_=>.und) [(1,(.ptr 0 0)),(2,(.jref 1)),(3,(.ref 2)),(4,(.jref 3)),(5,(.ref 4)),(6,(nV m)),(20,(.sl 5 m (λi=>evV (x i)))),(21,(nV m)),(22,(iV (wr .i64 (Ae (ofNat b) 1))))]),[.cells [iV a,.sl 6 n (λi=>eV (g i)),.sl 5 m (λi=>evV (x i)),nV t,iV k,.sl 1 p (λi=>iV (r i)),.sl 1 q (λu=>.sl 1 (ln u) (λi=>iV (co u i)))],.jag (Jag.mk 64 1 0 (λ_=>.und) 0 66 8 (λ_=>true) (λ_=>0) (λ_ _=>.und)),r3Z,.jag (Jag.mk 118 2 t (λi=>.agg [cif (A3 i (toN ((x b)).th)) .nilS .nilS,iV (sel (A3 i (toN ((x b)).th)) (wr .i64 (Ae (nx (toN ((x b)).th)) 1)) (nx i))]) 0 66 8 (λi=>sel (A3 i (toN ((x b)).th)) true (sel (A3 i (toN ((x b)).th)) false (sel (A3 i (toN ((x b)).th)) true (sel (A3 i (toN ((x b)).th)) false true)))) (λi=>sel (A3 i (toN ((x b)).th)) (Bn (sel (A3 (toN ((x b)).th) (toN ((x b)).th)) (Bn (lw (toN ((x b)).th)) 1) (lw (toN ((x b)).th))) 1) (sel (A3 i (toN ((x b)).th)) (Bn (lw (toN ((x b)).th)) 1) (lw i))) (λi i_1=>Cm (λi_2 i_3=>Cm (λi_4 i_5=>cw i_4 i_5) (toN ((x b)).th) (AE (lw (toN ((x b)).th)) (cw (toN ((x b)).th)) (.agg [iV 5,iV 0,iV 0,iV 0,iV 0,.str [],.str [],iV 0])) i_2 i_3) (toN ((x b)).th) (AE (sel (A3 (toN ((x b)).th) (toN ((x b)).th)) (Bn (lw (toN ((x b)).th)) 1) (lw (toN ((x b)).th))) (Cm (λi_4 i_5=>cw i_4 i_5) (toN ((x b)).th) (AE (lw (toN ((x b)).th)) (cw (toN ((x b)).th)) (.agg [iV 5,iV 0,iV 0,iV 0,iV 0,.str [],.str [],iV 0])) (toN ((x b)).th)) (.agg [iV 3,iV (nx (toN ((x b)).th)),iV 0,iV 0,iV 0,.str (D3 ((x b)).loc),.str [],iV 0])) i i_1)),.row 3 1 (Bn b 1) (AE b y (iV (wr .i64 (A2 (sel (A3 (toN ((x b)).th) (toN ((x b)).th)) (wr .i64 (Ae (nx (toN ((x b)).th)) 1)) (nx (toN ((x b)).th))) 1))))]⟩):=Aa (bbK 55 36028796951855095) ((λc0 c1 c2 c3 c4=>[ilt (ofNat b) (ofNat m),Af (ile 0 (ofNat b)) (ilt (ofNat b) (ofNat m)),Af (ile 0 ((x b)).th) (ilt ((x b)).th (ofNat t)),ieq (ofNat m) 0,Af (ile 0 (Ab (wr .i64 (A2 (wr .i64 (Ae (ofNat b) (ofNat m))) 1)) (ofNat m))) (ilt (Ab (wr .i64 (A2 (wr .i64 (Ae (ofNat b) (ofNat m))) 1)) (ofNat m)) (ofNat n)),ieq ((g (toN (Ab (wr .i64 (A2 (wr .i64 (Ae (ofNat b) (ofNat m))) 1)) (ofNat m))))).kind 5,c0,c1,c2,c2,c2,c2,c0,c1,c2,c2,c2,c2,c2,c0,c1,c2,c1,Bg (lw (toN ((x b)).th)) 1 80,c2,c0,ieq ((x b)).dir 2,c0,c3,c0,c3,c2,c2,c2,c2,c0,c3,c2,c2,c2,c2,c2,c0,c3,c2,c3,Bg (sel (A3 (toN ((x b)).th) (toN ((x b)).th)) (Bn (lw (toN ((x b)).th)) 1) (lw (toN ((x b)).th))) 1 80,c2,c0,c0,c4,c0,c0,c4,Bg b 1 8]) (nlt (toN ((x b)).th) t) (true) (A3 (toN ((x b)).th) (toN ((x b)).th)) (sel (A3 (toN ((x b)).th) (toN ((x b)).th)) true (sel (A3 (toN ((x b)).th) (toN ((x b)).th)) false true)) (sel (A3 (toN ((x b)).th) (toN ((x b)).th)) true (sel (A3 (toN ((x b)).th) (toN ((x b)).th)) false (sel (A3 (toN ((x b)).th) (toN ((x b)).th)) true (sel (A3 (toN ((x b)).th) (toN ((x b)).th)) false true))))) (by kernel_rfl) (by simp only [h36,h37,h38] <;> simp only [h31,h33] <;> simp only [*,nbeq_self] <;> rfl)
end
structure WrOK (n m t:Nat) (x:Nat->Ev5):Prop where
 m16:m <= 16
 t16:t <= 16
 th:∀ b,b < m->Af (ile 0 (x b).th) (ilt (x b).th (ofNat t)) = true
 ed:∀ b,b < m->(b+m - 1) % m < n
theorem Abv {b m:Nat} (hb:b < m) (hm:m <= 16):Ab (wr .i64 (A2 (wr .i64 (Ae (ofNat b) (ofNat m))) 1)) (ofNat m) = ofNat ((b+m - 1) % m):=by
 have e1:Ae (ofNat b) (ofNat m) = Ae (ofNat (b+m - 1)) 1:=by
  show (b:Int)+(m:Int) = ((b+m - 1:Nat):Int)+1
  omega
 have e2:=Ao (i:=b+m - 1) (n:=b+m) (by omega) (by omega)
 rw [e1,e2]
 have e3:=MB (k:=b+m - 1) (by omega)
 rw [e3]
 exact (Int.ofNat_tmod _ _).symm
def feF (g:Nat->E6) (m:Nat) (b:Nat):Bool:=ieq (g ((b+m - 1) % m)).kind 5
theorem Ac9 (L:LT) (a:Int) (n:Nat) (g:Nat->E6) (m:Nat) (x:Nat->Ev5) (t:Nat) (k:Int) (p:Nat) (r:Nat->Int) (q:Nat) (ln:Nat->Nat) (co:Nat->Nat->Int) (O:WrOK n m t x):∀ (e b:Nat) (j:Nat->V) (u:Nat),m = b+e->e < u ->
  (A9 (HV L) (U1 a n g m x t k p r q ln co) u (Qp a n g m x t k p r q ln co b (wsF (feF g m) x b).nx (wsF (feF g m) x b).lw (cR (feF g m) x b) (yR (feF g m) x b) j)).sem = some (On a n g m x t k p r q ln co m (wsF (feF g m) x m).nx (wsF (feF g m) x m).lw (cR (feF g m) x m) (yR (feF g m) x m))
 | 0,b,j,u+1,h,_=>by
  have:m = b:=by omega
  subst this
  exact Ad (Aic L a n g m x t k p r q ln co m _ _ _ _ j (AD (Nat.le_refl _)))
 | e+1,b,j,u+1,h,h2=>by
  have hb:b < m:=by omega
  have next:=Ac9 L a n g m x t k p r q ln co O e (b+1) (λ_=>.und) u (by omega) (by omega)
  have m16:=O.m16
  have hth:=O.th b hb
  have hl:=T9 (feF g m) x (toN (x b).th) b
  have hu:nlt (toN (x b).th) t = true:=by
   obtain ⟨h0,h1⟩:=B3 hth
   have e:=W7 h0
   rw [e,CJ] at h1
   rw [e]
   exact h1
  rw [show wsF (feF g m) x (b+1) = evW (feF g m b) (x b) b (wsF (feF g m) x b) from rfl,show cR (feF g m) x (b+1) = evC (feF g m b) (x b) (wsF (feF g m) x b) (cR (feF g m) x b) from rfl,show yR (feF g m) x (b+1) = AE b (yR (feF g m) x b) (iV (yvW (x b) (wsF (feF g m) x b))) from rfl] at next
  generalize wsF (feF g m) x b = W at hl next ⊢
  generalize cR (feF g m) x b = c at next ⊢
  generalize yR (feF g m) x b = y at next ⊢
  have hJ:=Abv hb m16
  have hj:Af (ile 0 (Ab (wr .i64 (A2 (wr .i64 (Ae (ofNat b) (ofNat m))) 1)) (ofNat m))) (ilt (Ab (wr .i64 (A2 (wr .i64 (Ae (ofNat b) (ofNat m))) 1)) (ofNat m)) (ofNat n)) = true:=by rw [hJ]; exact Aq (O.ed b hb)
  have hf0:ieq (g (toN (Ab (wr .i64 (A2 (wr .i64 (Ae (ofNat b) (ofNat m))) 1)) (ofNat m)))).kind 5 = feF g m b:=by rw [hJ]; rfl
  unfold evW evC yvW JQ at next
  cases hF:feF g m b <;> rw [hF] at hf0 next <;> have hf:=hf0 <;> cases hd:ieq (x b).dir 2 <;> rw [hd] at next
  ·rw [Ad (Aib L a n g m x t k p r q ln co b W.nx W.lw c y j (ofNat_lt hb) (AI b) hth (MC (by omega)) hj hf hd hu (Ca (by omega)) (by rw [nbeq_self]; rfl) (Ca (by omega))),Ax,Ao hb (by omega),AcR,Z2]
   exact next
  ·rw [Ad (Aia L a n g m x t k p r q ln co b W.nx W.lw c y j (ofNat_lt hb) (AI b) hth (MC (by omega)) hj hf hd hu (Ca (by omega)) (Ca (by omega))),Ax,Ao hb (by omega),AcR]
   exact next
  ·rw [Ad (Ae6 L a n g m x t k p r q ln co b W.nx W.lw c y j (ofNat_lt hb) (AI b) hth (MC (by omega)) hj hf hu (Ca (by omega)) hd (by rw [nbeq_self]; rfl) (Ca (by rw [nbeq_self]; show (W.lw (toN (x b).th)+1+1) * 80 <= _; omega)) (by rw [nbeq_self]; rfl) (Ca (by omega))),Ax,Ao hb (by omega),AcQ,Z2]
   exact next
  ·rw [Ad (Ae5 L a n g m x t k p r q ln co b W.nx W.lw c y j (ofNat_lt hb) (AI b) hth (MC (by omega)) hj hf hu (Ca (by omega)) hd (by rw [nbeq_self]; rfl) (Ca (by rw [nbeq_self]; show (W.lw (toN (x b).th)+1+1) * 80 <= _; omega)) (Ca (by omega))),Ax,Ao hb (by omega),AcQ]
   exact next
def QI (a:Int) (n:Nat) (g:Nat->E6) (m:Nat) (x:Nat->Ev5) (t:Nat) (k:Int) (p:Nat) (r:Nat->Int) (q:Nat) (ln:Nat->Nat) (co:Nat->Nat->Int):Lp:=⟨(bmK 73 0 [1,2,3,4,5,11,56,57,58]),6,bmK 73 0 [1,2,3,4,5,11],6,t+1⟩
def Ld (a:Int) (n:Nat) (g:Nat->E6) (m:Nat) (x:Nat->Ev5) (t:Nat) (k:Int) (p:Nat) (r:Nat->Int) (q:Nat) (ln:Nat->Nat) (co:Nat->Nat->Int) (b:Nat) (nx:Nat->Int) (lw:Nat->Nat) (cw:Nat->Nat->V) (y gz:Nat->V) (lv:Nat->Bool) (lo:Nat->Nat) (mo:Nat->Nat->V) (j:Nat->V):St:=⟨(jsV 73 0 j [(1,.ptr 0 0),(2,.jref 1),(3,.ref 2),(4,.jref 3),(5,.ref 4),(11,.jref 5),(56,.jref 3),(57,nV t),(58,nV b)]),[.cells [iV a,.sl 6 n (λi=>eV (g i)),.sl 5 m (λi=>evV (x i)),nV t,iV k,.sl 1 p (λi=>iV (r i)),.sl 1 q (λu=>.sl 1 (ln u) (λi=>iV (co u i)))],.jag (Jag.mk 64 1 0 (λ_=>.und) 0 66 8 (λ_=>true) (λ_=>0) (λ_ _=>.und)),r3Z,.jag (Jag.mk 118 2 t (λu=>.agg [.nilS,iV (nx u)]) 0 66 8 lv lw cw),.row 3 1 m y,.jag (Jag.mk 64 1 b gz 0 66 8 (λ_=>true) lo mo)]⟩
def HQ (a:Int) (n:Nat) (g:Nat->E6) (m:Nat) (x:Nat->Ev5) (t:Nat) (k:Int) (p:Nat) (r:Nat->Int) (q:Nat) (ln:Nat->Nat) (co:Nat->Nat->Int) (b:Nat) (nx:Nat->Int) (lw:Nat->Nat) (cw:Nat->Nat->V) (y gz:Nat->V) (lv:Nat->Bool) (lo:Nat->Nat) (mo:Nat->Nat->V):Ex × St:=(.ex 2,⟨(jsV 73 0 (λ_=>.und) [(1,.ptr 0 0),(2,.jref 1),(3,.ref 2),(4,.jref 3),(5,.ref 4),(11,.jref 5)]),[.cells [iV a,.sl 6 n (λi=>eV (g i)),.sl 5 m (λi=>evV (x i)),nV t,iV k,.sl 1 p (λi=>iV (r i)),.sl 1 q (λu=>.sl 1 (ln u) (λi=>iV (co u i)))],.jag (Jag.mk 64 1 0 (λ_=>.und) 0 66 8 (λ_=>true) (λ_=>0) (λ_ _=>.und)),r3Z,.jag (Jag.mk 118 2 t (λu=>.agg [.nilS,iV (nx u)]) 0 66 8 lv lw cw),.row 3 1 m y,.jag (Jag.mk 64 1 b gz 0 66 8 (λ_=>true) lo mo)]⟩)
noncomputable def Hn (L:LT):St->T (Ex × St):=λst=>AF tab ⟨LI,L,Gl⟩ (A1 Try.f75 2) 2 st
section
variable (L:LT) (a:Int) (n:Nat) (g:Nat->E6) (m:Nat) (x:Nat->Ev5) (t:Nat) (k:Int) (p:Nat) (r:Nat->Int) (q:Nat) (ln:Nat->Nat) (co:Nat->Nat->Int) (b:Nat) (nx:Nat->Int) (lw:Nat->Nat) (cw:Nat->Nat->V) (y gz:Nat->V) (lv:Nat->Bool) (lo:Nat->Nat) (mo:Nat->Nat->V)  (j:Nat->V)
include L a n g m x t k p r q ln co b nx lw cw y gz lv lo mo j
theorem AhV (h0:ilt (ofNat b) (ofNat t) = false):Ai (Hn L) (QI a n g m x t k p r q ln co) (Ld a n g m x t k p r q ln co b nx lw cw y gz lv lo mo j) = some ((.ex 2),⟨(jsV 73 0 (λ_=>.und) [(1,(.ptr 0 0)),(2,(.jref 1)),(3,(.ref 2)),(4,(.jref 3)),(5,(.ref 4)),(11,(.jref 5))]),[.cells [iV a,.sl 6 n (λi=>eV (g i)),.sl 5 m (λi=>evV (x i)),nV t,iV k,.sl 1 p (λi=>iV (r i)),.sl 1 q (λu=>.sl 1 (ln u) (λi=>iV (co u i)))],.jag (Jag.mk 64 1 0 (λ_=>.und) 0 66 8 (λ_=>true) (λ_=>0) (λ_ _=>.und)),r3Z,.jag (Jag.mk 118 2 t (λu=>.agg [.nilS,iV (nx u)]) 0 66 8 lv lw (λi i_1=>cw i i_1)),.row 3 1 m y,.jag (Jag.mk 64 1 b gz 0 66 8 (λ_=>true) lo (λi i_1=>mo i i_1))]⟩):=Aa [false] [ilt (ofNat b) (ofNat t)] (by kernel_rfl) (by simp only [h0] <;> rfl)
theorem AhU (h0:ilt (ofNat b) (ofNat t) = true) (h27:ile 0 (ofNat b) = true) (h28:nlt b t = true) (h29:lv b = true) (h30:Bg b 1 24 = true):Ai (Hn L) (QI a n g m x t k p r q ln co) (Ld a n g m x t k p r q ln co b nx lw cw y gz lv lo mo j) = some (.nm,⟨(jsV 73 0 (λ_=>.und) [(1,(.ptr 0 0)),(2,(.jref 1)),(3,(.ref 2)),(4,(.jref 3)),(5,(.ref 4)),(11,(.jref 5)),(56,(.jref 3)),(57,(nV t)),(58,(iV (wr .i64 (Ae (ofNat b) 1))))]),[.cells [iV a,.sl 6 n (λi=>eV (g i)),.sl 5 m (λi=>evV (x i)),nV t,iV k,.sl 1 p (λi=>iV (r i)),.sl 1 q (λu=>.sl 1 (ln u) (λi=>iV (co u i)))],.jag (Jag.mk 64 1 0 (λ_=>.und) 0 66 8 (λ_=>true) (λ_=>0) (λ_ _=>.und)),r3Z,.jag (Jag.mk 118 2 t (λi=>.agg [.nilS,iV (nx i)]) 0 66 8 (λi=>sel (A3 i b) false (lv i)) lw (λi i_1=>cw i i_1)),.row 3 1 m y,.jag (Jag.mk 64 1 (Bn b 1) (AE b gz .und) 0 66 8 (λi=>sel (A3 i b) true true) (λi=>sel (A3 i b) (lw b) (lo i)) (λi i_1=>Cm (λi_2 i_3=>mo i_2 i_3) b (cw b) i i_1))]⟩):=Aa (bbK 7 127) [ilt (ofNat b) (ofNat t),Af (ile 0 (ofNat b)) (ilt (ofNat b) (ofNat t)),nlt b t,lv b,lv b,true,Bg b 1 24] (by kernel_rfl) (by simp only [*] <;> rfl)
end
def Ajq (a:Int) (n:Nat) (g:Nat->E6) (m:Nat) (x:Nat->Ev5) (t:Nat) (k:Int) (p:Nat) (r:Nat->Int) (q:Nat) (ln:Nat->Nat) (co:Nat->Nat->Int) :Nat->V:=lkV AA [(0,(.agg [iV a,.sl 6 n (λi=>eV (g i)),.sl 5 m (λi=>evV (x i)),nV t,iV k,.sl 1 p (λi=>iV (r i)),.sl 1 q (λu=>.sl 1 (ln u) (λi=>iV (co u i)))])),(13,(.ptr 0 3)),(14,(nV t)),(15,(.jref 3)),(16,(.ptr 0 2)),(17,(.sl 5 m (λi=>evV (x i)))),(18,(nV m)),(19,(.ptr 0 2))]
def Zs (a:Int) (n:Nat) (g:Nat->E6) (m:Nat) (x:Nat->Ev5) (t:Nat) (k:Int) (p:Nat) (r:Nat->Int) (q:Nat) (ln:Nat->Nat) (co:Nat->Nat->Int) (nx:Nat->Int) (lw:Nat->Nat) (cw:Nat->Nat->V) (y:Nat->V):Nat->V:=lkV AA [(0,.und),(6,.und),(7,.und),(8,.und),(9,.und),(10,.und),(12,.und),(13,.und),(14,.und),(15,.und),(16,.und),(17,.und),(18,.und),(19,.und),(20,.und),(21,.und),(22,.und),(23,.und),(24,.und),(25,.und),(26,.und),(27,.und),(28,.und),(29,.und),(30,.und),(31,.und),(32,.und),(33,.und),(34,.und),(35,.und),(36,.und),(37,.und),(38,.und),(39,.und),(40,.und),(41,.und),(42,.und),(43,.und),(44,.und),(45,.und),(46,.und),(47,.und),(48,.und),(49,.und),(50,.und),(51,.und),(52,.und),(53,.und),(54,.und),(55,.und),(59,.und),(60,.und),(61,.und),(62,.und),(63,.und),(64,.und),(65,.und),(66,.und),(67,.und),(68,.und),(69,.und),(70,.und),(71,.und),(72,.und)]
theorem w75 (L:LT) (p0:PT) (p2:PT) (a:Int) (n:Nat) (g:Nat->E6) (m:Nat) (x:Nat->Ev5) (t:Nat) (k:Int) (p:Nat) (r:Nat->Int) (q:Nat) (ln:Nat->Nat) (co:Nat->Nat->Int) (nx:Nat->Int) (lw:Nat->Nat) (cw:Nat->Nat->V) (y gz:Nat->V) (lv:Nat->Bool) (lo:Nat->Nat) (mo:Nat->Nat->V) (h26:BI 32 (ofNat t) (ofNat t) = true) (hp0:p0 (HV (onP 0 p0 (On a n g m x t k p r q ln co m nx lw cw y) (onP 2 p2 (HQ a n g m x t k p r q ln co t nx lw cw y gz lv lo mo) L))) ((Qp a n g m x t k p r q ln co 0 (λ_=>0) (λ_=>0) (λ_ _=>.und) (λ_=>.und) (Ajq a n g m x t k p r q ln co))) = true) (hp2:p2 (Hn (onP 0 p0 (On a n g m x t k p r q ln co m nx lw cw y) (onP 2 p2 (HQ a n g m x t k p r q ln co t nx lw cw y gz lv lo mo) L))) ((Ld a n g m x t k p r q ln co 0 nx lw cw y (λ_=>.und) (λ_=>true) (λ_=>0) (λ_ _=>.und) (Zs a n g m x t k p r q ln co nx lw cw y))) = true):(Az (Ak tab ⟨LI,onP 0 p0 (On a n g m x t k p r q ln co m nx lw cw y) (onP 2 p2 (HQ a n g m x t k p r q ln co t nx lw cw y gz lv lo mo) L),Gl⟩ Try.f75 [.agg [iV a,.sl 6 n (λi=>eV (g i)),.sl 5 m (λi=>evV (x i)),nV t,iV k,.sl 1 p (λi=>iV (r i)),.sl 1 q (λu=>.sl 1 (ln u) (λi=>iV (co u i)))]] [])).sem = some ((.tup [.jref 0,.ref 1]),[.jag (Jag.mk 64 1 t gz 0 66 8 (λ_=>true) lo (λi i_1=>mo i i_1)),.row 3 1 m y]):=Aa [true,true,true] [BI 32 (ofNat t) (ofNat t),p0 (HV (onP 0 p0 (On a n g m x t k p r q ln co m nx lw cw y) (onP 2 p2 (HQ a n g m x t k p r q ln co t nx lw cw y gz lv lo mo) L))) ((Qp a n g m x t k p r q ln co 0 (λ_=>0) (λ_=>0) (λ_ _=>.und) (λ_=>.und) (Ajq a n g m x t k p r q ln co))),p2 (Hn (onP 0 p0 (On a n g m x t k p r q ln co m nx lw cw y) (onP 2 p2 (HQ a n g m x t k p r q ln co t nx lw cw y gz lv lo mo) L))) ((Ld a n g m x t k p r q ln co 0 nx lw cw y (λ_=>.und) (λ_=>true) (λ_=>0) (λ_ _=>.und) (Zs a n g m x t k p r q ln co nx lw cw y)))] (by kernel_rfl) (by simp only [hp0,hp2] <;> simp only [h26] <;> rfl)
def Mp (t:Nat):Nat->Nat->Bool
 | 0=>λ_=>true
 | b+1=>λi=>sel (A3 i b) false (Mp t b i)
def Xi:Nat->Nat->V
 | 0=>λ_=>.und
 | b+1=>AE b (Xi b) .und
def OW (lw:Nat->Nat):Nat->Nat->Nat
 | 0=>λ_=>0
 | b+1=>λi=>sel (A3 i b) (lw b) (OW lw b i)
def QC (cw:Nat->Nat->V):Nat->Nat->Nat->V
 | 0=>λ_ _=>.und
 | b+1=>Cm (QC cw b) b (cw b)
theorem SA (t:Nat):∀ b i,b <= i->Mp t b i = true
 | 0,_,_=>rfl
 | b+1,i,h=>by
  show sel (A3 i b) false (Mp t b i) = true
  rw [show A3 i b = false from Go.Sy.nbeq_ne (by omega),SA t b i (by omega)]
  rfl
theorem QL (lw:Nat->Nat):∀ b i,i < b->OW lw b i = lw i
 | b+1,i,h=>by
  show sel (A3 i b) (lw b) (OW lw b i) = lw i
  by_cases he:i = b
  ·subst he; rw [nbeq_self]; rfl
  ·rw [show A3 i b = false from Go.Sy.nbeq_ne he,QL lw b i (by omega)]; rfl
theorem VG (cw:Nat->Nat->V):∀ b i,i < b->QC cw b i = cw i
 | b+1,i,h=>by
  show Cm (QC cw b) b (cw b) i = cw i
  by_cases he:i = b
  ·subst he; exact GO _ _ _
  ·rw [Km he]; exact VG cw b i (by omega)
theorem Ajo (b:Nat):(λi=>sel (A3 i b) true true) = λ_=>true:=by
 funext i; cases A3 i b <;> rfl
theorem Yv (L:LT) (a:Int) (n:Nat) (g:Nat->E6) (m:Nat) (x:Nat->Ev5) (t:Nat) (k:Int) (p:Nat) (r:Nat->Int) (q:Nat) (ln:Nat->Nat) (co:Nat->Nat->Int) (t16:t <= 16) (nx:Nat->Int) (lw:Nat->Nat) (cw:Nat->Nat->V) (y:Nat->V):∀ (e b:Nat) (j:Nat->V) (u:Nat),t = b+e->e < u ->
  (A9 (Hn L) (QI a n g m x t k p r q ln co) u (Ld a n g m x t k p r q ln co b nx lw cw y (Xi b) (Mp t b) (OW lw b) (QC cw b) j)).sem = some (HQ a n g m x t k p r q ln co t nx lw cw y (Xi t) (Mp t t) (OW lw t) (QC cw t))
 | 0,b,j,u+1,h,_=>by
  have:t = b:=by omega
  subst this
  exact Ad (AhV L a n g m x t k p r q ln co t _ _ _ _ _ _ _ _ j (AD (Nat.le_refl _)))
 | e+1,b,j,u+1,h,h2=>by
  have hb:b < t:=by omega
  have hb2:nlt b t = true:=decide_eq_true hb
  have hv:=SA t b b (Nat.le_refl _)
  have next:=Yv L a n g m x t k p r q ln co t16 nx lw cw y e (b+1) (λ_=>.und) u (by omega) (by omega)
  rw [Ad (AhU L a n g m x t k p r q ln co b nx lw cw y (Xi b) (Mp t b) (OW lw b) (QC cw b) j (ofNat_lt hb) (AI b) hb2 hv (Ca (by omega))),Ax,Ao hb (by omega),Ajo]
  exact next
def wrB (s:Sh7):Bool:=Af (Nat.ble s.nx 16) (Af (Nat.ble (toN s.tt) 16) (Af (ieq s.tt (ofNat (toN s.tt))) (Af (Au s.nx λb=>Af (ile 0 (s.X b).th) (ilt (s.X b).th s.tt)) (Au s.nx λb=>nlt ((b+s.nx - 1) % s.nx) s.ne))))
theorem Adh {s:Sh7} (h:wrB s = true):∃ t,s.tt = ofNat t ∧ WrOK s.ne s.nx t s.X:=by
 obtain ⟨h1,h⟩:=B3 h
 obtain ⟨h2,h⟩:=B3 h
 obtain ⟨h3,h⟩:=B3 h
 obtain ⟨h4,h5⟩:=B3 h
 refine ⟨toN s.tt,BF h3,⟨Nat.le_of_ble_eq_true h1,Nat.le_of_ble_eq_true h2,λb hb=>?_,λb hb=>?_⟩⟩
 ·rw [<- BF h3]; exact AJ.1 h4 b hb
 ·exact of_decide_eq_true (AJ.1 h5 b hb)
def wsS (s:Sh7):Wr4:=wsF (feF s.E s.nx) s.X s.nx
def Aj9 (s:Sh7):List Blk:=[.jag ⟨64,1,toN s.tt,λ_=>.und,0,66,8,λ_=>true,(wsS s).lw,cV (wsS s)⟩,.row 3 1 s.nx (yV (wsS s))]
def MW:List V->T (V × List Blk)
 | [v]=>apS v λs=>.br (wrB s) (.leaf (.tup [.jref 0,.ref 1],Aj9 s)) .fail
 | _=>.fail
theorem p75:A6 Try.prog Gl 75 MW:=by
 refine A5 AO AP Try.func75 (by kernel_rfl) (by kernel_rfl) λvs v h' h=>?_
 unfold MW at h
 split at h
 ·rename_i v1
  obtain ⟨s,a1,h⟩:=EX h
  obtain ⟨hw,h⟩:=Ag h
  have:=Ac h
  simp only [Prod.mk.injEq] at this
  obtain ⟨rfl,rfl⟩:=this
  obtain ⟨t,ht,O⟩:=Adh hw
  obtain ⟨a,n,g,m,x,tt,k,p,r,q,C⟩:=s
  have ht:tt = ofNat t:=ht
  subst ht
  have O:WrOK n m t x:=O
  have m16:=O.m16
  have t16:=O.t16
  obtain ⟨ln,co,hC⟩:∃ (ln:Nat->Nat) (co:Nat->Nat->Int),C = λu=>(ln u,co u):=⟨λu=>(C u).1,λu=>(C u).2,rfl⟩
  subst hC
  have hA:BJ [v1] [.agg [iV a,.sl 6 n (λi=>eV (g i)),.sl 5 m (λi=>evV (x i)),nV t,iV k,.sl 1 p (λi=>iV (r i)),.sl 1 q (λu=>.sl 1 (ln u) (λi=>iV (co u i)))]]:=λS w cs hv=>by
   obtain ⟨c,l,rfl,q1,q2⟩:=hv
   exact ⟨c,_,rfl,a1 S w c q1,q2⟩
  have hm:BI 32 (ofNat t) (ofNat t) = true:=by
   unfold BI
   simp only [Int.ofNat_eq_natCast,Bool.and_eq_true,decide_eq_true_eq]
   omega
  generalize hls:[(0,U1 a n g m x t k p r q ln co),(2,QI a n g m x t k p r q ln co)] = ls
  have hx:BO ⟨LI,Bb ls,Gl⟩:=λid f st r hr=>by
   have hr:(Bb ls id f st).sem = some r:=hr
   unfold Bb at hr
   split at hr
   ·exact ⟨_,_,_,LE.refl _,hr⟩
   ·cases hr
  have hL:=AL ls
  generalize hW:wsF (feF g m) x m = W
  generalize hc:cR (feF g m) x m = c
  generalize hy:yR (feF g m) x m = y
  have i0:∀ L' j,(Bb ls 0 (HV L') (Qp a n g m x t k p r q ln co 0 (λ_=>0) (λ_=>0) (λ_ _=>.und) (λ_=>.und) j)).sem = some (On a n g m x t k p r q ln co m W.nx W.lw c y):=λL' j=>by
   subst hls
   have:=Ac9 L' a n g m x t k p r q ln co O m 0 j (m+1) (by omega) (by omega)
   rw [hW,hc,hy] at this
   exact this
  have i2:∀ L' j,(Bb ls 2 (Hn L') (Ld a n g m x t k p r q ln co 0 W.nx W.lw c y (λ_=>.und) (λ_=>true) (λ_=>0) (λ_ _=>.und) j)).sem = some (HQ a n g m x t k p r q ln co t W.nx W.lw c y (Xi t) (Mp t t) (OW W.lw t) (QC c t)):=λL' j=>by
   subst hls
   exact Yv L' a n g m x t k p r q ln co t16 W.nx W.lw c y t 0 j (t+1) (by omega) (by omega)
  refine ⟨_,⟨LI,Bb ls,Gl⟩,_,hA,rfl,Xz,hx,A7 (Ay (Ay hL hL) hL) _ (w75 _ _ _ a n g m x t k p r q ln co W.nx W.lw c y (Xi t) (Mp t t) (OW W.lw t) (QC c t) hm (Am (i0 _ _)) (Am (i2 _ _))),?_⟩
  refine .consB (.jag (λ_ _=>.inr rfl) (λ_ _=>rfl) (λk hk=>?_) (λk hk q hq=>?_)) (.one λi hi=>?_)
  ·have hk:k < t:=hk
   show (wsS _).lw k = OW W.lw t k
   rw [QL _ _ _ hk,<- hW]
   rfl
  ·have hk:k < t:=hk
   have hq:q < OW W.lw t k:=hq
   show cV (wsS _) k q = QC c t k q
   rw [VG _ _ _ hk,<- hc]
   rw [QL _ _ _ hk,<- hW] at hq
   exact (Ade _ _ _ _ _ hq).symm
  ·show yV (wsS _) i = y i
   rw [<- hy]
   exact (Acz _ _ _ _ hi).symm
 ·cases h
end Go.Proofs.Ytjhnfomefcngfaa.Sh
