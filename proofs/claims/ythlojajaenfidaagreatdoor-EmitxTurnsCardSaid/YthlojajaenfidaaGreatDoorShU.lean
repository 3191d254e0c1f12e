/-
  Layer 11: a shape's threads as code (function 75, with 107 and 116 in it). No conditions.
-/
import Derived.Test.YthlojajaenfidaaGreatDoorShT
namespace Go.Proofs.YthlojajaenfidaaGreatDoor.Sh
open Go.Sy Ed
open Int (ofNat)
set_option maxHeartbeats 1000000
set_option maxRecDepth 4000
noncomputable def Acu:List (Nat × (List V->T (V × List Blk))):=(22,Aay) :: []
theorem ME:A8 Tryz.prog Gl Acu:=.cons p37 .nil
noncomputable def Al4:Cx:=AN Gl Acu []
noncomputable def Ab5:Cx:=⟨KX [(58,K2 tab Al4 Tryz.f58)] (Ak Acu),AP [],Gl⟩
noncomputable def LY:FuncId->List V->St->T (V × Res):=KX [(41,K2 tab Ab5 Tryz.f41)] (Ak Acu)
theorem T9:Bg Tryz.prog Ab5.base ∧ BF Ab5 :=
 ⟨GK mixed (.cons rfl AI (AK ME []).1 (AK ME []).2 Tryz.func58 (by kernel_rfl) (by kernel_rfl) .nil) (DP rfl ME),
  λid f st r hr=>by
   have hr:(AP [] id f st).sem = some r:=hr
   cases hr⟩
theorem Y5:Bg Tryz.prog ⟨LY,Gl⟩:=GK mixed (.cons rfl AI T9.1 T9.2 Tryz.func41 (by kernel_rfl) (by kernel_rfl) .nil) (DP rfl ME)
structure In4 where
 op:Int
 d:Int
 imm:Int
 loc:List UInt8
def inV (i:In4):V:=.agg [iV i.op,iV i.d,iV 0,iV 0,iV i.imm,.str i.loc,.str [],iV 0]
def LO:In4:=⟨5,0,0,[]⟩
def Agk (x:Ev5):In4:=⟨1,0,x.val,C6 x.loc⟩
def Alh (d:Int) (x:Ev5):In4:=⟨3,d,0,C6 x.loc⟩
structure Wr4 where
 nx:Nat->Int
 lw:Nat->Nat
 cw:Nat->Nat->In4
 y:Nat->Int
def OU (lw:Nat->Nat) (u:Nat):Nat->Nat:=λi=>sel (AB i u) (Bd (lw u) 1) (lw i)
def AhW (lw:Nat->Nat) (cw:Nat->Nat->In4) (u:Nat) (v:In4):Nat->Nat->In4:=λi j=>bif AB i u then (bif AB j (lw u) then v else cw u j) else cw i j
def UL (W:Wr4) (u:Nat) (v:In4):Wr4:=⟨W.nx,OU W.lw u,AhW W.lw W.cw u v,W.y⟩
def yW (W:Wr4) (b:Nat) (v:Int):Wr4:={ W with y:=λi=>bif AB i b then v else W.y i }
def nxW (W:Wr4) (u:Nat):Wr4:={ W with nx:=λi=>sel (AB i u) (wr .i64 (Af (W.nx u) 1)) (W.nx i) }
def yvW (x:Ev5) (W:Wr4):Int:=bif ieq x.dir 2 then -1 else wr .i64 (Az (sel (AB (toN x.th) (toN x.th)) (wr .i64 (Af (W.nx (toN x.th)) 1)) (W.nx (toN x.th))) 1)
def Yj (x:Ev5) (W:Wr4):In4:=bif ieq x.dir 2 then Agk x else Alh (W.nx (toN x.th)) x
def evW (fe:Bool) (x:Ev5) (b:Nat) (W:Wr4):Wr4 :=
 yW (bif ieq x.dir 2 then UL (bif fe then UL W (toN x.th) LO else W) (toN x.th) (Yj x W) else nxW (UL (bif fe then UL W (toN x.th) LO else W) (toN x.th) (Yj x W)) (toN x.th)) b (yvW x W)
def evC (fe:Bool) (x:Ev5) (W:Wr4) (c:Nat->Nat->V):Nat->Nat->V :=
 bif fe then C4 (C4 c (toN x.th) (A2 (W.lw (toN x.th)) (c (toN x.th)) (inV LO))) (toN x.th) (A2 (OU W.lw (toN x.th) (toN x.th)) (C4 c (toN x.th) (A2 (W.lw (toN x.th)) (c (toN x.th)) (inV LO)) (toN x.th)) (inV (Yj x W)))
 else C4 c (toN x.th) (A2 (W.lw (toN x.th)) (c (toN x.th)) (inV (Yj x W)))
def W0:Wr4:=⟨λ_=>0,λ_=>0,λ_ _=>LO,λ_=>0⟩
def wsF (fe:Nat->Bool) (x:Nat->Ev5):Nat->Wr4
 | 0=>W0
 | b+1=>evW (fe b) (x b) b (wsF fe x b)
def cV (W:Wr4):Nat->Nat->V:=λi j=>inV (W.cw i j)
def yV (W:Wr4):Nat->V:=λi=>iV (W.y i)
def cR (fe:Nat->Bool) (x:Nat->Ev5):Nat->Nat->Nat->V
 | 0=>λ_ _=>.und
 | b+1=>evC (fe b) (x b) (wsF fe x b) (cR fe x b)
def yR (fe:Nat->Bool) (x:Nat->Ev5):Nat->Nat->V
 | 0=>λ_=>.und
 | b+1=>A2 b (yR fe x b) (iV (yvW (x b) (wsF fe x b)))
theorem UK {lw:Nat->Nat} {cw:Nat->Nat->In4} {c:Nat->Nat->V} (h:∀ i j,j < lw i->c i j = inV (cw i j)) (u:Nat) (v:In4) :
  ∀ i j,j < OU lw u i->C4 c u (A2 (lw u) (c u) (inV v)) i j = inV (AhW lw cw u v i j):=λi j hj=>by
 unfold OU at hj
 unfold C4 AhW
 rw [EY,Bl]
 cases hi:AB i u with
 | true =>
  rw [hi] at hj
  have hj:j < lw u+1:=hj
  show (bif Nat.beq j (lw u) then _ else _) = inV (bif Nat.beq j (lw u) then _ else _)
  cases hb:Nat.beq j (lw u) with
  | true=>rfl
  | false=>exact h u j (by have:=Nat.ne_of_beq_eq_false hb; omega)
 | false =>
  rw [hi] at hj
  exact h i j hj
theorem AeW (fe:Nat->Bool) (x:Nat->Ev5):∀ b i j,j < (wsF fe x b).lw i->cR fe x b i j = inV ((wsF fe x b).cw i j)
 | 0,_,_,h=>by cases h
 | b+1,i,j,h=>by
  have ih:=AeW fe x b
  have h:j < (evW (fe b) (x b) b (wsF fe x b)).lw i:=h
  show evC (fe b) (x b) (wsF fe x b) (cR fe x b) i j = inV ((evW (fe b) (x b) b (wsF fe x b)).cw i j)
  revert h
  unfold evC evW
  generalize Yj (x b) (wsF fe x b) = v
  cases fe b with
  | false=>cases ieq (x b).dir 2 <;> exact UK ih _ v i j
  | true =>
   have ih2:=UK ih (toN (x b).th) LO
   have h2:=UK ih2 (toN (x b).th) v i j
   cases ieq (x b).dir 2 <;> exact h2
theorem Aef (fe:Nat->Bool) (x:Nat->Ev5):∀ b i,i < b->yR fe x b i = iV ((wsF fe x b).y i)
 | b+1,i,h=>by
  show A2 b (yR fe x b) (iV (yvW (x b) (wsF fe x b))) i = iV ((evW (fe b) (x b) b (wsF fe x b)).y i)
  have e:(evW (fe b) (x b) b (wsF fe x b)).y i = bif AB i b then yvW (x b) (wsF fe x b) else (wsF fe x b).y i:=by
   unfold evW; cases fe b <;> cases ieq (x b).dir 2 <;> rfl
  rw [e,Bl]
  show (bif Nat.beq i b then _ else _) = iV (bif Nat.beq i b then _ else _)
  cases hb:Nat.beq i b with
  | true=>rfl
  | false=>exact Aef fe x b i (by have:=Nat.ne_of_beq_eq_false hb; omega)
theorem AeJ (u:Nat):(λi=>sel (AB i u) true (sel (AB i u) false true)) = λ_=>true:=by
 funext i; cases AB i u <;> rfl
theorem AeI (u:Nat):(λi=>sel (AB i u) true (sel (AB i u) false (sel (AB i u) true (sel (AB i u) false true)))) = λ_=>true:=by
 funext i; cases AB i u <;> rfl
theorem AaS (u:Nat) (f:Nat->Int):(λi=>V.agg [cif (AB i u) .nilS .nilS,iV (f i)]) = λi=>V.agg [.nilS,iV (f i)]:=by
 funext i; cases AB i u <;> rfl
theorem Aiy (fe:Bool) (x:Ev5) (b:Nat) (W:Wr4) (i:Nat):(evW fe x b W).lw i <= W.lw i+2:=by
 have h:∀ (lw:Nat->Nat) (u i:Nat),OU lw u i <= lw i+1:=λlw u i=>by
  unfold OU
  cases h:AB i u with
  | true=>have:i = u:=Nat.eq_of_beq_eq_true h; subst this; exact Nat.le_refl _
  | false=>exact Nat.le_succ _
 have e:(evW fe x b W).lw i = OU (bif fe then OU W.lw (toN x.th) else W.lw) (toN x.th) i:=by unfold evW; cases fe <;> cases ieq x.dir 2 <;> rfl
 rw [e]
 cases fe
 ·exact Nat.le_trans (h _ _ _) (Nat.succ_le_succ (Nat.le_succ _))
 ·exact Nat.le_trans (h _ _ _) (Nat.succ_le_succ (h _ _ _))
theorem YI (fe:Nat->Bool) (x:Nat->Ev5) (i:Nat):∀ b,(wsF fe x b).lw i <= 2 * b
 | 0=>Nat.le_refl _
 | b+1=>by have:=Aiy (fe b) (x b) b (wsF fe x b) i; have:=YI fe x i b; show (evW _ _ _ _).lw i <= _; omega
def Vb (_:Int) (_:Nat) (_:Nat->E6) (m:Nat) (_:Nat->Ev5) (_:Nat) (_:Int) (_:Nat) (_:Nat->Int) (_:Nat) (_:Nat->Nat) (_:Nat->Nat->Int):Lp:=⟨(bmK 73 0 [1,2,3,4,5,6,20,21,22]),5,bmK 73 0 [1,2,3,4,5],5,m+1⟩
def Si (a:Int) (n:Nat) (g:Nat->E6) (m:Nat) (x:Nat->Ev5) (t:Nat) (k:Int) (p:Nat) (r:Nat->Int) (q:Nat) (ln:Nat->Nat) (co:Nat->Nat->Int) (b:Nat) (nx:Nat->Int) (lw:Nat->Nat) (cw:Nat->Nat->V) (y:Nat->V) (j:Nat->V):St:=⟨(jsV 73 0 j [(1,.ptr 0 0),(2,.jref 1),(3,.ref 2),(4,.jref 3),(5,.ref 4),(6,nV m),(20,.sl 5 m (λi=>evV (x i))),(21,nV m),(22,nV b)]),[.cells [iV a,.sl 6 n (λi=>eV (g i)),.sl 5 m (λi=>evV (x i)),nV t,iV k,.sl 1 p (λi=>iV (r i)),.sl 1 q (λu=>.sl 1 (ln u) (λi=>iV (co u i)))],.jag (Jag.mk 79 1 0 (λ_=>.und) 0 81 8 (λ_=>true) (λ_=>0) (λ_ _=>.und)),r3Z,.jag (Jag.mk 96 2 t (λu=>.agg [.nilS,iV (nx u)]) 0 81 8 (λ_=>true) lw cw),.row 3 1 b y]⟩
def T0 (a:Int) (n:Nat) (g:Nat->E6) (m:Nat) (x:Nat->Ev5) (t:Nat) (k:Int) (p:Nat) (r:Nat->Int) (q:Nat) (ln:Nat->Nat) (co:Nat->Nat->Int) (b:Nat) (nx:Nat->Int) (lw:Nat->Nat) (cw:Nat->Nat->V) (y:Nat->V):Ex × St:=(.ex 0,⟨(jsV 73 0 (λ_=>.und) [(1,.ptr 0 0),(2,.jref 1),(3,.ref 2),(4,.jref 3),(5,.ref 4)]),[.cells [iV a,.sl 6 n (λi=>eV (g i)),.sl 5 m (λi=>evV (x i)),nV t,iV k,.sl 1 p (λi=>iV (r i)),.sl 1 q (λu=>.sl 1 (ln u) (λi=>iV (co u i)))],.jag (Jag.mk 79 1 0 (λ_=>.und) 0 81 8 (λ_=>true) (λ_=>0) (λ_ _=>.und)),r3Z,.jag (Jag.mk 96 2 t (λu=>.agg [.nilS,iV (nx u)]) 0 81 8 (λ_=>true) lw cw),.row 3 1 b y]⟩)
noncomputable def Il (L:LT):St->T (Ex × St):=λst=>AD tab ⟨LY,L,Gl⟩ (As Tryz.f19 0) 0 st
section
variable (L:LT) (a:Int) (n:Nat) (g:Nat->E6) (m:Nat) (x:Nat->Ev5) (t:Nat) (k:Int) (p:Nat) (r:Nat->Int) (q:Nat) (ln:Nat->Nat) (co:Nat->Nat->Int) (b:Nat) (nx:Nat->Int) (lw:Nat->Nat) (cw:Nat->Nat->V) (y:Nat->V)  (j:Nat->V)
include L a n g m x t k p r q ln co b nx lw cw y j
theorem AjT (h0:ilt (ofNat b) (ofNat m) = false):Ag (Il L) (Vb a n g m x t k p r q ln co) (Si a n g m x t k p r q ln co b nx lw cw y j) = some ((.ex 0),⟨(jsV 73 0 (λ_=>.und) [(1,(.ptr 0 0)),(2,(.jref 1)),(3,(.ref 2)),(4,(.jref 3)),(5,(.ref 4))]),[(.cells [(iV a),(.sl 6 n (λi=>(eV (g i)))),(.sl 5 m (λi=>(evV (x i)))),(nV t),(iV k),(.sl 1 p (λi=>(iV (r i)))),(.sl 1 q (λu=>(.sl 1 (ln u) (λi=>(iV (co u i))))))]),(.jag (Jag.mk 79 1 0 (λ_=>.und) 0 81 8 (λ_=>true) (λ_=>0) (λ_ _=>.und))),r3Z,(.jag (Jag.mk 96 2 t (λu=>(.agg [.nilS,(iV (nx u))])) 0 81 8 (λ_=>true) lw (λi i_1=>(cw i i_1)))),(.row 3 1 b y)]⟩):=by
 exact Aa (ks:=[kn h0]) (by kernel_rfl)
theorem AjR (h0:ilt (ofNat b) (ofNat m) = true) (h29:ile 0 (ofNat b) = true) (h31:Al (ile 0 ((x b)).th) (ilt ((x b)).th (ofNat t)) = true) (h1:ieq (ofNat m) 0 = false) (h33:Al (ile 0 (Ae (wr .i64 (Az (wr .i64 (Af (ofNat b) (ofNat m))) 1)) (ofNat m))) (ilt (Ae (wr .i64 (Az (wr .i64 (Af (ofNat b) (ofNat m))) 1)) (ofNat m)) (ofNat n)) = true) (h2:ieq ((g (toN (Ae (wr .i64 (Az (wr .i64 (Af (ofNat b) (ofNat m))) 1)) (ofNat m))))).kind 5 = false) (h3:ieq ((x b)).dir 2 = true) (h34:nlt (toN ((x b)).th) t = true) (h35:Bx (lw (toN ((x b)).th)) 1 80 = true) (h36:Bx b 1 8 = true):Ag (Il L) (Vb a n g m x t k p r q ln co) (Si a n g m x t k p r q ln co b nx lw cw y j) = some (.nm,⟨(jsV 73 0 (λ_=>.und) [(1,(.ptr 0 0)),(2,(.jref 1)),(3,(.ref 2)),(4,(.jref 3)),(5,(.ref 4)),(6,(nV m)),(20,(.sl 5 m (λi=>(evV (x i))))),(21,(nV m)),(22,(iV (wr .i64 (Af (ofNat b) 1))))]),[(.cells [(iV a),(.sl 6 n (λi=>(eV (g i)))),(.sl 5 m (λi=>(evV (x i)))),(nV t),(iV k),(.sl 1 p (λi=>(iV (r i)))),(.sl 1 q (λu=>(.sl 1 (ln u) (λi=>(iV (co u i))))))]),(.jag (Jag.mk 79 1 0 (λ_=>.und) 0 81 8 (λ_=>true) (λ_=>0) (λ_ _=>.und))),r3Z,(.jag (Jag.mk 96 2 t (λi=>(.agg [.nilS,(iV (nx i))])) 0 81 8 (λi=>(sel (AB i (toN ((x b)).th)) true (sel (AB i (toN ((x b)).th)) false true))) (λi=>(sel (AB i (toN ((x b)).th)) (Bd (lw (toN ((x b)).th)) 1) (lw i))) (λi i_1=>(C4 (λi_2 i_3=>(cw i_2 i_3)) (toN ((x b)).th) (A2 (lw (toN ((x b)).th)) (cw (toN ((x b)).th)) (.agg [(iV 1),(iV 0),(iV 0),(iV 0),(iV ((x b)).val),(.str (C6 ((x b)).loc)),(.str []),(iV 0)])) i i_1)))),(.row 3 1 (Bd b 1) (A2 b y (iV (-1))))]⟩):=by
 exact Aa (ks:=[kn h0,kA (kn h29) (kn h0),kn h31,kn h1,kn h33,kn h2,kn h3,kn h34,kT,kJ (toN ((x b)).th),kJ (toN ((x b)).th),kJ (toN ((x b)).th),kJ (toN ((x b)).th),kn h34,kT,kJ (toN ((x b)).th),kJ (toN ((x b)).th),kJ (toN ((x b)).th),kJ (toN ((x b)).th),kJ (toN ((x b)).th),kn h34,kT,kJ (toN ((x b)).th),kT,kn h35,kJ (toN ((x b)).th),kn h34,kn h36]) (by kernel_rfl)
theorem Agp (h0:ilt (ofNat b) (ofNat m) = true) (h29:ile 0 (ofNat b) = true) (h31:Al (ile 0 ((x b)).th) (ilt ((x b)).th (ofNat t)) = true) (h1:ieq (ofNat m) 0 = false) (h33:Al (ile 0 (Ae (wr .i64 (Az (wr .i64 (Af (ofNat b) (ofNat m))) 1)) (ofNat m))) (ilt (Ae (wr .i64 (Az (wr .i64 (Af (ofNat b) (ofNat m))) 1)) (ofNat m)) (ofNat n)) = true) (h2:ieq ((g (toN (Ae (wr .i64 (Az (wr .i64 (Af (ofNat b) (ofNat m))) 1)) (ofNat m))))).kind 5 = true) (h34:nlt (toN ((x b)).th) t = true) (h35:Bx (lw (toN ((x b)).th)) 1 80 = true) (h3:ieq ((x b)).dir 2 = true) (h36:sel (AB (toN ((x b)).th) (toN ((x b)).th)) true (sel (AB (toN ((x b)).th) (toN ((x b)).th)) false true) = true) (h37:Bx (sel (AB (toN ((x b)).th) (toN ((x b)).th)) (Bd (lw (toN ((x b)).th)) 1) (lw (toN ((x b)).th))) 1 80 = true) (h38:Bx b 1 8 = true):Ag (Il L) (Vb a n g m x t k p r q ln co) (Si a n g m x t k p r q ln co b nx lw cw y j) = some (.nm,⟨(jsV 73 0 (λ_=>.und) [(1,(.ptr 0 0)),(2,(.jref 1)),(3,(.ref 2)),(4,(.jref 3)),(5,(.ref 4)),(6,(nV m)),(20,(.sl 5 m (λi=>(evV (x i))))),(21,(nV m)),(22,(iV (wr .i64 (Af (ofNat b) 1))))]),[(.cells [(iV a),(.sl 6 n (λi=>(eV (g i)))),(.sl 5 m (λi=>(evV (x i)))),(nV t),(iV k),(.sl 1 p (λi=>(iV (r i)))),(.sl 1 q (λu=>(.sl 1 (ln u) (λi=>(iV (co u i))))))]),(.jag (Jag.mk 79 1 0 (λ_=>.und) 0 81 8 (λ_=>true) (λ_=>0) (λ_ _=>.und))),r3Z,(.jag (Jag.mk 96 2 t (λi=>(.agg [.nilS,(iV (nx i))])) 0 81 8 (λi=>(sel (AB i (toN ((x b)).th)) true (sel (AB i (toN ((x b)).th)) false (sel (AB i (toN ((x b)).th)) true (sel (AB i (toN ((x b)).th)) false true))))) (λi=>(sel (AB i (toN ((x b)).th)) (Bd (sel (AB (toN ((x b)).th) (toN ((x b)).th)) (Bd (lw (toN ((x b)).th)) 1) (lw (toN ((x b)).th))) 1) (sel (AB i (toN ((x b)).th)) (Bd (lw (toN ((x b)).th)) 1) (lw i)))) (λi i_1=>(C4 (λi_2 i_3=>(C4 (λi_4 i_5=>(cw i_4 i_5)) (toN ((x b)).th) (A2 (lw (toN ((x b)).th)) (cw (toN ((x b)).th)) (.agg [(iV 5),(iV 0),(iV 0),(iV 0),(iV 0),(.str []),(.str []),(iV 0)])) i_2 i_3)) (toN ((x b)).th) (A2 (sel (AB (toN ((x b)).th) (toN ((x b)).th)) (Bd (lw (toN ((x b)).th)) 1) (lw (toN ((x b)).th))) (C4 (λi_4 i_5=>(cw i_4 i_5)) (toN ((x b)).th) (A2 (lw (toN ((x b)).th)) (cw (toN ((x b)).th)) (.agg [(iV 5),(iV 0),(iV 0),(iV 0),(iV 0),(.str []),(.str []),(iV 0)])) (toN ((x b)).th)) (.agg [(iV 1),(iV 0),(iV 0),(iV 0),(iV ((x b)).val),(.str (C6 ((x b)).loc)),(.str []),(iV 0)])) i i_1)))),(.row 3 1 (Bd b 1) (A2 b y (iV (-1))))]⟩):=by
 exact Aa (ks:=[kn h0,kA (kn h29) (kn h0),kn h31,kn h1,kn h33,kn h2,kn h34,kT,kJ (toN ((x b)).th),kJ (toN ((x b)).th),kJ (toN ((x b)).th),kJ (toN ((x b)).th),kn h34,kT,kJ (toN ((x b)).th),kJ (toN ((x b)).th),kJ (toN ((x b)).th),kJ (toN ((x b)).th),kJ (toN ((x b)).th),kn h34,kT,kJ (toN ((x b)).th),kT,kn h35,kJ (toN ((x b)).th),kn h34,kn h3,kn h34,kn h36,kJ (toN ((x b)).th),kJ (toN ((x b)).th),kJ (toN ((x b)).th),kJ (toN ((x b)).th),kn h34,kn h36,kJ (toN ((x b)).th),kJ (toN ((x b)).th),kJ (toN ((x b)).th),kJ (toN ((x b)).th),kJ (toN ((x b)).th),kn h34,kn h36,kJ (toN ((x b)).th),kn h36,kn h37,kJ (toN ((x b)).th),kn h34,kn h38]) (by kernel_rfl)
theorem AjS (h0:ilt (ofNat b) (ofNat m) = true) (h29:ile 0 (ofNat b) = true) (h31:Al (ile 0 ((x b)).th) (ilt ((x b)).th (ofNat t)) = true) (h1:ieq (ofNat m) 0 = false) (h33:Al (ile 0 (Ae (wr .i64 (Az (wr .i64 (Af (ofNat b) (ofNat m))) 1)) (ofNat m))) (ilt (Ae (wr .i64 (Az (wr .i64 (Af (ofNat b) (ofNat m))) 1)) (ofNat m)) (ofNat n)) = true) (h2:ieq ((g (toN (Ae (wr .i64 (Az (wr .i64 (Af (ofNat b) (ofNat m))) 1)) (ofNat m))))).kind 5 = false) (h3:ieq ((x b)).dir 2 = false) (h34:nlt (toN ((x b)).th) t = true) (h35:Bx (lw (toN ((x b)).th)) 1 80 = true) (h36:sel (AB (toN ((x b)).th) (toN ((x b)).th)) true (sel (AB (toN ((x b)).th) (toN ((x b)).th)) false true) = true) (h37:Bx b 1 8 = true):Ag (Il L) (Vb a n g m x t k p r q ln co) (Si a n g m x t k p r q ln co b nx lw cw y j) = some (.nm,⟨(jsV 73 0 (λ_=>.und) [(1,(.ptr 0 0)),(2,(.jref 1)),(3,(.ref 2)),(4,(.jref 3)),(5,(.ref 4)),(6,(nV m)),(20,(.sl 5 m (λi=>(evV (x i))))),(21,(nV m)),(22,(iV (wr .i64 (Af (ofNat b) 1))))]),[(.cells [(iV a),(.sl 6 n (λi=>(eV (g i)))),(.sl 5 m (λi=>(evV (x i)))),(nV t),(iV k),(.sl 1 p (λi=>(iV (r i)))),(.sl 1 q (λu=>(.sl 1 (ln u) (λi=>(iV (co u i))))))]),(.jag (Jag.mk 79 1 0 (λ_=>.und) 0 81 8 (λ_=>true) (λ_=>0) (λ_ _=>.und))),r3Z,(.jag (Jag.mk 96 2 t (λi=>(.agg [(cif (AB i (toN ((x b)).th)) .nilS .nilS),(iV (sel (AB i (toN ((x b)).th)) (wr .i64 (Af (nx (toN ((x b)).th)) 1)) (nx i)))])) 0 81 8 (λi=>(sel (AB i (toN ((x b)).th)) true (sel (AB i (toN ((x b)).th)) false true))) (λi=>(sel (AB i (toN ((x b)).th)) (Bd (lw (toN ((x b)).th)) 1) (lw i))) (λi i_1=>(C4 (λi_2 i_3=>(cw i_2 i_3)) (toN ((x b)).th) (A2 (lw (toN ((x b)).th)) (cw (toN ((x b)).th)) (.agg [(iV 3),(iV (nx (toN ((x b)).th))),(iV 0),(iV 0),(iV 0),(.str (C6 ((x b)).loc)),(.str []),(iV 0)])) i i_1)))),(.row 3 1 (Bd b 1) (A2 b y (iV (wr .i64 (Az (sel (AB (toN ((x b)).th) (toN ((x b)).th)) (wr .i64 (Af (nx (toN ((x b)).th)) 1)) (nx (toN ((x b)).th))) 1)))))]⟩):=by
 exact Aa (ks:=[kn h0,kA (kn h29) (kn h0),kn h31,kn h1,kn h33,kn h2,kn h3,kn h34,kT,kn h34,kT,kJ (toN ((x b)).th),kJ (toN ((x b)).th),kJ (toN ((x b)).th),kJ (toN ((x b)).th),kn h34,kT,kJ (toN ((x b)).th),kJ (toN ((x b)).th),kJ (toN ((x b)).th),kJ (toN ((x b)).th),kJ (toN ((x b)).th),kn h34,kT,kJ (toN ((x b)).th),kT,kn h35,kJ (toN ((x b)).th),kn h34,kn h34,kn h36,kn h34,kn h34,kn h36,kn h37]) (by kernel_rfl)
theorem Agq (h0:ilt (ofNat b) (ofNat m) = true) (h29:ile 0 (ofNat b) = true) (h31:Al (ile 0 ((x b)).th) (ilt ((x b)).th (ofNat t)) = true) (h1:ieq (ofNat m) 0 = false) (h33:Al (ile 0 (Ae (wr .i64 (Az (wr .i64 (Af (ofNat b) (ofNat m))) 1)) (ofNat m))) (ilt (Ae (wr .i64 (Az (wr .i64 (Af (ofNat b) (ofNat m))) 1)) (ofNat m)) (ofNat n)) = true) (h2:ieq ((g (toN (Ae (wr .i64 (Az (wr .i64 (Af (ofNat b) (ofNat m))) 1)) (ofNat m))))).kind 5 = true) (h34:nlt (toN ((x b)).th) t = true) (h35:Bx (lw (toN ((x b)).th)) 1 80 = true) (h3:ieq ((x b)).dir 2 = false) (h36:sel (AB (toN ((x b)).th) (toN ((x b)).th)) true (sel (AB (toN ((x b)).th) (toN ((x b)).th)) false true) = true) (h37:Bx (sel (AB (toN ((x b)).th) (toN ((x b)).th)) (Bd (lw (toN ((x b)).th)) 1) (lw (toN ((x b)).th))) 1 80 = true) (h38:sel (AB (toN ((x b)).th) (toN ((x b)).th)) true (sel (AB (toN ((x b)).th) (toN ((x b)).th)) false (sel (AB (toN ((x b)).th) (toN ((x b)).th)) true (sel (AB (toN ((x b)).th) (toN ((x b)).th)) false true))) = true) (h39:Bx b 1 8 = true):Ag (Il L) (Vb a n g m x t k p r q ln co) (Si a n g m x t k p r q ln co b nx lw cw y j) = some (.nm,⟨(jsV 73 0 (λ_=>.und) [(1,(.ptr 0 0)),(2,(.jref 1)),(3,(.ref 2)),(4,(.jref 3)),(5,(.ref 4)),(6,(nV m)),(20,(.sl 5 m (λi=>(evV (x i))))),(21,(nV m)),(22,(iV (wr .i64 (Af (ofNat b) 1))))]),[(.cells [(iV a),(.sl 6 n (λi=>(eV (g i)))),(.sl 5 m (λi=>(evV (x i)))),(nV t),(iV k),(.sl 1 p (λi=>(iV (r i)))),(.sl 1 q (λu=>(.sl 1 (ln u) (λi=>(iV (co u i))))))]),(.jag (Jag.mk 79 1 0 (λ_=>.und) 0 81 8 (λ_=>true) (λ_=>0) (λ_ _=>.und))),r3Z,(.jag (Jag.mk 96 2 t (λi=>(.agg [(cif (AB i (toN ((x b)).th)) .nilS .nilS),(iV (sel (AB i (toN ((x b)).th)) (wr .i64 (Af (nx (toN ((x b)).th)) 1)) (nx i)))])) 0 81 8 (λi=>(sel (AB i (toN ((x b)).th)) true (sel (AB i (toN ((x b)).th)) false (sel (AB i (toN ((x b)).th)) true (sel (AB i (toN ((x b)).th)) false true))))) (λi=>(sel (AB i (toN ((x b)).th)) (Bd (sel (AB (toN ((x b)).th) (toN ((x b)).th)) (Bd (lw (toN ((x b)).th)) 1) (lw (toN ((x b)).th))) 1) (sel (AB i (toN ((x b)).th)) (Bd (lw (toN ((x b)).th)) 1) (lw i)))) (λi i_1=>(C4 (λi_2 i_3=>(C4 (λi_4 i_5=>(cw i_4 i_5)) (toN ((x b)).th) (A2 (lw (toN ((x b)).th)) (cw (toN ((x b)).th)) (.agg [(iV 5),(iV 0),(iV 0),(iV 0),(iV 0),(.str []),(.str []),(iV 0)])) i_2 i_3)) (toN ((x b)).th) (A2 (sel (AB (toN ((x b)).th) (toN ((x b)).th)) (Bd (lw (toN ((x b)).th)) 1) (lw (toN ((x b)).th))) (C4 (λi_4 i_5=>(cw i_4 i_5)) (toN ((x b)).th) (A2 (lw (toN ((x b)).th)) (cw (toN ((x b)).th)) (.agg [(iV 5),(iV 0),(iV 0),(iV 0),(iV 0),(.str []),(.str []),(iV 0)])) (toN ((x b)).th)) (.agg [(iV 3),(iV (nx (toN ((x b)).th))),(iV 0),(iV 0),(iV 0),(.str (C6 ((x b)).loc)),(.str []),(iV 0)])) i i_1)))),(.row 3 1 (Bd b 1) (A2 b y (iV (wr .i64 (Az (sel (AB (toN ((x b)).th) (toN ((x b)).th)) (wr .i64 (Af (nx (toN ((x b)).th)) 1)) (nx (toN ((x b)).th))) 1)))))]⟩):=by
 exact Aa (ks:=[kn h0,kA (kn h29) (kn h0),kn h31,kn h1,kn h33,kn h2,kn h34,kT,kJ (toN ((x b)).th),kJ (toN ((x b)).th),kJ (toN ((x b)).th),kJ (toN ((x b)).th),kn h34,kT,kJ (toN ((x b)).th),kJ (toN ((x b)).th),kJ (toN ((x b)).th),kJ (toN ((x b)).th),kJ (toN ((x b)).th),kn h34,kT,kJ (toN ((x b)).th),kT,kn h35,kJ (toN ((x b)).th),kn h34,kn h3,kn h34,kn h36,kn h34,kn h36,kJ (toN ((x b)).th),kJ (toN ((x b)).th),kJ (toN ((x b)).th),kJ (toN ((x b)).th),kn h34,kn h36,kJ (toN ((x b)).th),kJ (toN ((x b)).th),kJ (toN ((x b)).th),kJ (toN ((x b)).th),kJ (toN ((x b)).th),kn h34,kn h36,kJ (toN ((x b)).th),kn h36,kn h37,kJ (toN ((x b)).th),kn h34,kn h34,kn h38,kn h34,kn h34,kn h38,kn h39]) (by kernel_rfl)
end
structure WrOK (n m t:Nat) (x:Nat->Ev5):Prop where
 m16:m <= 16
 t16:t <= 16
 th:∀ b,b < m->Al (ile 0 (x b).th) (ilt (x b).th (ofNat t)) = true
 ed:∀ b,b < m->(b+m - 1) % m < n
theorem AcW {b m:Nat} (hb:b < m) (hm:m <= 16):Ae (wr .i64 (Az (wr .i64 (Af (ofNat b) (ofNat m))) 1)) (ofNat m) = ofNat ((b+m - 1) % m):=by
 have e1:Af (ofNat b) (ofNat m) = Af (ofNat (b+m - 1)) 1:=by
  show (b:Int)+(m:Int) = ((b+m - 1:Nat):Int)+1
  omega
 have e2:=An (i:=b+m - 1) (n:=b+m) (by omega) (by omega)
 rw [e1,e2]
 have e3:=W5 (k:=b+m - 1) (by omega)
 rw [e3]
 exact (Int.ofNat_tmod _ _).symm
def feF (g:Nat->E6) (m:Nat) (b:Nat):Bool:=ieq (g ((b+m - 1) % m)).kind 5
theorem Aes (L:LT) (a:Int) (n:Nat) (g:Nat->E6) (m:Nat) (x:Nat->Ev5) (t:Nat) (k:Int) (p:Nat) (r:Nat->Int) (q:Nat) (ln:Nat->Nat) (co:Nat->Nat->Int) (O:WrOK n m t x):∀ (e b:Nat) (j:Nat->V) (u:Nat),m = b+e->e < u ->
  (AA (Il L) (Vb a n g m x t k p r q ln co) u (Si a n g m x t k p r q ln co b (wsF (feF g m) x b).nx (wsF (feF g m) x b).lw (cR (feF g m) x b) (yR (feF g m) x b) j)).sem = some (T0 a n g m x t k p r q ln co m (wsF (feF g m) x m).nx (wsF (feF g m) x m).lw (cR (feF g m) x m) (yR (feF g m) x m))
 | 0,b,j,u+1,h,_=>by
  have:m = b:=by omega
  subst this
  exact Ab (AjT L a n g m x t k p r q ln co m _ _ _ _ j (A9 (Nat.le_refl _)))
 | e+1,b,j,u+1,h,h2=>by
  have hb:b < m:=by omega
  have next:=Aes L a n g m x t k p r q ln co O e (b+1) (λ_=>.und) u (by omega) (by omega)
  have m16:=O.m16
  have hth:=O.th b hb
  have hl:=YI (feF g m) x (toN (x b).th) b
  have hu:nlt (toN (x b).th) t = true:=by
   obtain ⟨h0,h1⟩:=Bj hth
   have e:=X4 h0
   rw [e,Cf] at h1
   rw [e]
   exact h1
  rw [show wsF (feF g m) x (b+1) = evW (feF g m b) (x b) b (wsF (feF g m) x b) from rfl,show cR (feF g m) x (b+1) = evC (feF g m b) (x b) (wsF (feF g m) x b) (cR (feF g m) x b) from rfl,show yR (feF g m) x (b+1) = A2 b (yR (feF g m) x b) (iV (yvW (x b) (wsF (feF g m) x b))) from rfl] at next
  generalize wsF (feF g m) x b = W at hl next ⊢
  generalize cR (feF g m) x b = c at next ⊢
  generalize yR (feF g m) x b = y at next ⊢
  have hJ:=AcW hb m16
  have hj:Al (ile 0 (Ae (wr .i64 (Az (wr .i64 (Af (ofNat b) (ofNat m))) 1)) (ofNat m))) (ilt (Ae (wr .i64 (Az (wr .i64 (Af (ofNat b) (ofNat m))) 1)) (ofNat m)) (ofNat n)) = true:=by rw [hJ]; exact Ap (O.ed b hb)
  have hf0:ieq (g (toN (Ae (wr .i64 (Az (wr .i64 (Af (ofNat b) (ofNat m))) 1)) (ofNat m)))).kind 5 = feF g m b:=by rw [hJ]; rfl
  unfold evW evC yvW Yj at next
  cases hF:feF g m b <;> rw [hF] at hf0 next <;> have hf:=hf0 <;> cases hd:ieq (x b).dir 2 <;> rw [hd] at next
  ·rw [Ab (AjS L a n g m x t k p r q ln co b W.nx W.lw c y j (ofNat_lt hb) (AE b) hth (MH (by omega)) hj hf hd hu (BM (by omega)) (by rw [BX]; rfl) (BM (by omega))),Aq,An hb (by omega),AeJ,AaS]
   exact next
  ·rw [Ab (AjR L a n g m x t k p r q ln co b W.nx W.lw c y j (ofNat_lt hb) (AE b) hth (MH (by omega)) hj hf hd hu (BM (by omega)) (BM (by omega))),Aq,An hb (by omega),AeJ]
   exact next
  ·rw [Ab (Agq L a n g m x t k p r q ln co b W.nx W.lw c y j (ofNat_lt hb) (AE b) hth (MH (by omega)) hj hf hu (BM (by omega)) hd (by rw [BX]; rfl) (BM (by rw [BX]; show (W.lw (toN (x b).th)+1+1) * 80 <= _; omega)) (by rw [BX]; rfl) (BM (by omega))),Aq,An hb (by omega),AeI,AaS]
   exact next
  ·rw [Ab (Agp L a n g m x t k p r q ln co b W.nx W.lw c y j (ofNat_lt hb) (AE b) hth (MH (by omega)) hj hf hu (BM (by omega)) hd (by rw [BX]; rfl) (BM (by rw [BX]; show (W.lw (toN (x b).th)+1+1) * 80 <= _; omega)) (BM (by omega))),Aq,An hb (by omega),AeI]
   exact next
def Rj (_:Int) (_:Nat) (_:Nat->E6) (_:Nat) (_:Nat->Ev5) (t:Nat) (_:Int) (_:Nat) (_:Nat->Int) (_:Nat) (_:Nat->Nat) (_:Nat->Nat->Int):Lp:=⟨(bmK 73 0 [1,2,3,4,5,11,56,57,58]),6,bmK 73 0 [1,2,3,4,5,11],6,t+1⟩
def Np (a:Int) (n:Nat) (g:Nat->E6) (m:Nat) (x:Nat->Ev5) (t:Nat) (k:Int) (p:Nat) (r:Nat->Int) (q:Nat) (ln:Nat->Nat) (co:Nat->Nat->Int) (b:Nat) (nx:Nat->Int) (lw:Nat->Nat) (cw:Nat->Nat->V) (y gz:Nat->V) (lv:Nat->Bool) (lo:Nat->Nat) (mo:Nat->Nat->V) (j:Nat->V):St:=⟨(jsV 73 0 j [(1,.ptr 0 0),(2,.jref 1),(3,.ref 2),(4,.jref 3),(5,.ref 4),(11,.jref 5),(56,.jref 3),(57,nV t),(58,nV b)]),[.cells [iV a,.sl 6 n (λi=>eV (g i)),.sl 5 m (λi=>evV (x i)),nV t,iV k,.sl 1 p (λi=>iV (r i)),.sl 1 q (λu=>.sl 1 (ln u) (λi=>iV (co u i)))],.jag (Jag.mk 79 1 0 (λ_=>.und) 0 81 8 (λ_=>true) (λ_=>0) (λ_ _=>.und)),r3Z,.jag (Jag.mk 96 2 t (λu=>.agg [.nilS,iV (nx u)]) 0 81 8 lv lw cw),.row 3 1 m y,.jag (Jag.mk 79 1 b gz 0 81 8 (λ_=>true) lo mo)]⟩
def KI (a:Int) (n:Nat) (g:Nat->E6) (m:Nat) (x:Nat->Ev5) (t:Nat) (k:Int) (p:Nat) (r:Nat->Int) (q:Nat) (ln:Nat->Nat) (co:Nat->Nat->Int) (b:Nat) (nx:Nat->Int) (lw:Nat->Nat) (cw:Nat->Nat->V) (y gz:Nat->V) (lv:Nat->Bool) (lo:Nat->Nat) (mo:Nat->Nat->V):Ex × St:=(.ex 2,⟨(jsV 73 0 (λ_=>.und) [(1,.ptr 0 0),(2,.jref 1),(3,.ref 2),(4,.jref 3),(5,.ref 4),(11,.jref 5)]),[.cells [iV a,.sl 6 n (λi=>eV (g i)),.sl 5 m (λi=>evV (x i)),nV t,iV k,.sl 1 p (λi=>iV (r i)),.sl 1 q (λu=>.sl 1 (ln u) (λi=>iV (co u i)))],.jag (Jag.mk 79 1 0 (λ_=>.und) 0 81 8 (λ_=>true) (λ_=>0) (λ_ _=>.und)),r3Z,.jag (Jag.mk 96 2 t (λu=>.agg [.nilS,iV (nx u)]) 0 81 8 lv lw cw),.row 3 1 m y,.jag (Jag.mk 79 1 b gz 0 81 8 (λ_=>true) lo mo)]⟩)
noncomputable def Ik (L:LT):St->T (Ex × St):=λst=>AD tab ⟨LY,L,Gl⟩ (As Tryz.f19 2) 2 st
section
variable (L:LT) (a:Int) (n:Nat) (g:Nat->E6) (m:Nat) (x:Nat->Ev5) (t:Nat) (k:Int) (p:Nat) (r:Nat->Int) (q:Nat) (ln:Nat->Nat) (co:Nat->Nat->Int) (b:Nat) (nx:Nat->Int) (lw:Nat->Nat) (cw:Nat->Nat->V) (y gz:Nat->V) (lv:Nat->Bool) (lo:Nat->Nat) (mo:Nat->Nat->V)  (j:Nat->V)
include L a n g m x t k p r q ln co b nx lw cw y gz lv lo mo j
theorem AjL (h0:ilt (ofNat b) (ofNat t) = false):Ag (Ik L) (Rj a n g m x t k p r q ln co) (Np a n g m x t k p r q ln co b nx lw cw y gz lv lo mo j) = some ((.ex 2),⟨(jsV 73 0 (λ_=>.und) [(1,(.ptr 0 0)),(2,(.jref 1)),(3,(.ref 2)),(4,(.jref 3)),(5,(.ref 4)),(11,(.jref 5))]),[(.cells [(iV a),(.sl 6 n (λi=>(eV (g i)))),(.sl 5 m (λi=>(evV (x i)))),(nV t),(iV k),(.sl 1 p (λi=>(iV (r i)))),(.sl 1 q (λu=>(.sl 1 (ln u) (λi=>(iV (co u i))))))]),(.jag (Jag.mk 79 1 0 (λ_=>.und) 0 81 8 (λ_=>true) (λ_=>0) (λ_ _=>.und))),r3Z,(.jag (Jag.mk 96 2 t (λu=>(.agg [.nilS,(iV (nx u))])) 0 81 8 lv lw (λi i_1=>(cw i i_1)))),(.row 3 1 m y),(.jag (Jag.mk 79 1 b gz 0 81 8 (λ_=>true) lo (λi i_1=>(mo i i_1))))]⟩):=by
 exact Aa (ks:=[kn h0]) (by kernel_rfl)
theorem AjK (h0:ilt (ofNat b) (ofNat t) = true) (h27:ile 0 (ofNat b) = true) (h28:nlt b t = true) (h29:lv b = true) (h30:Bx b 1 24 = true):Ag (Ik L) (Rj a n g m x t k p r q ln co) (Np a n g m x t k p r q ln co b nx lw cw y gz lv lo mo j) = some (.nm,⟨(jsV 73 0 (λ_=>.und) [(1,(.ptr 0 0)),(2,(.jref 1)),(3,(.ref 2)),(4,(.jref 3)),(5,(.ref 4)),(11,(.jref 5)),(56,(.jref 3)),(57,(nV t)),(58,(iV (wr .i64 (Af (ofNat b) 1))))]),[(.cells [(iV a),(.sl 6 n (λi=>(eV (g i)))),(.sl 5 m (λi=>(evV (x i)))),(nV t),(iV k),(.sl 1 p (λi=>(iV (r i)))),(.sl 1 q (λu=>(.sl 1 (ln u) (λi=>(iV (co u i))))))]),(.jag (Jag.mk 79 1 0 (λ_=>.und) 0 81 8 (λ_=>true) (λ_=>0) (λ_ _=>.und))),r3Z,(.jag (Jag.mk 96 2 t (λi=>(.agg [.nilS,(iV (nx i))])) 0 81 8 (λi=>(sel (AB i b) false (lv i))) lw (λi i_1=>(cw i i_1)))),(.row 3 1 m y),(.jag (Jag.mk 79 1 (Bd b 1) (A2 b gz .und) 0 81 8 (λi=>(sel (AB i b) true true)) (λi=>(sel (AB i b) (lw b) (lo i))) (λi i_1=>(C4 (λi_2 i_3=>(mo i_2 i_3)) b (cw b) i i_1))))]⟩):=by
 exact Aa (ks:=[kn h0,kA (kn h27) (kn h0),kn h28,kn h29,kn h29,kT,kn h30]) (by kernel_rfl)
end
def Anf (a:Int) (n:Nat) (g:Nat->E6) (m:Nat) (x:Nat->Ev5) (t:Nat) (k:Int) (p:Nat) (r:Nat->Int) (q:Nat) (ln:Nat->Nat) (co:Nat->Nat->Int) :Nat->V:=lkV A7 [(0,(.agg [iV a,.sl 6 n (λi=>eV (g i)),.sl 5 m (λi=>evV (x i)),nV t,iV k,.sl 1 p (λi=>iV (r i)),.sl 1 q (λu=>.sl 1 (ln u) (λi=>iV (co u i)))])),(13,(.ptr 0 3)),(14,(nV t)),(15,(.jref 3)),(16,(.ptr 0 2)),(17,(.sl 5 m (λi=>evV (x i)))),(18,(nV m)),(19,(.ptr 0 2))]
def Ain (_:Int) (_:Nat) (_:Nat->E6) (_:Nat) (_:Nat->Ev5) (_:Nat) (_:Int) (_:Nat) (_:Nat->Int) (_:Nat) (_:Nat->Nat) (_:Nat->Nat->Int) (_:Nat->Int) (_:Nat->Nat) (_:Nat->Nat->V) (_:Nat->V):Nat->V:=lkV A7 [(0,.und),(6,.und),(7,.und),(8,.und),(9,.und),(10,.und),(12,.und),(13,.und),(14,.und),(15,.und),(16,.und),(17,.und),(18,.und),(19,.und),(20,.und),(21,.und),(22,.und),(23,.und),(24,.und),(25,.und),(26,.und),(27,.und),(28,.und),(29,.und),(30,.und),(31,.und),(32,.und),(33,.und),(34,.und),(35,.und),(36,.und),(37,.und),(38,.und),(39,.und),(40,.und),(41,.und),(42,.und),(43,.und),(44,.und),(45,.und),(46,.und),(47,.und),(48,.und),(49,.und),(50,.und),(51,.und),(52,.und),(53,.und),(54,.und),(55,.und),(59,.und),(60,.und),(61,.und),(62,.und),(63,.und),(64,.und),(65,.und),(66,.und),(67,.und),(68,.und),(69,.und),(70,.und),(71,.und),(72,.und)]
theorem w75 (L:LT) (p0:PT) (p2:PT) (a:Int) (n:Nat) (g:Nat->E6) (m:Nat) (x:Nat->Ev5) (t:Nat) (k:Int) (p:Nat) (r:Nat->Int) (q:Nat) (ln:Nat->Nat) (co:Nat->Nat->Int) (nx:Nat->Int) (lw:Nat->Nat) (cw:Nat->Nat->V) (y gz:Nat->V) (lv:Nat->Bool) (lo:Nat->Nat) (mo:Nat->Nat->V) (h26:C5 32 (ofNat t) (ofNat t) = true) (hp0:p0 (Il (onP 0 p0 (T0 a n g m x t k p r q ln co m nx lw cw y) (onP 2 p2 (KI a n g m x t k p r q ln co t nx lw cw y gz lv lo mo) L))) ((Si a n g m x t k p r q ln co 0 (λ_=>0) (λ_=>0) (λ_ _=>.und) (λ_=>.und) (Anf a n g m x t k p r q ln co))) = true) (hp2:p2 (Ik (onP 0 p0 (T0 a n g m x t k p r q ln co m nx lw cw y) (onP 2 p2 (KI a n g m x t k p r q ln co t nx lw cw y gz lv lo mo) L))) ((Np a n g m x t k p r q ln co 0 nx lw cw y (λ_=>.und) (λ_=>true) (λ_=>0) (λ_ _=>.und) (Ain a n g m x t k p r q ln co nx lw cw y))) = true):(Au (Ah tab ⟨LY,(onP 0 p0 (T0 a n g m x t k p r q ln co m nx lw cw y) (onP 2 p2 (KI a n g m x t k p r q ln co t nx lw cw y gz lv lo mo) L)),Gl⟩ Tryz.f19 [.agg [iV a,.sl 6 n (λi=>eV (g i)),.sl 5 m (λi=>evV (x i)),nV t,iV k,.sl 1 p (λi=>iV (r i)),.sl 1 q (λu=>.sl 1 (ln u) (λi=>iV (co u i)))]] [])).sem = some ((.tup [(.jref 0),(.ref 1)]),[(.jag (Jag.mk 79 1 t gz 0 81 8 (λ_=>true) lo (λi i_1=>(mo i i_1)))),(.row 3 1 m y)]):=by
 exact Aa (ks:=[kn h26,kn hp0,kn hp2]) (by kernel_rfl)
def My (t:Nat):Nat->Nat->Bool
 | 0=>λ_=>true
 | b+1=>λi=>sel (AB i b) false (My t b i)
def Yl:Nat->Nat->V
 | 0=>λ_=>.und
 | b+1=>A2 b (Yl b) .und
def OY (lw:Nat->Nat):Nat->Nat->Nat
 | 0=>λ_=>0
 | b+1=>λi=>sel (AB i b) (lw b) (OY lw b i)
def Rc (cw:Nat->Nat->V):Nat->Nat->Nat->V
 | 0=>λ_ _=>.und
 | b+1=>C4 (Rc cw b) b (cw b)
theorem SQ (t:Nat):∀ b i,b <= i->My t b i = true
 | 0,_,_=>rfl
 | b+1,i,h=>by
  show sel (AB i b) false (My t b i) = true
  rw [show AB i b = false from Go.Sy.nbeq_ne (by omega),SQ t b i (by omega)]
  rfl
theorem Ro (lw:Nat->Nat):∀ b i,i < b->OY lw b i = lw i
 | b+1,i,h=>by
  show sel (AB i b) (lw b) (OY lw b i) = lw i
  by_cases he:i = b
  ·subst he; rw [BX]; rfl
  ·rw [show AB i b = false from Go.Sy.nbeq_ne he,Ro lw b i (by omega)]; rfl
theorem WD (cw:Nat->Nat->V):∀ b i,i < b->Rc cw b i = cw i
 | b+1,i,h=>by
  show C4 (Rc cw b) b (cw b) i = cw i
  by_cases he:i = b
  ·subst he; exact L3 _ _ _
  ·rw [QA he]; exact WD cw b i (by omega)
theorem Alj (b:Nat):(λi=>sel (AB i b) true true) = λ_=>true:=by
 funext i; cases AB i b <;> rfl
theorem Z5 (L:LT) (a:Int) (n:Nat) (g:Nat->E6) (m:Nat) (x:Nat->Ev5) (t:Nat) (k:Int) (p:Nat) (r:Nat->Int) (q:Nat) (ln:Nat->Nat) (co:Nat->Nat->Int) (t16:t <= 16) (nx:Nat->Int) (lw:Nat->Nat) (cw:Nat->Nat->V) (y:Nat->V):∀ (e b:Nat) (j:Nat->V) (u:Nat),t = b+e->e < u ->
  (AA (Ik L) (Rj a n g m x t k p r q ln co) u (Np a n g m x t k p r q ln co b nx lw cw y (Yl b) (My t b) (OY lw b) (Rc cw b) j)).sem = some (KI a n g m x t k p r q ln co t nx lw cw y (Yl t) (My t t) (OY lw t) (Rc cw t))
 | 0,b,j,u+1,h,_=>by
  have:t = b:=by omega
  subst this
  exact Ab (AjL L a n g m x t k p r q ln co t _ _ _ _ _ _ _ _ j (A9 (Nat.le_refl _)))
 | e+1,b,j,u+1,h,h2=>by
  have hb:b < t:=by omega
  have hb2:nlt b t = true:=decide_eq_true hb
  have hv:=SQ t b b (Nat.le_refl _)
  have next:=Z5 L a n g m x t k p r q ln co t16 nx lw cw y e (b+1) (λ_=>.und) u (by omega) (by omega)
  rw [Ab (AjK L a n g m x t k p r q ln co b nx lw cw y (Yl b) (My t b) (OY lw b) (Rc cw b) j (ofNat_lt hb) (AE b) hb2 hv (BM (by omega))),Aq,An hb (by omega),Alj]
  exact next
def wrB (s:Sh7):Bool:=Al (Nat.ble s.nx 16) (Al (Nat.ble (toN s.tt) 16) (Al (ieq s.tt (ofNat (toN s.tt))) (Al (AJ s.nx λb=>Al (ile 0 (s.X b).th) (ilt (s.X b).th s.tt)) (AJ s.nx λb=>nlt ((b+s.nx - 1) % s.nx) s.ne))))
theorem AeZ {s:Sh7} (h:wrB s = true):∃ t,s.tt = ofNat t ∧ WrOK s.ne s.nx t s.X:=by
 obtain ⟨h1,h⟩:=Bj h
 obtain ⟨h2,h⟩:=Bj h
 obtain ⟨h3,h⟩:=Bj h
 obtain ⟨h4,h5⟩:=Bj h
 refine ⟨toN s.tt,CC h3,⟨Nat.le_of_ble_eq_true h1,Nat.le_of_ble_eq_true h2,λb hb=>?_,λb hb=>?_⟩⟩
 ·rw [<- CC h3]; exact A4.1 h4 b hb
 ·exact of_decide_eq_true (A4.1 h5 b hb)
def wsS (s:Sh7):Wr4:=wsF (feF s.E s.nx) s.X s.nx
def Al5 (s:Sh7):List Blk:=[.jag ⟨79,1,toN s.tt,λ_=>.und,0,81,8,λ_=>true,(wsS s).lw,cV (wsS s)⟩,.row 3 1 s.nx (yV (wsS s))]
def MY:List V->T (V × List Blk)
 | [v]=>apS v λs=>.br (wrB s) (.leaf (.tup [.jref 0,.ref 1],Al5 s)) .fail
 | _=>.fail
theorem p75:A6 Tryz.prog Gl 19 MY:=by
 refine Av AI mixed Tryz.func19 (by kernel_rfl) (by kernel_rfl) λvs v h' h=>?_
 unfold MY at h
 split at h
 ·rename_i v1
  obtain ⟨s,a1,h⟩:=apS_some h
  obtain ⟨hw,h⟩:=Ad h
  have:=Ac h
  simp only [Prod.mk.injEq] at this
  obtain ⟨rfl,rfl⟩:=this
  obtain ⟨t,ht,O⟩:=AeZ hw
  obtain ⟨a,n,g,m,x,tt,k,p,r,q,C⟩:=s
  have ht:tt = ofNat t:=ht
  subst ht
  have O:WrOK n m t x:=O
  have m16:=O.m16
  have t16:=O.t16
  obtain ⟨ln,co,hC⟩:∃ (ln:Nat->Nat) (co:Nat->Nat->Int),C = λu=>(ln u,co u):=⟨λu=>(C u).1,λu=>(C u).2,rfl⟩
  subst hC
  have hA:Bm [v1] [.agg [iV a,.sl 6 n (λi=>eV (g i)),.sl 5 m (λi=>evV (x i)),nV t,iV k,.sl 1 p (λi=>iV (r i)),.sl 1 q (λu=>.sl 1 (ln u) (λi=>iV (co u i)))]]:=λS w cs hv=>by
   obtain ⟨c,l,rfl,q1,q2⟩:=hv
   exact ⟨c,_,rfl,a1 S w c q1,q2⟩
  have hm:C5 32 (ofNat t) (ofNat t) = true:=by
   unfold C5
   simp only [Int.ofNat_eq_natCast,Bool.and_eq_true,decide_eq_true_eq]
   omega
  generalize hls:[(0,Vb a n g m x t k p r q ln co),(2,Rj a n g m x t k p r q ln co)] = ls
  have hx:BF ⟨LY,AP ls,Gl⟩:=λid f st r hr=>by
   have hr:(AP ls id f st).sem = some r:=hr
   unfold AP at hr
   split at hr
   ·exact Fl hr
   ·cases hr
  have hL:=AF ls
  generalize hW:wsF (feF g m) x m = W
  generalize hc:cR (feF g m) x m = c
  generalize hy:yR (feF g m) x m = y
  have i0:∀ L' j,(AP ls 0 (Il L') (Si a n g m x t k p r q ln co 0 (λ_=>0) (λ_=>0) (λ_ _=>.und) (λ_=>.und) j)).sem = some (T0 a n g m x t k p r q ln co m W.nx W.lw c y):=λL' j=>by
   subst hls
   have:=Aes L' a n g m x t k p r q ln co O m 0 j (m+1) (by omega) (by omega)
   rw [hW,hc,hy] at this
   exact this
  have i2:∀ L' j,(AP ls 2 (Ik L') (Np a n g m x t k p r q ln co 0 W.nx W.lw c y (λ_=>.und) (λ_=>true) (λ_=>0) (λ_ _=>.und) j)).sem = some (KI a n g m x t k p r q ln co t W.nx W.lw c y (Yl t) (My t t) (OY W.lw t) (Rc c t)):=λL' j=>by
   subst hls
   exact Z5 L' a n g m x t k p r q ln co t16 W.nx W.lw c y t 0 j (t+1) (by omega) (by omega)
  refine ⟨_,⟨LY,AP ls,Gl⟩,_,hA,rfl,Y5,hx,A1 (Ar (Ar hL hL) hL) _ (w75 _ _ _ a n g m x t k p r q ln co W.nx W.lw c y (Yl t) (My t t) (OY W.lw t) (Rc c t) hm (Ai (i0 _ _)) (Ai (i2 _ _))),?_⟩
  refine .consB (.jag (λ_ _=>.inr rfl) (λ_ _=>rfl) (λk hk=>?_) (λk hk q hq=>?_)) (.one λi hi=>?_)
  ·have hk:k < t:=hk
   show (wsS _).lw k = OY W.lw t k
   rw [Ro _ _ _ hk,<- hW]
   rfl
  ·have hk:k < t:=hk
   have hq:q < OY W.lw t k:=hq
   show cV (wsS _) k q = Rc c t k q
   rw [WD _ _ _ hk,<- hc]
   rw [Ro _ _ _ hk,<- hW] at hq
   exact (AeW _ _ _ _ _ hq).symm
  ·show yV (wsS _) i = y i
   rw [<- hy]
   exact (Aef _ _ _ _ hi).symm
 ·cases h
end Go.Proofs.YthlojajaenfidaaGreatDoor.Sh
