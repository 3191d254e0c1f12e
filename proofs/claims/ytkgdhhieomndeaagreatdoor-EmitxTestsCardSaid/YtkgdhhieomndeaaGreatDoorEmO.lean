/-
  The document's condition of a shape (alembicref11.Cond): what the program's asked answers. No conditions.
-/
import Derived.Test.YtkgdhhieomndeaaGreatDoorShS
import Derived.Test.YtkgdhhieomndeaaGreatDoorEmJ
import Derived.Test.YtkgdhhieomndeaaGreatDoorShAb
import Derived.Test.YtkgdhhieomndeaaGreatDoorEdX
import Derived.Test.YtkgdhhieomndeaaGreatDoorEmH
import Derived.Test.YtkgdhhieomndeaaGreatDoorShAc
import Derived.Test.YtkgdhhieomndeaaGreatDoorShV
namespace Go.Proofs.YtkgdhhieomndeaaGreatDoor.Em
open Go.Sy Go Go.Proofs.YtkgdhhieomndeaaGreatDoor.Ed Go.Proofs.YtkgdhhieomndeaaGreatDoor.Sh
open Int (ofNat)
set_option maxRecDepth 100000
set_option maxHeartbeats 2000000
noncomputable def F4:AP:=[(45,Ov),(49,allT)]
theorem ZT:Av Tryz.prog Gl F4:=.cons p38 <| .cons p49 .nil
def lp26 (a:Int) (n:Nat) (g:Nat->E6) (m:Nat) (x:Nat->Ev5) (t k:Int) (p:Nat) (r:Nat->Int) (q:Nat) (ln:Nat->Nat) (co:Nat->Nat->Int) (z:Nat) (rg:Nat->Int):Lp:=⟨bmK 84 0 [1,2,4,5,6,7],4,bmK 84 0 [2,4,5,6],4,m+1⟩
def st26 (a:Int) (n:Nat) (g:Nat->E6) (m:Nat) (x:Nat->Ev5) (t k:Int) (p:Nat) (r:Nat->Int) (q:Nat) (ln:Nat->Nat) (co:Nat->Nat->Int) (z:Nat) (rg:Nat->Int) (b c:Nat) (Y:Nat->Tg) (W:Nat->Int) (j:Nat->V):St:=⟨jsV 84 0 j [(1,.sl 1 z λi=>iV (rg i)),(2,.ptr 0 0),(4,.ptr 1 0),(5,.ref 2),(6,.ref 3),(7,nV b)],[.cells [iV a,.sl 6 n λi=>eV (g i),.sl 5 m λi=>evV (x i),iV t,iV k,.sl 1 p λi=>iV (r i),.sl 1 q λi=>.sl 1 (ln i) λj=>iV (co i j)],.cells [iV 0,iV 0,iV 0,iV 0,.str [],iV 0,.nilS],.row 32 3 c (λi=>tgV (Y i)),.row 3 1 c (λi=>iV (W i))]⟩
def en26e (a:Int) (n:Nat) (g:Nat->E6) (m:Nat) (x:Nat->Ev5) (t k:Int) (p:Nat) (r:Nat->Int) (q:Nat) (ln:Nat->Nat) (co:Nat->Nat->Int) (z:Nat) (rg:Nat->Int) (b c:Nat) (Y:Nat->Tg) (W:Nat->Int):Ex×St:=(.ex 0,⟨jsV 84 0 Aa [(2,.ptr 0 0),(4,.ptr 1 0),(5,.ref 2),(6,.ref 3)],[.cells [iV a,.sl 6 n λi=>eV (g i),.sl 5 m λi=>evV (x i),iV t,iV k,.sl 1 p λi=>iV (r i),.sl 1 q λi=>.sl 1 (ln i) λj=>iV (co i j)],.cells [iV 0,iV 0,iV 0,iV 0,.str [],iV 0,.nilS],.row 32 3 c (λi=>tgV (Y i)),.row 3 1 c (λi=>iV (W i))]⟩)
noncomputable def JR (L:LT):St->T (Ex×St):=λst=>A7 tab ⟨Ap F4,L,Gl⟩ (Ar Tryz.f26 0) 0 st
section
variable (L:LT) (a:Int) (n:Nat) (g:Nat->E6) (m:Nat) (x:Nat->Ev5) (t k:Int) (p:Nat) (r:Nat->Int) (q:Nat) (ln:Nat->Nat) (co:Nat->Nat->Int) (z:Nat) (rg:Nat->Int) (b c:Nat) (Y:Nat->Tg) (W:Nat->Int)  (j:Nat->V)
include L a n g m x t k p r q ln co z rg b c Y W j
theorem Aog (h0:ilt (ofNat b) (ofNat m)=false):Ah (JR L) (lp26 a n g m x t k p r q ln co z rg) (st26 a n g m x t k p r q ln co z rg b c Y W j)=some ((.ex 0),⟨jsV 84 0 Aa [(2,.ptr 0 0),(4,.ptr 1 0),(5,.ref 2),(6,.ref 3)],[.cells [iV a,.sl 6 n (λi=>eV (g i)),.sl 5 m (λi=>.agg [iV (x i).th,iV (x i).pl,iV (x i).dir,iV (x i).loc,iV (x i).val]),iV t,iV k,.sl 1 p (λi=>iV (r i)),.sl 1 q (λi=>.sl 1 (ln i) (λj=>iV (co i j)))],.cells [iV 0,iV 0,iV 0,iV 0,.str [],iV 0,.nilS],.row 32 3 c (λi=>.agg [iV (Y i).th,iV (Y i).rg,.str (Y i).lc]),.row 3 1 c (λi=>iV (W i))]⟩):=by
 exact Ab (ks:=[kn h0]) (by kernel_rfl)
theorem Aof (h0:ilt (ofNat b) (ofNat m)=true) (h34:ile 0 (ofNat b)=true) (h1:ieq (x b).dir 1=true) (h35:Al (ile 0 (ofNat b)) (ilt (ofNat b) (ofNat z))=true) (h36:Ba c 1 32=true) (h37:Ba c 1 8=true):Ah (JR L) (lp26 a n g m x t k p r q ln co z rg) (st26 a n g m x t k p r q ln co z rg b c Y W j)=some (.nm,⟨jsV 84 0 Aa [(1,.sl 1 z (λi=>iV (rg i))),(2,.ptr 0 0),(4,.ptr 1 0),(5,.ref 2),(6,.ref 3),(7,iV (wr .i64 (Af (ofNat b) 1)))],[.cells [iV a,.sl 6 n (λi=>eV (g i)),.sl 5 m (λi=>.agg [iV (x i).th,iV (x i).pl,iV (x i).dir,iV (x i).loc,iV (x i).val]),iV t,iV k,.sl 1 p (λi=>iV (r i)),.sl 1 q (λi=>.sl 1 (ln i) (λj=>iV (co i j)))],.cells [iV 0,iV 0,iV 0,iV 0,.str [],iV 0,.nilS],.row 32 3 (AS c 1) (As c (λi=>.agg [iV (Y i).th,iV (Y i).rg,.str (Y i).lc]) (.agg [iV (x b).th,iV (rg b),.str []])),.row 3 1 (AS c 1) (As c (λi=>iV (W i)) (iV (x b).val))]⟩):=by
 exact Ab (ks:=[kn h0,kA (kn h34) (kn h0),kn h1,kA (kn h34) (kn h0),kn h35,kn h36,kA (kn h34) (kn h0),kn h37]) (by kernel_rfl)
theorem Aoe (h0:ilt (ofNat b) (ofNat m)=true) (h34:ile 0 (ofNat b)=true) (h1:ieq (x b).dir 1=false):Ah (JR L) (lp26 a n g m x t k p r q ln co z rg) (st26 a n g m x t k p r q ln co z rg b c Y W j)=some (.nm,⟨jsV 84 0 Aa [(1,.sl 1 z (λi=>iV (rg i))),(2,.ptr 0 0),(4,.ptr 1 0),(5,.ref 2),(6,.ref 3),(7,iV (wr .i64 (Af (ofNat b) 1)))],[.cells [iV a,.sl 6 n (λi=>eV (g i)),.sl 5 m (λi=>.agg [iV (x i).th,iV (x i).pl,iV (x i).dir,iV (x i).loc,iV (x i).val]),iV t,iV k,.sl 1 p (λi=>iV (r i)),.sl 1 q (λi=>.sl 1 (ln i) (λj=>iV (co i j)))],.cells [iV 0,iV 0,iV 0,iV 0,.str [],iV 0,.nilS],.row 32 3 c (λi=>.agg [iV (Y i).th,iV (Y i).rg,.str (Y i).lc]),.row 3 1 c (λi=>iV (W i))]⟩):=by
 exact Ab (ks:=[kn h0,kA (kn h34) (kn h0),kn h1]) (by kernel_rfl)
end
def Ub (a:Int) (n:Nat) (g:Nat->E6) (m:Nat) (x:Nat->Ev5) (t k:Int) (p:Nat) (r:Nat->Int) (q:Nat) (ln:Nat->Nat) (co:Nat->Nat->Int) (z:Nat) (rg:Nat->Int) :St:=⟨jsV 84 0 (λ_=>A9) [(0,.agg [iV a,.sl 6 n (λi=>eV (g i)),.sl 5 m (λi=>.agg [iV (x i).th,iV (x i).pl,iV (x i).dir,iV (x i).loc,iV (x i).val]),iV t,iV k,.sl 1 p (λi=>iV (r i)),.sl 1 q (λu=>.sl 1 (ln u) (λi=>iV (co u i)))]),(1,.sl 1 z (λi=>iV (rg i))),(2,.ptr 0 0),(4,.ptr 1 0),(5,.ref 2),(6,.ref 3),(7,iV 0)],[.cells [iV a,.sl 6 n (λi=>eV (g i)),.sl 5 m (λi=>.agg [iV (x i).th,iV (x i).pl,iV (x i).dir,iV (x i).loc,iV (x i).val]),iV t,iV k,.sl 1 p (λi=>iV (r i)),.sl 1 q (λu=>.sl 1 (ln u) (λi=>iV (co u i)))],.cells [iV 0,iV 0,iV 0,iV 0,.str [],iV 0,.nilS],.row 32 3 0 Aa,.row 3 1 0 Aa]⟩
def KF (a:Int) (n:Nat) (g:Nat->E6) (m:Nat) (x:Nat->Ev5) (t k:Int) (p:Nat) (r:Nat->Int) (q:Nat) (ln:Nat->Nat) (co:Nat->Nat->Int) (z:Nat) (rg:Nat->Int) (b c:Nat) (Y:Nat->Tg) (W:Nat->Int):St:=⟨jsV 84 0 Aa [(2,.ptr 0 0),(4,.ptr 1 0),(5,.ref 2),(6,.ref 3),(8,iV 0)],[.cells [iV a,.sl 6 n (λi=>eV (g i)),.sl 5 m (λi=>.agg [iV (x i).th,iV (x i).pl,iV (x i).dir,iV (x i).loc,iV (x i).val]),iV t,iV k,.sl 1 p (λi=>iV (r i)),.sl 1 q (λi=>.sl 1 (ln i) (λj=>iV (co i j)))],.cells [iV 0,iV 0,iV 0,iV 0,.str [],iV 0,.nilS],.row 32 3 c (λi=>.agg [iV (Y i).th,iV (Y i).rg,.str (Y i).lc]),.row 3 1 c (λi=>iV (W i))]⟩
def VD (a:Int) (n:Nat) (g:Nat->E6) (m:Nat) (x:Nat->Ev5) (t k:Int) (p:Nat) (r:Nat->Int) (q:Nat) (ln:Nat->Nat) (co:Nat->Nat->Int) (z:Nat) (rg:Nat->Int):Lp:=⟨bmK 84 0 [2,4,5,6,8],4,bmK 84 0 [2,4,5,6],4,q+1⟩
def J0 (a:Int) (n:Nat) (g:Nat->E6) (m:Nat) (x:Nat->Ev5) (t k:Int) (p:Nat) (r:Nat->Int) (q:Nat) (ln:Nat->Nat) (co:Nat->Nat->Int) (z:Nat) (rg:Nat->Int) (b c:Nat) (Y:Nat->Tg) (W:Nat->Int) (j:Nat->V):St:=⟨jsV 84 0 j [(2,.ptr 0 0),(4,.ptr 1 0),(5,.ref 2),(6,.ref 3),(8,nV b)],[.cells [iV a,.sl 6 n λi=>eV (g i),.sl 5 m λi=>evV (x i),iV t,iV k,.sl 1 p λi=>iV (r i),.sl 1 q λi=>.sl 1 (ln i) λj=>iV (co i j)],.cells [iV 0,iV 0,iV 0,iV 0,.str [],iV 0,.nilS],.row 32 3 c (λi=>tgV (Y i)),.row 3 1 c (λi=>iV (W i))]⟩
def Gq (a:Int) (n:Nat) (g:Nat->E6) (m:Nat) (x:Nat->Ev5) (t k:Int) (p:Nat) (r:Nat->Int) (q:Nat) (ln:Nat->Nat) (co:Nat->Nat->Int) (z:Nat) (rg:Nat->Int) (b c:Nat) (Y:Nat->Tg) (W:Nat->Int):Ex×St:=(.ex 2,⟨jsV 84 0 Aa [(2,.ptr 0 0),(4,.ptr 1 0),(5,.ref 2),(6,.ref 3)],[.cells [iV a,.sl 6 n λi=>eV (g i),.sl 5 m λi=>evV (x i),iV t,iV k,.sl 1 p λi=>iV (r i),.sl 1 q λi=>.sl 1 (ln i) λj=>iV (co i j)],.cells [iV 0,iV 0,iV 0,iV 0,.str [],iV 0,.nilS],.row 32 3 c (λi=>tgV (Y i)),.row 3 1 c (λi=>iV (W i))]⟩)
noncomputable def FO (L:LT):St->T (Ex×St):=λst=>A7 tab ⟨Ap F4,L,Gl⟩ (Ar Tryz.f26 2) 2 st
section
variable (L:LT) (a:Int) (n:Nat) (g:Nat->E6) (m:Nat) (x:Nat->Ev5) (t k:Int) (p:Nat) (r:Nat->Int) (q:Nat) (ln:Nat->Nat) (co:Nat->Nat->Int) (z:Nat) (rg:Nat->Int) (b c:Nat) (Y:Nat->Tg) (W:Nat->Int)  (j:Nat->V)
include L a n g m x t k p r q ln co z rg b c Y W j
theorem AiH (h0:ilt (ofNat b) (ofNat q)=false):Ah (FO L) (VD a n g m x t k p r q ln co z rg) (J0 a n g m x t k p r q ln co z rg b c Y W j)=some ((.ex 2),⟨jsV 84 0 Aa [(2,.ptr 0 0),(4,.ptr 1 0),(5,.ref 2),(6,.ref 3)],[.cells [iV a,.sl 6 n (λi=>eV (g i)),.sl 5 m (λi=>.agg [iV (x i).th,iV (x i).pl,iV (x i).dir,iV (x i).loc,iV (x i).val]),iV t,iV k,.sl 1 p (λi=>iV (r i)),.sl 1 q (λi=>.sl 1 (ln i) (λj=>iV (co i j)))],.cells [iV 0,iV 0,iV 0,iV 0,.str [],iV 0,.nilS],.row 32 3 c (λi=>.agg [iV (Y i).th,iV (Y i).rg,.str (Y i).lc]),.row 3 1 c (λi=>iV (W i))]⟩):=by
 exact Ab (ks:=[kn h0]) (by kernel_rfl)
theorem AiG (h0:ilt (ofNat b) (ofNat q)=true) (h34:ile 0 (ofNat b)=true) (h1:ieq (ofNat (ln b)) 2=true) (h35:Ba c 1 32=true) (h36:Ba c 1 8=true):Ah (FO L) (VD a n g m x t k p r q ln co z rg) (J0 a n g m x t k p r q ln co z rg b c Y W j)=some (.nm,⟨jsV 84 0 Aa [(2,.ptr 0 0),(4,.ptr 1 0),(5,.ref 2),(6,.ref 3),(8,iV (wr .i64 (Af (ofNat b) 1)))],[.cells [iV a,.sl 6 n (λi=>eV (g i)),.sl 5 m (λi=>.agg [iV (x i).th,iV (x i).pl,iV (x i).dir,iV (x i).loc,iV (x i).val]),iV t,iV k,.sl 1 p (λi=>iV (r i)),.sl 1 q (λi=>.sl 1 (ln i) (λj=>iV (co i j)))],.cells [iV 0,iV 0,iV 0,iV 0,.str [],iV 0,.nilS],.row 32 3 (AS c 1) (As c (λi=>.agg [iV (Y i).th,iV (Y i).rg,.str (Y i).lc]) (.agg [iV (-1),iV 0,.str (B1 (ofNat b))])),.row 3 1 (AS c 1) (As c (λi=>iV (W i)) (iV 2))]⟩):=by
 exact Ab (ks:=[kn h0,kA (kn h34) (kn h0),kn h1,kn h35,kn h36]) (by kernel_rfl)
theorem AiF (h0:ilt (ofNat b) (ofNat q)=true) (h34:ile 0 (ofNat b)=true) (h1:ieq (ofNat (ln b)) 2=false):Ah (FO L) (VD a n g m x t k p r q ln co z rg) (J0 a n g m x t k p r q ln co z rg b c Y W j)=some (.nm,⟨jsV 84 0 Aa [(2,.ptr 0 0),(4,.ptr 1 0),(5,.ref 2),(6,.ref 3),(8,iV (wr .i64 (Af (ofNat b) 1)))],[.cells [iV a,.sl 6 n (λi=>eV (g i)),.sl 5 m (λi=>.agg [iV (x i).th,iV (x i).pl,iV (x i).dir,iV (x i).loc,iV (x i).val]),iV t,iV k,.sl 1 p (λi=>iV (r i)),.sl 1 q (λi=>.sl 1 (ln i) (λj=>iV (co i j)))],.cells [iV 0,iV 0,iV 0,iV 0,.str [],iV 0,.nilS],.row 32 3 c (λi=>.agg [iV (Y i).th,iV (Y i).rg,.str (Y i).lc]),.row 3 1 c (λi=>iV (W i))]⟩):=by
 exact Ab (ks:=[kn h0,kA (kn h34) (kn h0),kn h1]) (by kernel_rfl)
end
theorem AnD (L:LT) (p0:PT) (p2:PT) (a:Int) (n:Nat) (g:Nat->E6) (m:Nat) (x:Nat->Ev5) (t k:Int) (p:Nat) (r:Nat->Int) (q:Nat) (ln:Nat->Nat) (co:Nat->Nat->Int) (z:Nat) (rg:Nat->Int) (b c:Nat) (Y:Nat->Tg) (W:Nat->Int) (b2 c2:Nat) (Y2:Nat->Tg) (W2:Nat->Int) (h32:Ij c2=true) (h33:tgA c2 Y2=true) (h34:Aba c2 W2=true) (h35:BC [.row 35 6 (I5 c2) (λi=>.agg [iV 2,iV (Y2 i).th,iV (Y2 i).rg,.str (Y2 i).lc,iV (W2 i),.nilS])]=true) (hp0:p0 (JR (onP 0 p0 (en26e a n g m x t k p r q ln co z rg b c Y W) (onP 2 p2 (Gq a n g m x t k p r q ln co z rg b2 c2 Y2 W2) L))) (Ub a n g m x t k p r q ln co z rg)=true) (hp2:p2 (FO (onP 0 p0 (en26e a n g m x t k p r q ln co z rg b c Y W) (onP 2 p2 (Gq a n g m x t k p r q ln co z rg b2 c2 Y2 W2) L))) (KF a n g m x t k p r q ln co z rg b c Y W)=true):(Az (Ak tab ⟨Ap F4,onP 0 p0 (en26e a n g m x t k p r q ln co z rg b c Y W) (onP 2 p2 (Gq a n g m x t k p r q ln co z rg b2 c2 Y2 W2) L),Gl⟩ Tryz.f26 [.agg [iV a,.sl 6 n λi=>eV (g i),.sl 5 m λi=>evV (x i),iV t,iV k,.sl 1 p λi=>iV (r i),.sl 1 q λu=>.sl 1 (ln u) λi=>iV (co u i)],.sl 1 z λi=>iV (rg i)] [])).sem=some ((.agg [iV 1,iV (Pg c2),iV (Dz c2 Y2).th,iV (Dz c2 Y2).rg,.str (Dz c2 Y2).lc,iV (Ph c2 W2),.ref 0]),[.row 35 6 (I5 c2) (λi=>.agg [iV 2,iV (Y2 i).th,iV (Y2 i).rg,.str (Y2 i).lc,iV (W2 i),.nilS])]):=by
 exact Ab (ks:=[kn hp0,kn hp2,kL c2,kL c2,kJ c2,kn h32,kn h33,kn h34,kn h35]) (by kernel_rfl)
def coL (l:List (Tg×Int)) (ln:Nat->Nat):Nat->List (Tg×Int)
 | 0=>l
 | b+1=>bif ieq (ofNat (ln b)) 2 then coL l ln b++[(⟨-1,0,B1 (ofNat b)⟩,2)] else coL l ln b
theorem AcE (l:List (Tg×Int)) (ln:Nat->Nat):∀ b,(coL l ln b).length <= l.length+b
 | 0=>Nat.le_refl _
 | b+1=>by
  have:=AcE l ln b;rw [coL];cases ieq (ofNat (ln b)) 2 with
  | true=>show (_++[_]).length <= _; rw [List.length_append]; simp only [List.length_cons,List.length_nil]; omega
  | false=>show (coL l ln b).length <= _; omega
theorem LJ (l:List (Tg×Int)) (ln:Nat->Nat) {s1 s2:Nat->Nat}:∀ b,(∀ i,i<b->s1 i=s2 i)->loL l ln s1 b=loL l ln s2 b
 | 0,_=>rfl
 | b+1,h=>by rw [loL,loL,LJ l ln b λi hi=>h i (by omega),h b (by omega)]
theorem AcF (l:List (Tg×Int)) (ln:Nat->Nat):∀ q,coL l ln q=loL l ln (Jl q ln) (GG q ln)
 | 0=>rfl
 | q+1=>by
  rw [coL,AcF l ln q];have hA:GG (q+1) ln=GG q ln+(bif ieq (ofNat (ln q)) 2 then 1 else 0):=by show An _ (q+1)=_; rw [An]; cases ieq (ofNat (ln q)) 2 <;> rfl
  have hS:∀ i,i<GG q ln->Jl (q+1) ln i=Jl q ln i:=λi hi=>by
   obtain ⟨h1,h2,h3⟩:=Fx (P:=λk=>ieq (ofNat (ln k)) 2) hi;have h4:=MW (P:=λk=>ieq (ofNat (ln k)) 2) (n:=q+1) (by omega) h2;rw [h3] at h4;exact h4
  cases hc:ieq (ofNat (ln q)) 2 with
  | true =>
   rw [hA,hc];show _=loL l ln (Jl (q+1) ln) (GG q ln+1);have hq:Jl (q+1) ln (GG q ln)=q:=MW (P:=λk=>ieq (ofNat (ln k)) 2) (Nat.lt_succ_self q) hc;have hl:(ofNat (ln q))=2:=by simpa [ieq] using hc
   rw [loL,LJ l ln _ hS,hq,hl];rfl
  | false =>rw [hA,hc];show _=loL l ln (Jl (q+1) ln) (GG q ln);rw [LJ l ln _ hS];rfl
section
variable (a:Int) (n:Nat) (g:Nat->E6) (m:Nat) (x:Nat->Ev5) (t k:Int) (p:Nat) (r:Nat->Int) (q:Nat) (ln:Nat->Nat) (co:Nat->Nat->Int) (z:Nat) (rg:Nat->Int)
theorem AfU (M:LT) (hm:m <= 1023) (hz:m <= z):∀ (d i:Nat) (j:Nat->V),m=i+d ->
  LRun ⟨Ap F4,Gl⟩ (JR M) (st26 a n g m x t k p r q ln co z rg i (evL x rg i).length (gT (evL x rg i)) (gW (evL x rg i)) j) (en26e a n g m x t k p r q ln co z rg m (evL x rg m).length (gT (evL x rg m)) (gW (evL x rg m)))
 | 0,i,j,h=>by
  have:m=i:=by omega
  subst this;exact LRun.exit (Aog M a n g m x t k p r q ln co z rg m _ _ _ j (A1 (Nat.le_refl _))) (by simp)
 | d+1,i,j,h=>by
  have hi:i<m:=by omega
  have hl:=OG x rg i;have ih:=AfU M hm hz d (i+1) Aa (by omega);rw [evL] at ih;cases hc:ieq (x i).dir 1 with
  | true =>rw [hc] at ih;have h1:=Aof M a n g m x t k p r q ln co z rg i (evL x rg i).length (gT (evL x rg i)) (gW (evL x rg i)) j (ofNat_lt hi) (AF i) hc (Ao (by omega)) (decide_eq_true (by omega)) (decide_eq_true (by omega));rw [Aq hi (by omega)] at h1;refine LRun.round h1 (LE.refl _) ?_;have e1:=Ro (evL x rg i) (⟨(x i).th,rg i,[]⟩,(x i).val);have e2:=Rn (evL x rg i) (⟨(x i).th,rg i,[]⟩,(x i).val);have e3:(evL x rg i++[((⟨(x i).th,rg i,[]⟩,(x i).val):Tg×Int)]).length=AS (evL x rg i).length 1:=List.length_append;have ih:LRun ⟨Ap F4,Gl⟩ (JR M) (st26 a n g m x t k p r q ln co z rg (i+1) (evL x rg i++[((⟨(x i).th,rg i,[]⟩,(x i).val):Tg×Int)]).length (gT (evL x rg i++[((⟨(x i).th,rg i,[]⟩,(x i).val):Tg×Int)])) (gW (evL x rg i++[((⟨(x i).th,rg i,[]⟩,(x i).val):Tg×Int)])) Aa) _:=ih;rw [e3] at ih;unfold st26 at ih;rw [<- e1,<- e2] at ih;exact ih
  | false =>rw [hc] at ih;have h1:=Aoe M a n g m x t k p r q ln co z rg i (evL x rg i).length (gT (evL x rg i)) (gW (evL x rg i)) j (ofNat_lt hi) (AF i) hc;rw [Aq hi (by omega)] at h1;exact LRun.round h1 (LE.refl _) ih
theorem WM (M:LT) (l:List (Tg×Int)) (hl:l.length <= 1023) (hq:q <= 1023):∀ (d i:Nat) (j:Nat->V),q=i+d ->
  LRun ⟨Ap F4,Gl⟩ (FO M) (J0 a n g m x t k p r q ln co z rg i (coL l ln i).length (gT (coL l ln i)) (gW (coL l ln i)) j) (Gq a n g m x t k p r q ln co z rg q (coL l ln q).length (gT (coL l ln q)) (gW (coL l ln q)))
 | 0,i,j,h=>by
  have:q=i:=by omega
  subst this;exact LRun.exit (AiH M a n g m x t k p r q ln co z rg q _ _ _ j (A1 (Nat.le_refl _))) (by simp)
 | d+1,i,j,h=>by
  have hi:i<q:=by omega
  have hll:=AcE l ln i;have ih:=WM M l hl hq d (i+1) Aa (by omega);rw [coL] at ih;cases hc:ieq (ofNat (ln i)) 2 with
  | true =>rw [hc] at ih;have h1:=AiG M a n g m x t k p r q ln co z rg i (coL l ln i).length (gT (coL l ln i)) (gW (coL l ln i)) j (ofNat_lt hi) (AF i) hc (decide_eq_true (by omega)) (decide_eq_true (by omega));rw [Aq hi (by omega)] at h1;refine LRun.round h1 (LE.refl _) ?_;have e1:=Ro (coL l ln i) (⟨-1,0,B1 (ofNat i)⟩,2);have e2:=Rn (coL l ln i) (⟨-1,0,B1 (ofNat i)⟩,2);have e3:(coL l ln i++[((⟨-1,0,B1 (ofNat i)⟩,2):Tg×Int)]).length=AS (coL l ln i).length 1:=List.length_append;have ih:LRun ⟨Ap F4,Gl⟩ (FO M) (J0 a n g m x t k p r q ln co z rg (i+1) (coL l ln i++[((⟨-1,0,B1 (ofNat i)⟩,2):Tg×Int)]).length (gT (coL l ln i++[((⟨-1,0,B1 (ofNat i)⟩,2):Tg×Int)])) (gW (coL l ln i++[((⟨-1,0,B1 (ofNat i)⟩,2):Tg×Int)])) Aa) _:=ih;rw [e3] at ih;unfold J0 at ih;rw [<- e1,<- e2] at ih;exact ih
  | false =>rw [hc] at ih;have h1:=AiF M a n g m x t k p r q ln co z rg i (coL l ln i).length (gT (coL l ln i)) (gW (coL l ln i)) j (ofNat_lt hi) (AF i) hc;rw [Aq hi (by omega)] at h1;exact LRun.round h1 (LE.refl _) ih
theorem Acf:CE (Ub a n g m x t k p r q ln co z rg) [(2,tgV ⟨0,0,[]⟩),(3,iV 0)]=st26 a n g m x t k p r q ln co z rg 0 0 (gT []) (gW []) (λi=>nth (Ub a n g m x t k p r q ln co z rg).t i):=by kernel_rfl
theorem Wb (b c:Nat) (Y:Nat->Tg) (W:Nat->Int):KF a n g m x t k p r q ln co z rg b c Y W=J0 a n g m x t k p r q ln co z rg 0 c Y W (λi=>nth (KF a n g m x t k p r q ln co z rg b c Y W).t i):=by kernel_rfl
end
def Mb (s:Sh7) (z:Nat) (rg:Nat->Int):Bool :=
 Nat.ble s.nx 1023 && (Nat.ble s.nx z && (Nat.ble s.nc 1023 &&
  (Ij (askL s.nx s.X rg s.nc λi=>(s.C i).1).length && (tgA (askL s.nx s.X rg s.nc λi=>(s.C i).1).length (gT (askL s.nx s.X rg s.nc λi=>(s.C i).1)) && Aba (askL s.nx s.X rg s.nc λi=>(s.C i).1).length (gW (askL s.nx s.X rg s.nc λi=>(s.C i).1))))))
def Ac7:List V->AR
 | [v,w]=>apS v λs=>apG ML w λz rg=>.br (Mb s z rg) (.leaf (Anf (askL s.nx s.X rg s.nc λi=>(s.C i).1),[.row 35 6 (I5 (askL s.nx s.X rg s.nc λi=>(s.C i).1).length) (BE (gT (askL s.nx s.X rg s.nc λi=>(s.C i).1)) (gW (askL s.nx s.X rg s.nc λi=>(s.C i).1)))])) .fail
 | _=>.fail
theorem Aoz:Ax Tryz.prog Gl 26 Ac7:=by
 refine Am A8 mixed Tryz.func26 (by kernel_rfl) (by kernel_rfl) λvs v h' h=>?_;unfold Ac7 at h;split at h
 ·rename_i v1 w1
  obtain ⟨s,a1,h⟩:=apS_some h;obtain ⟨z,rg,a2,h⟩:=Bs h;obtain ⟨hw,h⟩:=Ad h;have:=Ac h;simp only [Prod.mk.injEq] at this;obtain ⟨rfl,rfl⟩:=this;obtain ⟨a,n,g,m,x,t,k,p,r,q,C⟩:=s;obtain ⟨ln,co,hC⟩:∃ (ln:Nat->Nat) (co:Nat->Nat->Int),C=λu=>(ln u,co u):=⟨λu=>(C u).1,λu=>(C u).2,rfl⟩;subst hC;simp only [Mb,Bool.and_eq_true] at hw;obtain ⟨k5,k6,k7,k8,k9,k10⟩:=hw;have k5:m <= 1023:=Nat.le_of_ble_eq_true k5;have k6:m <= z:=Nat.le_of_ble_eq_true k6;have k7:q <= 1023:=Nat.le_of_ble_eq_true k7;have hA:Bf [v1,w1] [.agg [iV a,.sl 6 n (λi=>eV (g i)),.sl 5 m (λi=>evV (x i)),iV t,iV k,.sl 1 p (λi=>iV (r i)),.sl 1 q (λu=>.sl 1 (ln u) (λi=>iV (co u i)))],.sl 1 z λi=>iV (rg i)]:=λS w cs hv=>by
   obtain ⟨c,l,rfl,q1,d,l',rfl,q2,q3⟩:=hv;exact ⟨c,_,rfl,a1 S w c q1,d,_,rfl,a2 S w d q2,q3⟩
  have hx:=(AI ZT []).1;have he:=AcF (evL x rg m) ln q;have i0:∀ M,LRun ⟨Ap F4,Gl⟩ (JR M) (Ub a n g m x t k p r q ln co z rg) (en26e a n g m x t k p r q ln co z rg m (evL x rg m).length (gT (evL x rg m)) (gW (evL x rg m))):=λM=>by
   refine LRun.weak (st1:=CE (Ub a n g m x t k p r q ln co z rg) [(2,tgV ⟨0,0,[]⟩),(3,iV 0)]) (Nx _ _) ?_;rw [Acf];exact AfU a n g m x t k p r q ln co z rg M k5 k6 m 0 _ (by omega)
  have hml:=OG x rg m;have i2:∀ M,LRun ⟨Ap F4,Gl⟩ (FO M) (KF a n g m x t k p r q ln co z rg m (evL x rg m).length (gT (evL x rg m)) (gW (evL x rg m))) (Gq a n g m x t k p r q ln co z rg q (askL m x rg q ln).length (gT (askL m x rg q ln)) (gW (askL m x rg q ln))):=λM=>by
   rw [Wb];have:=WM a n g m x t k p r q ln co z rg M (evL x rg m) (by omega) k7 q 0 (λi=>nth (KF a n g m x t k p r q ln co z rg m (evL x rg m).length (gT (evL x rg m)) (gW (evL x rg m))).t i) (by omega);rw [he] at this;exact this
  have hw:=AnD noL (isR ⟨Ap F4,Gl⟩ (en26e a n g m x t k p r q ln co z rg m (evL x rg m).length (gT (evL x rg m)) (gW (evL x rg m)))) (isR ⟨Ap F4,Gl⟩ (Gq a n g m x t k p r q ln co z rg q (askL m x rg q ln).length (gT (askL m x rg q ln)) (gW (askL m x rg q ln)))) a n g m x t k p r q ln co z rg m (evL x rg m).length (gT (evL x rg m)) (gW (evL x rg m)) q (askL m x rg q ln).length (gT (askL m x rg q ln)) (gW (askL m x rg q ln)) k8 k9 k10 (Pc _ _ _) (DZ (i0 _)) (DZ (i2 _));exact ⟨_,⟨Ap F4,onP 0 (isR ⟨Ap F4,Gl⟩ (en26e a n g m x t k p r q ln co z rg m (evL x rg m).length (gT (evL x rg m)) (gW (evL x rg m)))) (en26e a n g m x t k p r q ln co z rg m (evL x rg m).length (gT (evL x rg m)) (gW (evL x rg m))) (onP 2 (isR ⟨Ap F4,Gl⟩ (Gq a n g m x t k p r q ln co z rg q (askL m x rg q ln).length (gT (askL m x rg q ln)) (gW (askL m x rg q ln)))) (Gq a n g m x t k p r q ln co z rg q (askL m x rg q ln).length (gT (askL m x rg q ln)) (gW (askL m x rg q ln))) noL),Gl⟩,_,hA,rfl,hx,Hp (Hp G2),hw,Aw.refl _⟩
 ·cases h
end Go.Proofs.YtkgdhhieomndeaaGreatDoor.Em
namespace Go.Proofs.YtkgdhhieomndeaaGreatDoor.Em
open Go.Sy Go Go.Proofs.YtkgdhhieomndeaaGreatDoor.Ed Go.Proofs.YtkgdhhieomndeaaGreatDoor.Sh
set_option maxRecDepth 100000
set_option maxHeartbeats 1000000
noncomputable def tb7:AP:=[(21,codeT),(22,Yi),(23,AaD),(24,Ajz),(25,Ajp),(26,Ac7)]
theorem tb7_ok:Av Tryz.prog Gl tb7:=.cons p44 <| .cons p8 <| .cons Aow <| .cons p24 <| .cons p25 <| .cons Aoz .nil
theorem eS {α β:Type} {L:β->α} {C:T β} {d:DT α} (s:Sh7) (w:DK L C d):DK L C (.kn (AB s.ne λ_=>true) true (.kn (AB s.nx λ_=>true) true (.kn (AB s.nr λ_=>true) true (.kn (AB s.nc λi=>AB (s.C i).1 λ_=>true) true d)))) :=
 .k (eL _) <| .k (eL _) <| .k (eL _) <| .k (CG () ()) w
def AfH:V->List V
 | .agg (_::l)=>l
 | _=>[]
def Ym (s:Sh7):Bool:=Co s.ne s.E && (ieq s.kk (Int.ofNat (toN s.kk)) && (Ij (toN s.kk) && Mb s s.nx (wsS s).y))
def ZK:List V->AR
 | [v,.str nm]=>apS v λs=>.br (BF s.ne) (.br (BM s) (.br (ieq (rtS s) 0) (.br (wrB s) (.br (Kc nm) (.br (Ym s) (.leaf (.tup [P6 s nm,iV 0],S7 s)) .fail) (.leaf (.tup [Ob,iV 130],Kr))) .fail) (.leaf (.tup [Ob,iV (rtS s)],Kr))) .fail) .fail
 | _=>.fail
section
variable {s:Sh7} (h:Ym s=true)
include h
theorem t7:Co s.ne s.E=true∧ieq s.kk (Int.ofNat (toN s.kk))=true∧Ij (toN s.kk)=true∧Mb s s.nx (wsS s).y=true:=by simpa only [Ym,Bool.and_eq_true] using h
theorem m7:Co s.ne s.E=true:=(t7 h).1
theorem k7:ieq s.kk (Int.ofNat (toN s.kk))=true:=(t7 h).2.1
theorem l7:Ij (toN s.kk)=true:=(t7 h).2.2.1
theorem c7:Mb s s.nx (wsS s).y=true:=(t7 h).2.2.2
end
theorem L9 {s:Sh7} (h:ieq (rtS s) 0=true):Cp s=true:=by
 have h:ieq (bif ieq (sel (Cp s) 0 70) 0 then (bif ieq s.arch 1 then 0 else 5) else 70) 0=true:=h;cases hc:Cp s with
 | true=>rfl
 | false=>rw [hc] at h; cases h
theorem AkS {s:Sh7} (h:ieq (rtS s) 0=true):s.arch=1:=by
 have hc:=L9 h;have h:ieq (bif ieq (sel (Cp s) 0 70) 0 then (bif ieq s.arch 1 then 0 else 5) else 70) 0=true:=h;rw [hc] at h;cases ha:ieq s.arch 1 with
 | false=>rw [ha] at h; cases h
 | true=>simpa [ieq] using ha
theorem e7 {s:Sh7} (h:ieq (rtS s) 0=true) (nm:List UInt8):((V.tup [.agg (iV 1::AfH (P6 s nm)),iV 0],S7 s):V×List Blk)=(V.tup [P6 s nm,iV 0],S7 s):=by
 unfold P6 AfH;rw [AkS h]
theorem p7t:Ax Tryz.prog Gl 7 ZK:=by
 refine Am A8 mixed Tryz.func7 (by kernel_rfl) (by kernel_rfl) λvs v h' h=>?_;unfold ZK at h;split at h
 ·rename_i v1 nm
  obtain ⟨s,a1,h⟩:=apS_some h;have hx:=AI tb7_ok [] (G:=Gl);exact ⟨_,AC Gl tb7 [],_,Anc a1,rfl,hx.1,hx.2,DK.of h (.g λhf=>.g λhs=>eS s <| .k hf <| .k hs <| .c (λhr=>.g λhw=>.k hr <| .k hw <| .k (eN (eI 0)) <| .c (λht=>.g λh7=>.k (eN ht)<|eS s <| .k hf <| .k hs <| .k hr <| .k hw<|eS s <| .k hf <| .k (m7 h7) <| .k (CT nm)<|eS s <| .k hf <| .k (m7 h7)<|eS s <| .k hf <| .k (m7 h7) <| .k (CT nm)<|eS s <| .k (k7 h7) <| .k (l7 h7)<|eS s <| .k (k7 h7) <| .k (l7 h7) <| .k (CT nm) <| .k (eG [toN s.tt])<|eS s <| .k (eL s.nx) <| .k (c7 h7) <| .k (eR [(I5 (DR s.nx s.X (wsS s).y s.nc (λu=>(s.C u).1)),none)]) <| .k (CT nm) <| .e (e7 hr nm)) λht=>.k (eN ht) <| .l) λhr=>.k hr <| .k (eN hr) <| .l) (by kernel_rfl),Aw.refl _⟩
 ·cases h
end Go.Proofs.YtkgdhhieomndeaaGreatDoor.Em
namespace Go.Proofs.YtkgdhhieomndeaaGreatDoor.Em
open Go.Sy Go Go.Proofs.YtkgdhhieomndeaaGreatDoor.Ed Go.Proofs.YtkgdhhieomndeaaGreatDoor.Sh
open Int (ofNat)
set_option maxRecDepth 100000
set_option maxHeartbeats 1000000
theorem AdP {s:Sh7} (h:ieq (rtS s) 0=true):s.kk=ofNat (kkN s.ne (shG s.ne s.E))∧s.nc=kkN s.ne (shG s.ne s.E)∧∀ k,k<s.nc->(s.C k).1=lnN (mbF (shG s.ne s.E)) (wrF (shG s.ne s.E)) s.ne k:=by
 have h3:=L9 h;unfold Cp at h3;obtain ⟨c1,c2⟩:=AO h3;unfold FZ at c2;obtain ⟨_,c2⟩:=AO c2;obtain ⟨_,c2⟩:=AO c2;obtain ⟨c3,c2⟩:=AO c2;obtain ⟨_,c2⟩:=AO c2;obtain ⟨_,c2⟩:=AO c2;obtain ⟨_,c2⟩:=AO c2;obtain ⟨c4,_⟩:=AO c2;unfold DJ at c4;obtain ⟨c4,c5⟩:=AO c4;refine ⟨BN c3,Int.ofNat.inj (BN c4),λk hk=>?_⟩;have:=A0.1 c5 k hk;unfold CJ at this;exact Int.ofNat.inj (BN (AO this).1)
theorem ok7 {s:Sh7} (h:ieq (rtS s) 0=true) (hs:BM s=true):Yn s=true∧Ym s=true∧wrB s=true∧(∀ u,(wsS s).lw u<40)∧(axS s).length <= 1023∧toN s.tt <= 16∧toN s.kk <= 16:=by
 have hck:=L9 h;obtain ⟨e1,e2,e3⟩:=AdP h;have H:IsSh s:=Km s.arch s.ne s.E s.nx s.X s.tt s.kk s.nr s.R s.nc (λu=>(s.C u).1) (λu=>(s.C u).2) h;obtain ⟨a,n,g,m,x,t,k,p,r,q,C⟩:=s;obtain ⟨ha,hy,hm,ht,hE,hX⟩:=H
 replace ha:a=1:=ha
 replace hm:m=n:=hm
 replace e1:k=ofNat (kkN n (shG n g)):=e1
 replace e2:q=kkN n (shG n g):=e2
 replace ht:t=ofNat (ttN n (shG n g)):=ht
 replace e3:∀ k,k<q->(C k).1=lnN (mbF (shG n g)) (wrF (shG n g)) n k:=e3
 replace hX:∀ i,i<n->x i=evF n (shG n g) (λ_=>true) i:=hX
 replace hE:∀ i,i<n->g i=shG n g i:=hE
 replace hy:IsCycle a n g:=hy
 subst ha;subst hm;subst e1;subst e2;subst ht;have hhi:=hy.hi;have hG:=Fu hy;have htt:ttN m (shG m g) <= m:=Be _ _;have hkk:kkN m (shG m g) <= m:=Be _ _;have hev:∀ i,i<m->x i=⟨thF m (shG m g) i,ofNat (plF m (shG m g) i),(shG m g i).src,loF m (shG m g) i,ofNat (QJ (mbF (shG m g)) (wrF (shG m g)) m i)⟩:=λi hi=>(hX i hi).trans (Cg hi);have hth:∀ i,i<m->(x i).th=ofNat (AX (obF (shG m g)) m i):=λi hi=>by
  rw [hev i hi];exact Sh.Fn hi
 have hpl:∀ i,i<m->AX (obF (shG m g)) m i<ttN m (shG m g)∧AX (obF (shG m g)) m i <= i:=λi hi=>part_lt (by have:=hG.outer; exact Nat.lt_of_lt_of_le (by decide) this) hi
 let s:Sh7:=⟨1,m,g,m,x,ofNat (ttN m (shG m g)),ofNat (kkN m (shG m g)),p,r,kkN m (shG m g),C⟩
 obtain ⟨_,w2,w3⟩:=AfC (feF g m) x m hhi;have hw:wrB s=true:=by
  unfold wrB;refine (Bq (Nat.ble_eq_true_of_le hhi)).trans<|(Bq (Nat.ble_eq_true_of_le (show toN (ofNat (ttN m (shG m g))) <= 16 from Nat.le_trans htt hhi))).trans<|(Bq (Bm _)).trans<|(Bq (A0.2 λb hb=>?_)).trans (A0.2 λb hb=>?_)
  ·show Al (ile 0 (x b).th) (ilt (x b).th (ofNat (ttN m (shG m g))))=true
   rw [hth b hb];exact Ao (hpl b hb).1
  ·exact decide_eq_true (Nat.mod_lt _ (by have:b<m:=hb; omega))
 have hA:∀ p,p ∈ axS s->W6 p:=Abx (VV (λi hi hr=>?_) m (Nat.le_refl _)) (λi hi=>?_) _ (Nat.le_refl _)
 rotate_left
 ·have hi:i<m:=hi
  have hd:ieq (x i).dir 2=false:=by
   have:=BN (show ieq (x i).dir 1=true from hr);rw [this];rfl
  have hy:=w3 i hi hd;obtain ⟨p1,p2⟩:=hpl i hi;refine ⟨?_,?_⟩
  ·show tgB (x i).th ((wsF (feF g m) x m).y i) []=true
   rw [hth i hi];unfold tgB;rw [show ieq (ofNat (AX (obF (shG m g)) m i)) (-1)=false from rfl];simp only [cond_false,Bool.and_eq_true];refine ⟨decide_eq_true (by simp only [Int.ofNat_eq_natCast]; omega),decide_eq_true (by simp only [Int.ofNat_eq_natCast]; omega),decide_eq_true hy.1,decide_eq_true hy.2,rfl⟩
  ·show GP (x i).val=true
   rw [hev i hi];have:=Ahm (mbF (shG m g)) (wrF (shG m g)) m i;unfold GP;rw [show ile (-2147483648) (ofNat (QJ (mbF (shG m g)) (wrF (shG m g)) m i))=true from decide_eq_true (by simp only [Int.ofNat_eq_natCast]; omega)];exact decide_eq_true (by simp only [Int.ofNat_eq_natCast]; omega)
 ·have h1:=(Fx (P:=λk=>ieq (ofNat (C k).1) 2) (show i<An _ (kkN m (shG m g)) from hi)).1
  have h2:=ln_le (mbF (shG m g)) (wrF (shG m g)) m (Jl (kkN m (shG m g)) (λk=>(C k).1) i);refine ⟨Nat.lt_of_lt_of_le h1 (Nat.le_trans hkk hhi),?_⟩;show (C (Jl (kkN m (shG m g)) (λk=>(C k).1) i)).1 <= 1000;rw [e3 _ (show Jl (kkN m (shG m g)) (λk=>(C k).1) i<_ from h1)];exact Nat.le_trans h2 (by omega)
 obtain ⟨a1,a2⟩:=Afq hA;have hlen:(axS s).length <= 1023:=by
  have h1:=OG x (wsS s).y m;have h2:(axS s).length=_:=Nb (evL x (wsS s).y m) (λk=>(C k).1) (Jl (kkN m (shG m g)) λk=>(C k).1) (GG (kkN m (shG m g)) λk=>(C k).1);have h3:GG (kkN m (shG m g)) (λk=>(C k).1) <= kkN m (shG m g):=Be _ _;omega
 refine ⟨?_,?_,hw,λu=>Nat.lt_of_le_of_lt (w2 u) (by omega),hlen,Nat.le_trans htt hhi,Nat.le_trans hkk hhi⟩
 ·unfold Yn Uw
  simp only [Bool.and_eq_true];exact ⟨Bm _,Nat.ble_eq_true_of_le (show kkN m (shG m g) <= 1023 by omega),hw,hy.may,decide_eq_true (show m * 40 <= _ by omega),decide_eq_true (show kkN m (shG m g) * 8 <= _ by omega),hs,hck,Nat.ble_eq_true_of_le (show m <= 1023 by omega),Nat.ble_eq_true_of_le (Nat.le_refl m),Nat.ble_eq_true_of_le (show kkN m (shG m g) <= 1023 by omega),Nat.ble_eq_true_of_le hlen,a1,a2⟩
 ·unfold Ym Mb
  simp only [Bool.and_eq_true];exact ⟨hy.may,Bm _,Nat.ble_eq_true_of_le (show kkN m (shG m g) <= 1023 by omega),Nat.ble_eq_true_of_le (show m <= 1023 by omega),Nat.ble_eq_true_of_le (Nat.le_refl m),Nat.ble_eq_true_of_le (show kkN m (shG m g) <= 1023 by omega),Nat.ble_eq_true_of_le hlen,a1,a2⟩
end Go.Proofs.YtkgdhhieomndeaaGreatDoor.Em
namespace Go.Proofs.YtkgdhhieomndeaaGreatDoor.Em
open Go.Sy Go Go.Proofs.YtkgdhhieomndeaaGreatDoor.Ed Go.Proofs.YtkgdhhieomndeaaGreatDoor.Sh
set_option maxRecDepth 100000
set_option maxHeartbeats 1000000
def cyS (s:Sh7):List UInt8:=CY s.ne λi=>AV s.ne s.E i
def k1S (s:Sh7):Int:=Pg (axS s).length
def k2S (s:Sh7):Int:=(Dz (axS s).length (gT (axS s))).th
def k3S (s:Sh7):Int:=(Dz (axS s).length (gT (axS s))).rg
def k4S (s:Sh7):List UInt8:=(Dz (axS s).length (gT (axS s))).lc
def k5S (s:Sh7):Int:=Ph (axS s).length (gW (axS s))
def knS (s:Sh7):Nat:=I5 (axS s).length
def kXS (s:Sh7):Nat->Tg:=gT (axS s)
def kfS (s:Sh7):Nat->Int:=gW (axS s)
def AoH (i:Nat):In5:=⟨-1,0,B1 (Int.ofNat i),[],0⟩
def AiR:Te:=⟨0,[],[],0,λ_=>⟨0,0,[],[],0⟩,0,λ_=>0,λ_ _=>⟨0,0,0,[]⟩,0,⟨0,0,0,[],0,0,λ_=>⟨0,0,[]⟩,λ_=>0⟩⟩
def teS (s:Sh7) (nm:List UInt8):Te:=⟨s.arch,nm,cyS s,toN s.kk,AoH,toN s.tt,(wsS s).lw,(wsS s).cw,1,⟨k1S s,k2S s,k3S s,k4S s,k5S s,knS s,kXS s,kfS s⟩⟩
theorem Xf:ZL AiR=true:=rfl
theorem eZ:AB 0 (λ_=>true)=true:=rfl
theorem eM (n:Nat) (f:Nat->Nat):(AB n λi=>AB (f i) λ_=>true)=true:=A0.2 λ_ _=>QE
theorem Afw (n:Nat):I5 n <= n:=by
 unfold I5;cases Nat.ble n 1 <;> simp
section
variable {s:Sh7} (hf:Pz s=true)
include hf
theorem RQ:BF s.ne=true:=decide_eq_true (And (Ag6 hf).1)
theorem Ip:BM s=true:=by
 obtain ⟨f1,f2,f3,f4,f5⟩:=Ag6 hf;unfold BM;exact (Bq (I4 f1 (by omega))).trans<|(Bq (I4 f2 (by omega))).trans<|(Bq (I4 f3 (by omega))).trans<|(Bq (I4 f4 (by omega))).trans (A0.2 λi hi=>I4 (A0.1 f5 i hi) (by omega))
variable (hr:ieq (rtS s) 0=true)
include hr
theorem o7:Yn s=true∧Ym s=true∧wrB s=true∧(∀ u,(wsS s).lw u<40)∧(axS s).length <= 1023∧toN s.tt <= 16∧toN s.kk <= 16:=ok7 hr (Ip hf)
theorem te7 (nm:List UInt8):ZL (teS s nm)=true:=by
 obtain ⟨_,_,_,h1,h2,h3,h4⟩:=o7 hf hr;have:=Afw (axS s).length;simp only [ZL,Bool.and_eq_true];exact ⟨small_16 h3,A0.2 λu _=>decide_eq_true (h1 u),small_16 h4,decide_eq_true (by show (0+I5 (axS s).length) * 72 <= _; omega)⟩
end
noncomputable def Ak4:AP:=[(5,Sh.copyT),(6,ZJ),(7,ZK),(8,sameTT),(9,Hh),(10,Z9 (bV true))]
theorem Ad7:Av Tryz.prog Gl Ak4:=.cons p32 <| .cons p6t <| .cons p7t <| .cons Ao1 <| .cons p16 <| .cons p43 .nil
def Xn:List V->AR
 | [v,.str nm]=>apS v λs=>.br (Pz s) (.br (ieq (rtS s) 0) (.br (Kc nm) (.leaf (bV true,[])) (.leaf (bV true,[]))) (.leaf (bV true,[]))) .fail
 | _=>.fail
theorem YI {s:Sh7} {nm:List UInt8} (h:Pz s=true):(Xn [L4 s,.str nm]).sem=some (bV true,[]):=by
 show (Sh.apS (L4 s) λs=>T.br (Pz s) (.br (ieq (rtS s) 0) (.br (Kc nm) (.leaf (bV true,[])) (.leaf (bV true,[]))) (.leaf (bV true,[]))) .fail).sem=_;rw [Sh.apS_sem];simp only [h];cases ieq (rtS s) 0 <;> cases Kc nm <;> rfl
theorem p3x:Ax Tryz.prog Gl 3 Xn:=by
 refine Am A8 mixed Tryz.func3 (by kernel_rfl) (by kernel_rfl) λvs v h' h=>?_;unfold Xn at h;split at h
 ·rename_i v1 nm
  obtain ⟨s,a1,h⟩:=apS_some h;have hx:=AI Ad7 [] (G:=Gl);exact ⟨_,AC Gl Ak4 [],_,Anc a1,rfl,hx.1,hx.2,DK.of h (.g λhf=>eS s <| .k hf <| .k (eG [s.nc])<|eS s <| .k (RQ hf) <| .k (Ip hf) <| .c (λhr=>.k hr <| .c (λht=>.k ht <| .k (o7 hf hr).1 <| .k (eR [(toN s.kk,none),(toN s.tt,some (wsS s).lw),(knS s,none)])<|eS s <| .k (RQ hf) <| .k (Ip hf) <| .k hr <| .k (o7 hf hr).2.2.1 <| .k ht <| .k (o7 hf hr).2.1 <| .k (eG [s.nc,toN s.tt,toN s.tt]) <| .k (eL (toN s.kk)) <| .k (eM (toN s.tt) (wsS s).lw) <| .k (eL (knS s)) <| .k (eL (toN s.kk)) <| .k (eM (toN s.tt) (wsS s).lw) <| .k (eL (knS s)) <| .k (IG (teS s nm)) <| .k (te7 hf hr nm) <| .k eT <| .k eT <| .k eT <| .k eT <| .k (eI 0) <| .k (eI 0) <| .k (eI 0) <| .k (eG [s.nc,toN s.tt,toN s.tt])<|eS s<|eS s <| .k (Ip hf) <| .k (eI 0) <| .k (sameS_rfl s) <| .k (sameS_rfl s) <| .l) λht=>.k ht <| .k (eR [(0,none),(0,some (λ_=>0))])<|eS s <| .k (RQ hf) <| .k (Ip hf) <| .k hr <| .k (o7 hf hr).2.2.1 <| .k ht <| .k (eG [s.nc,0,0]) <| .k eZ <| .k eZ <| .k eZ <| .k eZ <| .k eZ <| .k eZ <| .k (IG AiR) <| .k Xf <| .k eT <| .k eT <| .k eT <| .k eT <| .k (eI 130) <| .k (eI 130) <| .k (eI 130) <| .k (eG [s.nc,0,0])<|eS s<|eS s <| .k (Ip hf) <| .k (eI 130) <| .k (sameS_rfl s) <| .k (sameS_rfl s) <| .l) λhr=>.k hr <| .k (eR [(0,none),(0,some (λ_=>0))])<|eS s <| .k (RQ hf) <| .k (Ip hf) <| .k hr <| .k (eG [s.nc,0,0]) <| .k eZ <| .k eZ <| .k eZ <| .k eZ <| .k eZ <| .k eZ <| .k (IG AiR) <| .k Xf <| .k eT <| .k eT <| .k eT <| .k eT <| .k (eI (rtS s)) <| .k (eI (rtS s)) <| .k (eI (rtS s)) <| .k (eG [s.nc,0,0])<|eS s<|eS s <| .k (Ip hf) <| .k (eI (rtS s)) <| .k (sameS_rfl s) <| .k (sameS_rfl s) <| .l) (by kernel_rfl),Aw.refl _⟩
 ·cases h
end Go.Proofs.YtkgdhhieomndeaaGreatDoor.Em
