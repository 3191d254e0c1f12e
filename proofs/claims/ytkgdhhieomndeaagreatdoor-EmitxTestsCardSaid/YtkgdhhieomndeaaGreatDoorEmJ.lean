/-
  The text of edges, the document's (alembicref04.Print): one answer with the program's. No conditions.
-/
import Derived.Test.YtkgdhhieomndeaaGreatDoorShT
import Derived.Test.YtkgdhhieomndeaaGreatDoorShVc
import Derived.Test.YtkgdhhieomndeaaGreatDoorShJ
import Derived.Test.YtkgdhhieomndeaaGreatDoorCyJ
namespace Go.Proofs.YtkgdhhieomndeaaGreatDoor.Ed
open Go.Sy
open Int (ofNat)
noncomputable def Ad1:AP:=(72,BI Kt)::(71,AiX)::[]
theorem Ad0:Av Tryz.prog Gl Ad1:=.cons p27 <| .cons p98 .nil
def ME (f:Nat->E6) (i:Nat):Bool:=ilt 262144 (ofNat (Bu (CI f (i+1))))
theorem Qt {q:Nat->Bool}:∀ {d i:Nat},Bg q d i=none->∀ k,i <= k->k<i+d->q k=false
 | 0,i,_,k,h1,h2=>by omega
 | d+1,i,h,k,h1,h2=>by
  cases hq:q i with
  | true=>rw [Dj hq] at h; cases h
  | false =>
   rw [Dk hq] at h;by_cases e:k=i
   ·rw [e]; exact hq
   ·exact Qt h k (by omega) (by omega)
def R6 (n:Nat) (f:Nat->E6):Lp:=⟨bmK 36 0 [0,2,3,4,5],0,bmK 36 0 [2,3,4],0,n+1⟩
def UN (n:Nat) (f:Nat->E6) (o:List UInt8) (i:Nat) (j:Nat->V):St:=⟨jsV 36 0 j [(0,.sl 6 n (λi=>eV (f i))),(2,.str []),(3,iV 0),(4,.str o),(5,nV i)],[]⟩
def Acn (n:Nat) (f:Nat->E6) (o:List UInt8) (i:Nat):Ex×St:=(.ex 0,⟨jsV 36 0 Aa [(2,.str []),(3,iV 0),(4,.str o)],[]⟩)
def OO (n:Nat) (f:Nat->E6) (o:List UInt8) (i:Nat):Ex×St:=(.rt,⟨jsV 36 0 Aa [(2,.str []),(3,iV 2),(4,.str o)],[]⟩)
noncomputable def JO (L:LT):St->T (Ex×St):=λst=>A7 tab ⟨Ap Ad1,L,Gl⟩ (Ar Tryz.f48 0) 0 st
section
variable (L:LT) (n:Nat) (f:Nat->E6) (o:List UInt8) (i:Nat)  (j:Nat->V)
include L n f o i j
theorem AlS (h0:ilt (ofNat i) (ofNat n)=false):Ah (JO L) (R6 n f) (UN n f o i j)=some ((.ex 0),⟨jsV 36 0 Aa [(2,.str []),(3,iV 0),(4,.str o)],[]⟩):=by
 exact Ab (ks:=[kn h0]) (by kernel_rfl)
theorem Aiz (h0:ilt (ofNat i) (ofNat n)=true) (h2:ilt 0 (ofNat i)=false) (h1:Al (ile 0 (ofNat i)) (ilt (ofNat i) (ofNat n))=true) (h14:HR o (BO (f i))=true) (h3:ilt 262144 (ofNat (Bu (Db o (BO (f i)))))=false):Ah (JO L) (R6 n f) (UN n f o i j)=some (.nm,⟨jsV 36 0 Aa [(0,.sl 6 n (λi=>eV (f i))),(2,.str []),(3,iV 0),(4,.str (Db o (BO (f i)))),(5,iV (wr .i64 (Af (ofNat i) 1)))],[]⟩):=by
 exact Ab (ks:=[kn h0,kn h2,kn h1,kn h14,kn h3]) (by kernel_rfl)
theorem Ai0 (h0:ilt (ofNat i) (ofNat n)=true) (h2:ilt 0 (ofNat i)=false) (h1:Al (ile 0 (ofNat i)) (ilt (ofNat i) (ofNat n))=true) (h14:HR o (BO (f i))=true) (h3:ilt 262144 (ofNat (Bu (Db o (BO (f i)))))=true):Ah (JO L) (R6 n f) (UN n f o i j)=some (.rt,⟨jsV 36 0 Aa [(2,.str []),(3,iV 2),(4,.str (Db o (BO (f i))))],[]⟩):=by
 exact Ab (ks:=[kn h0,kn h2,kn h1,kn h14,kn h3]) (by kernel_rfl)
theorem Ai1 (h0:ilt (ofNat i) (ofNat n)=true) (h2:ilt 0 (ofNat i)=true) (h14:HR o [32]=true) (h1:Al (ile 0 (ofNat i)) (ilt (ofNat i) (ofNat n))=true) (h15:HR (Db o [32]) (BO (f i))=true) (h3:ilt 262144 (ofNat (Bu (Db (Db o [32]) (BO (f i)))))=false):Ah (JO L) (R6 n f) (UN n f o i j)=some (.nm,⟨jsV 36 0 Aa [(0,.sl 6 n (λi=>eV (f i))),(2,.str []),(3,iV 0),(4,.str (Db (Db o [32]) (BO (f i)))),(5,iV (wr .i64 (Af (ofNat i) 1)))],[]⟩):=by
 exact Ab (ks:=[kn h0,kn h2,kn h14,kn h1,kn h15,kn h3]) (by kernel_rfl)
theorem Ai2 (h0:ilt (ofNat i) (ofNat n)=true) (h2:ilt 0 (ofNat i)=true) (h14:HR o [32]=true) (h1:Al (ile 0 (ofNat i)) (ilt (ofNat i) (ofNat n))=true) (h15:HR (Db o [32]) (BO (f i))=true) (h3:ilt 262144 (ofNat (Bu (Db (Db o [32]) (BO (f i)))))=true):Ah (JO L) (R6 n f) (UN n f o i j)=some (.rt,⟨jsV 36 0 Aa [(2,.str []),(3,iV 2),(4,.str (Db (Db o [32]) (BO (f i))))],[]⟩):=by
 exact Ab (ks:=[kn h0,kn h2,kn h14,kn h1,kn h15,kn h3]) (by kernel_rfl)
end
def AoC (n:Nat) (f:Nat->E6) :Nat->V:=lkV A9 [(8,.sl 6 n (λi=>eV (f i))),(9,bV (Co n f)),(10,bV (A6 (Co n f)))]
theorem Ako (L:LT) (p0:PT) (n:Nat) (f:Nat->E6) (o:List UInt8) (i:Nat) (h0:Aj n=true) (h1:Co n f=true) (hp0:p0 (JO (onP 0 p0 (Acn n f o i) L)) (UN n f [] 0 (AoC n f ))=true):(Az (Ak tab ⟨Ap Ad1,onP 0 p0 (Acn n f o i) L,Gl⟩ Tryz.f48 [AQ n f] [])).sem=some ((.tup [.str o,iV 0]),[]):=by
 exact Ab (ks:=[kL n,kn h0,kN (kn h1),kn hp0]) (by kernel_rfl)
theorem Aax (L:LT) (n:Nat) (f:Nat->E6) (h8:n * 40 <= 140737488355328):∀ (d i:Nat) (j:Nat->V) (q:Nat),n=i+d->d<q ->
  (A3 (JO L) (R6 n f) q (UN n f (CI f i) i j)).sem=some (match Bg (ME f) d i with
   | none=>Acn n f (CI f n) n
   | some t=>OO n f (CI f (t+1)) t)
 | 0,i,j,q+1,h,_=>by
  have:n=i:=by omega
  subst this;exact Ae (AlS L n f (CI f n) n j (A1 (Nat.le_refl _)))
 | d+1,i,j,q+1,h,h2=>by
  have hl:i<n:=by omega
  have g1:=WY f i;have g2:=Ks (f i);by_cases hi:0<i
  ·have hz:ilt 0 (ofNat i)=true:=by rw [show (0:Int)=ofNat 0 from rfl,BV,decide_eq_true hi]
   have k1:HR (CI f i) [32]=true:=decide_eq_true (by simp only [List.length_cons,List.length_nil]; omega);have k2:HR (Db (CI f i) [32]) (BO (f i))=true:=decide_eq_true (by simp only [Db,List.length_append,List.length_cons,List.length_nil]; omega);have pl:=NQ (f:=f) hi;cases c1:ilt 262144 (ofNat (Bu (Db (Db (CI f i) [32]) (BO (f i))))) with
    | true =>rw [Dj (show ME f i=true by rw [ME,pl]; exact c1)];show _=some (OO n f (CI f (i+1)) i);rw [show OO n f (CI f (i+1)) i=OO n f (Db (Db (CI f i) [32]) (BO (f i))) i by rw [pl]];exact Ae (Ai2 L n f (CI f i) i j (ofNat_lt hl) hz k1 (Ao hl) k2 c1)
    | false =>rw [Dk (show ME f i=false by rw [ME,pl]; exact c1),Ae (Ai1 L n f (CI f i) i j (ofNat_lt hl) hz k1 (Ao hl) k2 c1),Ay,Aq hl (by omega),<- pl];exact Aax L n f h8 d (i+1) Aa q (by omega) (by omega)
  ·have hz:ilt 0 (ofNat i)=false:=by rw [show (0:Int)=ofNat 0 from rfl,BV,decide_eq_false hi]
   have k3:HR (CI f i) (BO (f i))=true:=decide_eq_true (by omega);have pl:=NP (f:=f) hi;cases c1:ilt 262144 (ofNat (Bu (Db (CI f i) (BO (f i))))) with
    | true =>rw [Dj (show ME f i=true by rw [ME,pl]; exact c1)];show _=some (OO n f (CI f (i+1)) i);rw [show OO n f (CI f (i+1)) i=OO n f (Db (CI f i) (BO (f i))) i by rw [pl]];exact Ae (Ai0 L n f (CI f i) i j (ofNat_lt hl) hz (Ao hl) k3 c1)
    | false =>rw [Dk (show ME f i=false by rw [ME,pl]; exact c1),Ae (Aiz L n f (CI f i) i j (ofNat_lt hl) hz (Ao hl) k3 c1),Ay,Aq hl (by omega),<- pl];exact Aax L n f h8 d (i+1) Aa q (by omega) (by omega)
theorem p64:Ax Tryz.prog Gl 48 Rq:=by
 refine Am A8 mixed Tryz.func48 (by kernel_rfl) (by kernel_rfl) λvs v h' h=>?_;obtain ⟨n,f,ha,h1⟩:=Ct h;obtain ⟨hF,hq⟩:=Ad h1;have:=Ac hq;simp only [Prod.mk.injEq] at this;obtain ⟨rfl,rfl⟩:=this;have h8:n * 40 <= 140737488355328:=of_decide_eq_true hF;have hs:Aj n=true:=VQ (FG hF);have hx:=AI Ad0 [(0,R6 n f)];have hL:=AL [(0,R6 n f)];refine ⟨_,AC Gl Ad1 [(0,R6 n f)],_,ha,rfl,hx.1,hx.2,?_,Aw.refl _⟩;unfold CY Ib;cases hm:Co n f with
 | false=>exact Ab (ks:=[kL n,kn hs,kN (kn hm)]) (by kernel_rfl)
 | true =>
  have h0:=λL j=>Aax L n f h8 n 0 j (n+1) (by omega) (by omega);have ht:∀ i,ME f i=decide (262144<(CI f (i+1)).length):=λi=>by
   unfold ME;rw [show (262144:Int)=ofNat 262144 from rfl,BV];rfl
  cases hq:Bg (ME f) n 0 with
  | some k =>
   rw [hq] at h0;obtain ⟨_,hk,hk2⟩:=MA hq;have hb:Zm n f=true:=by
    rw [ht] at hk2;have:=of_decide_eq_true hk2;have:=PV f (show k+1 <= n by omega);exact decide_eq_true (by omega)
   rw [hb];exact AH (AA (k:=0) (r:=(OO n f (CI f (k+1)) k)) hL hL) _ (Ab (ks:=[kL n,kn hs,kN (kn hm),kn (Au (L:=(AW [(0,R6 n f)])) (k:=0) (r:=(OO n f (CI f (k+1)) k)) (f:=JO (onP 0 (isP (AW [(0,R6 n f)]) 0 (OO n f (CI f (k+1)) k)) (OO n f (CI f (k+1)) k) (AW [(0,R6 n f)]))) (st:=UN n f [] 0 (AoC n f)) (h0 _ _))]) (by kernel_rfl))
  | none =>
   rw [hq] at h0;have hb:Zm n f=false:=by
    cases n with
    | zero=>rfl
    | succ m =>have:=Qt hq m (Nat.zero_le m) (by omega);rw [ht] at this;exact this
   rw [hb];exact AH (AA hL hL) _ (Ako _ _ n f (CI f n) n hs hm (Au (h0 _ _)))
end Go.Proofs.YtkgdhhieomndeaaGreatDoor.Ed
namespace Go.Proofs.YtkgdhhieomndeaaGreatDoor.Em
open Go.Sy Go Go.Proofs.YtkgdhhieomndeaaGreatDoor.Ed Go.Proofs.YtkgdhhieomndeaaGreatDoor.Sh
open Int (ofNat)
set_option maxRecDepth 100000
set_option maxHeartbeats 1000000
noncomputable def Ak5:AP:=[(47,H7),(48,Rq)]
theorem AdE:Av Tryz.prog Gl Ak5:=.cons p93 <| .cons Ed.p64 .nil
noncomputable def P8:AP:=[(45,Ov)]
theorem ZU:Av Tryz.prog Gl P8:=.cons p38 .nil
def Amq (a:Int) (n:Nat) (g:Nat->E6) (m:Nat) (x:Nat->Ev5) (t:Int) (k:Nat) (p:Nat) (r:Nat->Int) (q:Nat) (ln:Nat->Nat) (co:Nat->Nat->Int):Lp:=⟨bmK 24 0 [1,3,4],3,bmK 24 0 [1,3],3,0⟩
def AdM (a:Int) (n:Nat) (g:Nat->E6) (m:Nat) (x:Nat->Ev5) (t:Int) (k:Nat) (p:Nat) (r:Nat->Int) (q:Nat) (ln:Nat->Nat) (co:Nat->Nat->Int) (b:Nat) (y:Nat->V) (j:Nat->V):St:=⟨jsV 24 0 j [(1,.ptr 0 0),(3,.ref 2),(4,nV b)],[.cells [iV a,.sl 6 n λi=>eV (g i),.sl 5 m λi=>evV (x i),iV t,nV k,.sl 1 p λi=>iV (r i),.sl 1 q λi=>.sl 1 (ln i) λj=>iV (co i j)],.row 55 5 0 Aa,.row 55 5 b y]⟩
def AgB (a:Int) (n:Nat) (g:Nat->E6) (m:Nat) (x:Nat->Ev5) (t:Int) (k:Nat) (p:Nat) (r:Nat->Int) (q:Nat) (ln:Nat->Nat) (co:Nat->Nat->Int) (b:Nat) (y:Nat->V):Ex×St:=(.ex 0,⟨jsV 24 0 Aa [(1,.ptr 0 0),(3,.ref 2)],[.cells [iV a,.sl 6 n λi=>eV (g i),.sl 5 m λi=>evV (x i),iV t,nV k,.sl 1 p λi=>iV (r i),.sl 1 q λi=>.sl 1 (ln i) λj=>iV (co i j)],.row 55 5 0 Aa,.row 55 5 b y]⟩)
noncomputable def Sl (L:LT):St->T (Ex×St):=λst=>A7 tab ⟨Ap P8,L,Gl⟩ (Ar Tryz.f25 0) 0 st
section
variable (L:LT) (a:Int) (n:Nat) (g:Nat->E6) (m:Nat) (x:Nat->Ev5) (t:Int) (k:Nat) (p:Nat) (r:Nat->Int) (q:Nat) (ln:Nat->Nat) (co:Nat->Nat->Int) (b:Nat) (y:Nat->V)  (j:Nat->V)
include L a n g m x t k p r q ln co b y j
theorem Aoi (h0:ilt (ofNat b) (ofNat k)=false):Ah (Sl L) (Amq a n g m x t k p r q ln co) (AdM a n g m x t k p r q ln co b y j)=some ((.ex 0),⟨jsV 24 0 Aa [(1,.ptr 0 0),(3,.ref 2)],[.cells [iV a,.sl 6 n (λi=>eV (g i)),.sl 5 m (λi=>.agg [iV (x i).th,iV (x i).pl,iV (x i).dir,iV (x i).loc,iV (x i).val]),iV t,nV k,.sl 1 p (λi=>iV (r i)),.sl 1 q (λi=>.sl 1 (ln i) (λj=>iV (co i j)))],.row 55 5 0 Aa,.row 55 5 b y]⟩):=by
 exact Ab (ks:=[kn h0]) (by kernel_rfl)
theorem Aoh (h0:ilt (ofNat b) (ofNat k)=true) (h23:Ba b 1 56=true):Ah (Sl L) (Amq a n g m x t k p r q ln co) (AdM a n g m x t k p r q ln co b y j)=some (.nm,⟨jsV 24 0 Aa [(1,.ptr 0 0),(3,.ref 2),(4,iV (wr .i64 (Af (ofNat b) 1)))],[.cells [iV a,.sl 6 n (λi=>eV (g i)),.sl 5 m (λi=>.agg [iV (x i).th,iV (x i).pl,iV (x i).dir,iV (x i).loc,iV (x i).val]),iV t,nV k,.sl 1 p (λi=>iV (r i)),.sl 1 q (λi=>.sl 1 (ln i) (λj=>iV (co i j)))],.row 55 5 0 Aa,.row 55 5 (AS b 1) (As b y (.agg [iV (-1),iV 0,.str (B1 (ofNat b)),.str [],iV 0]))]⟩):=by
 exact Ab (ks:=[kn h0,kn h23]) (by kernel_rfl)
end
def XB (a:Int) (n:Nat) (g:Nat->E6) (m:Nat) (x:Nat->Ev5) (t:Int) (k:Nat) (p:Nat) (r:Nat->Int) (q:Nat) (ln:Nat->Nat) (co:Nat->Nat->Int) :St:=⟨jsV 24 0 (λ_=>A9) [(0,.agg [iV a,.sl 6 n (λi=>eV (g i)),.sl 5 m (λi=>.agg [iV (x i).th,iV (x i).pl,iV (x i).dir,iV (x i).loc,iV (x i).val]),iV t,nV k,.sl 1 p (λi=>iV (r i)),.sl 1 q (λu=>.sl 1 (ln u) (λi=>iV (co u i)))]),(1,.ptr 0 0),(2,.ref 1),(3,.ref 2),(4,iV 0)],[.cells [iV a,.sl 6 n (λi=>eV (g i)),.sl 5 m (λi=>.agg [iV (x i).th,iV (x i).pl,iV (x i).dir,iV (x i).loc,iV (x i).val]),iV t,nV k,.sl 1 p (λi=>iV (r i)),.sl 1 q (λu=>.sl 1 (ln u) (λi=>iV (co u i)))],.row 55 5 0 Aa,.row 55 5 0 Aa]⟩
def Ajz:List V->AR
 | [v]=>apS v λs=>.br (BF s.ne) (.br (Co s.ne s.E) (.leaf (.str (CY s.ne λi=>AV s.ne s.E i),[])) .fail) .fail
 | _=>.fail
theorem p24:Ax Tryz.prog Gl 24 Ajz:=by
 refine Am A8 mixed Tryz.func24 (by kernel_rfl) (by kernel_rfl) λvs v h' h=>?_;unfold Ajz at h;split at h
 ·rename_i v1
  obtain ⟨s,a1,h⟩:=apS_some h;obtain ⟨hf,h⟩:=Ad h;obtain ⟨hn,h⟩:=Ad h;have:=Ac h;simp only [Prod.mk.injEq] at this;obtain ⟨rfl,rfl⟩:=this;obtain ⟨a,n,g,m,x,t,kk,p,r,q,C⟩:=s;obtain ⟨ln,co,hC⟩:∃ (ln:Nat->Nat) (co:Nat->Nat->Int),C=λu=>(ln u,co u):=⟨λu=>(C u).1,λu=>(C u).2,rfl⟩;subst hC;have hA:Bf [v1] [.agg [iV a,.sl 6 n (λi=>eV (g i)),.sl 5 m (λi=>evV (x i)),iV t,iV kk,.sl 1 p (λi=>iV (r i)),.sl 1 q (λu=>.sl 1 (ln u) (λi=>iV (co u i)))]]:=λS w cs hv=>by
   obtain ⟨c,l,rfl,q1,q2⟩:=hv;exact ⟨c,_,rfl,a1 S w c q1,q2⟩
  have hx:=AI AdE [] (G:=Gl);exact ⟨_,AC Gl Ak5 [],_,hA,rfl,hx.1,hx.2,Ab (ks:=[kL n,kn hf,kn hn,kL n,kn hf]) (by kernel_rfl),Aw.refl _⟩
 ·cases h
section
variable (a:Int) (n:Nat) (g:Nat->E6) (m:Nat) (x:Nat->Ev5) (t:Int) (k:Nat) (p:Nat) (r:Nat->Int) (q:Nat) (ln:Nat->Nat) (co:Nat->Nat->Int)
theorem AfV (M:LT) (hk:k <= 1023):∀ (d b:Nat) (j:Nat->V),k=b+d->LRun ⟨Ap P8,Gl⟩ (Sl M) (AdM a n g m x t k p r q ln co b Di j) (AgB a n g m x t k p r q ln co k Di)
 | 0,b,j,h=>by
  have:k=b:=by omega
  subst this;exact LRun.exit (Aoi M a n g m x t k p r q ln co k Di j (A1 (Nat.le_refl _))) (by simp)
 | d+1,b,j,h=>by
  have hb:b<k:=by omega
  have h1:=Aoh M a n g m x t k p r q ln co b Di j (ofNat_lt hb) (decide_eq_true (by omega));rw [Aq hb (by omega)] at h1;refine LRun.round h1 (Fe (i:=2) (n:=b+1) (g':=Di) rfl λi _=>?_) (AfV M hk d (b+1) Aa (by omega));show Di i=As b Di (Di b) i;rw [Bi];cases hi:Nat.beq i b with
  | true=>rw [Nat.eq_of_beq_eq_true hi]; rfl
  | false=>rfl
theorem Acg:(⟨(XB a n g m x t k p r q ln co).t,(XB a n g m x t k p r q ln co).h.set 2 (.row 55 5 0 Di)⟩:St)=AdM a n g m x t k p r q ln co 0 Di (λi=>nth (XB a n g m x t k p r q ln co).t i):=by kernel_rfl
end
def Ajp:List V->AR
 | [v]=>apS v λs=>.br (ieq s.kk (ofNat (toN s.kk))) (.br (Ij (toN s.kk)) (.leaf (.ref 0,[.row 55 5 (toN s.kk) Di])) .fail) .fail
 | _=>.fail
theorem p25:Ax Tryz.prog Gl 25 Ajp:=by
 refine Am A8 mixed Tryz.func25 (by kernel_rfl) (by kernel_rfl) λvs v h' h=>?_;unfold Ajp at h;split at h
 ·rename_i v1
  obtain ⟨s,a1,h⟩:=apS_some h;obtain ⟨hf,h⟩:=Ad h;obtain ⟨hn,h⟩:=Ad h;have:=Ac h;simp only [Prod.mk.injEq] at this;obtain ⟨rfl,rfl⟩:=this;obtain ⟨a,n,g,m,x,t,kk,p,r,q,C⟩:=s;obtain ⟨ln,co,hC⟩:∃ (ln:Nat->Nat) (co:Nat->Nat->Int),C=λu=>(ln u,co u):=⟨λu=>(C u).1,λu=>(C u).2,rfl⟩;subst hC;obtain ⟨k,hk⟩:∃ k:Nat,kk=ofNat k:=⟨toN kk,by simpa [ieq] using hf⟩;subst hk;have hn:k <= 1023:=Nat.le_of_ble_eq_true hn;have hA:Bf [v1] [.agg [iV a,.sl 6 n (λi=>eV (g i)),.sl 5 m (λi=>evV (x i)),iV t,nV k,.sl 1 p (λi=>iV (r i)),.sl 1 q (λu=>.sl 1 (ln u) (λi=>iV (co u i)))]]:=λS w cs hv=>by
   obtain ⟨c,l,rfl,q1,q2⟩:=hv;exact ⟨c,_,rfl,a1 S w c q1,q2⟩
  have hc0:Bo Tryz.prog ⟨Ap P8,Gl⟩:=(AI ZU [] (G:=Gl)).1
  let r6:=AgB a n g m x t k p r q ln co k Di
  have hrun:∀ M,LRun ⟨Ap P8,Gl⟩ (Sl M) (XB a n g m x t k p r q ln co) r6:=λM=>by
   refine .weak (Fe (i:=2) (n:=0) (g':=Di) rfl λ_ hq=>absurd hq (Nat.not_lt_zero _)) ?_;rw [Acg];exact AfV a n g m x t k p r q ln co M hn k 0 _ (by omega)
  exact ⟨_,⟨Ap P8,_,Gl⟩,_,hA,rfl,hc0,Hp (k:=0) (r:=r6) G2,Ab (ks:=[kn (DZ (hrun (onP 0 (isR ⟨Ap P8,Gl⟩ r6) r6 noL)))]) (by kernel_rfl),Aw.refl _⟩
 ·cases h
end Go.Proofs.YtkgdhhieomndeaaGreatDoor.Em
namespace Go.Proofs.YtkgdhhieomndeaaGreatDoor.Em
open Go.Sy Go Go.Proofs.YtkgdhhieomndeaaGreatDoor.Ed Go.Proofs.YtkgdhhieomndeaaGreatDoor.Sh
open Int (ofNat)
set_option maxRecDepth 100000
set_option maxHeartbeats 1000000
noncomputable def Apd:List V->AR:=λvs=>Az (Ak tab (AC Gl [] []) Tryz.f125 vs [])
noncomputable def Apc:List V->AR:=λvs=>Az (Ak tab (AC Gl [] []) Tryz.f126 vs [])
noncomputable def Aaa:AP:=[(125,Apd),(126,Apc)]
theorem ZZ:Av Tryz.prog Gl Aaa:=.cons (AN A8 mixed Tryz.func125 (by kernel_rfl) (by kernel_rfl) (AI Av.nil _)) <| .cons (AN A8 mixed Tryz.func126 (by kernel_rfl) (by kernel_rfl) (AI Av.nil _)) .nil
theorem V4:Tz.map (λl=>(Az (Ak tab (AC Gl Aaa [(0,lp86)]) Tryz.f102 [.str l] [])).sem)=Tz.map λ_=>some (bV true,[]):=by kernel_rfl
theorem p102:Ax Tryz.prog Gl 102 Qg:=by
 refine Am A8 mixed Tryz.func102 (by kernel_rfl) (by kernel_rfl) λvs v h' h=>?_;unfold Qg at h;split at h
 ·rename_i l
  obtain ⟨h1,hq⟩:=Ad h;have:=Ac hq;simp only [Prod.mk.injEq] at this;obtain ⟨rfl,rfl⟩:=this;have hx:=AI ZZ [(0,lp86)];obtain ⟨y,hy,e⟩:=List.any_eq_true.1 h1;have e:y=l:=by simpa [seq] using e
  subst e;exact ⟨_,AC Gl Aaa [(0,lp86)],_,Bf.refl _,rfl,hx.1,hx.2,List.map_inj_left.1 V4 y hy,Aw.refl _⟩
 ·cases h
theorem p103:Ax Tryz.prog Gl 103 PS:=by
 refine Am A8 mixed Tryz.func103 (by kernel_rfl) (by kernel_rfl) λvs v h' h=>?_;unfold PS at h;split at h
 ·rename_i a
  obtain ⟨h1,hq⟩:=Ad h;have:=Ac hq;simp only [Prod.mk.injEq] at this;obtain ⟨rfl,rfl⟩:=this;have hx:=AI (P:=Tryz.prog) (G:=Gl) Av.nil [];have h1:a=2:=by simpa [ieq] using h1
  subst h1;exact ⟨_,AC Gl [] [],_,Bf.refl _,rfl,hx.1,hx.2,by kernel_rfl,Aw.refl _⟩
 ·cases h
theorem p74:Ax Tryz.prog Gl 74 Qc:=by
 refine Am A8 mixed Tryz.func74 (by kernel_rfl) (by kernel_rfl) λvs v h' h=>?_;unfold Qc at h;split at h
 ·rename_i a
  obtain ⟨h1,hq⟩:=Ad h;have:=Ac hq;simp only [Prod.mk.injEq] at this;obtain ⟨rfl,rfl⟩:=this;have hx:=AI SC [];unfold GP at h1;cases h2:ile (-2147483648) a with
  | false=>rw [h2] at h1; cases h1
  | true =>rw [h2] at h1;have h1:ile a 2147483647=true:=h1;have:=Akw (AC Gl N8 []).loop a h2;rw [h1] at this;exact ⟨_,AC Gl N8 [],_,Bf.refl _,rfl,hx.1,hx.2,(show (Az (Ak tab (AC Gl N8 []) Tryz.f74 [iV a] [])).sem=_ from this),Aw.refl _⟩
 ·cases h
noncomputable def ZQ:AP:=[(102,Qg),(103,PS)]
theorem Adt:Av Tryz.prog Gl ZQ:=.cons p102 <| .cons p103 .nil
theorem e73 (L:LT) (t r:Int) (l:List UInt8):Az (Ak tab ⟨Ap ZQ,L,Gl⟩ Tryz.f73 [iV 2,.agg [iV t,iV r,.str l]] [])=Az (Ak tab ⟨Ap tb63,L,Gl⟩ Tryz.f65 [iV 2,.agg [iV t,iV r,.str l]] []):=by kernel_rfl
theorem p73:Ax Tryz.prog Gl 73 tgT:=by
 refine Am A8 mixed Tryz.func73 (by kernel_rfl) (by kernel_rfl) λvs v h' h=>?_;unfold tgT at h;split at h
 ·rename_i a t r l
  obtain ⟨h0,h⟩:=Ad h;obtain ⟨h1,hq⟩:=Ad h;have:=Ac hq;simp only [Prod.mk.injEq] at this;obtain ⟨rfl,rfl⟩:=this;have hx:=AI Adt [];have h0:a=2:=by simpa [ieq] using h0
  subst h0;refine ⟨_,AC Gl ZQ [],_,Bf.refl _,rfl,hx.1,hx.2,(congrArg T.sem (e73 (AC Gl ZQ []).loop t r l)).trans ?_,Aw.refl _⟩;unfold tgB at h1;cases h2:ieq t (-1) with
  | true =>rw [h2] at h1;simp only [cond_true,Bool.and_eq_true] at h1;exact Aky _ t r l h2 h1.1 h1.2
  | false =>rw [h2] at h1;simp only [cond_false,Bool.and_eq_true] at h1;have:=Akx (AC Gl ZQ []).loop t r l h2 h1.1 h1.2.1 h1.2.2.1 h1.2.2.2.1;rw [h1.2.2.2.2] at this;exact this
 ·cases h
noncomputable def tb49:AP:=[(73,tgT),(74,Qc)]
theorem tb49_ok:Av Tryz.prog Gl tb49:=.cons p73 <| .cons p74 .nil
def Amn (n:Nat) (X:Nat->Tg) (m:Nat) (f:Nat->Int):Lp:=⟨bmK 69 0 [0,1,4,5,6,7,8],3,bmK 69 0 [4,5,6,7],3,n+1⟩
def AdK (n:Nat) (X:Nat->Tg) (m:Nat) (f:Nat->Int) (b:Nat) (g:Nat->V) (j:Nat->V):St:=⟨jsV 69 0 j [(0,.sl 3 n λi=>tgV (X i)),(1,.sl 1 m λi=>iV (f i)),(4,.ptr 0 0),(5,iV 0),(6,.ptr 1 0),(7,.ref 2),(8,nV b)],[.cells [iV 0,iV 0,iV 0,iV 0,.str [],iV 0,.nilS],.cells [iV 0,iV 0,iV 0,iV 0,.str [],iV 0,.nilS],.row 35 6 b g]⟩
def Ej (n:Nat) (X:Nat->Tg) (m:Nat) (f:Nat->Int) (b:Nat) (g:Nat->V):Ex×St:=(.ex 0,⟨jsV 69 0 Aa [(4,.ptr 0 0),(5,iV 0),(6,.ptr 1 0),(7,.ref 2)],[.cells [iV 0,iV 0,iV 0,iV 0,.str [],iV 0,.nilS],.cells [iV 0,iV 0,iV 0,iV 0,.str [],iV 0,.nilS],.row 35 6 b g]⟩)
noncomputable def Iv (L:LT):St->T (Ex×St):=λst=>A7 tab ⟨Ap tb49,L,Gl⟩ (Ar Tryz.f49 0) 0 st
section
variable (L:LT) (n:Nat) (X:Nat->Tg) (m:Nat) (f:Nat->Int) (b:Nat) (g:Nat->V)  (j:Nat->V)
include L n X m f b g j
theorem AnV (h0:ilt (ofNat b) (ofNat n)=false):Ah (Iv L) (Amn n X m f) (AdK n X m f b g j)=some ((.ex 0),⟨jsV 69 0 Aa [(4,.ptr 0 0),(5,iV 0),(6,.ptr 1 0),(7,.ref 2)],[.cells [iV 0,iV 0,iV 0,iV 0,.str [],iV 0,.nilS],.cells [iV 0,iV 0,iV 0,iV 0,.str [],iV 0,.nilS],.row 35 6 b g]⟩):=by
 exact Ab (ks:=[kn h0]) (by kernel_rfl)
theorem AnU (h0:ilt (ofNat b) (ofNat n)=true) (h27:ile 0 (ofNat b)=true) (h28:tgB (X b).th (X b).rg (X b).lc=true) (h29:Al (ile 0 (ofNat b)) (ilt (ofNat b) (ofNat m))=true) (h30:GP (f b)=true) (h31:Ba b 1 72=true):Ah (Iv L) (Amn n X m f) (AdK n X m f b g j)=some (.nm,⟨jsV 69 0 Aa [(0,.sl 3 n (λi=>.agg [iV (X i).th,iV (X i).rg,.str (X i).lc])),(1,.sl 1 m (λi=>iV (f i))),(4,.ptr 0 0),(5,iV 0),(6,.ptr 1 0),(7,.ref 2),(8,iV (wr .i64 (Af (ofNat b) 1)))],[.cells [iV 0,iV 0,iV 0,iV 0,.str [],iV 0,.nilS],.cells [iV 0,iV 0,iV 0,iV 0,.str [],iV 0,.nilS],.row 35 6 (AS b 1) (As b g (.agg [iV 2,iV (X b).th,iV (X b).rg,.str (X b).lc,iV (f b),.nilS]))]⟩):=by
 exact Ab (ks:=[kn h0,kA (kn h27) (kn h0),kI 2,kn h28,kN kT,kN kT,kN kT,kn h29,kN kT,kN kT,kn h30,kN kT,kN kT,kN kT,kA (kn h27) (kn h0),kn h29,kn h31]) (by kernel_rfl)
end
def OK (n:Nat) (X:Nat->Tg) (m:Nat) (f:Nat->Int) :St:=⟨jsV 69 0 (λ_=>A9) [(0,.sl 3 n (λi=>.agg [iV (X i).th,iV (X i).rg,.str (X i).lc])),(1,.sl 1 m (λi=>iV (f i))),(4,.ptr 0 0),(5,iV 0),(6,.ptr 1 0),(7,.ref 2),(8,iV 0),(10,.sl 3 n (λi=>.agg [iV (X i).th,iV (X i).rg,.str (X i).lc])),(11,nV n),(12,.sl 1 m (λi=>iV (f i))),(13,nV m),(14,bV (A6 (ieq (ofNat n) (ofNat m)))),(16,.sl 3 n (λi=>.agg [iV (X i).th,iV (X i).rg,.str (X i).lc])),(17,nV n),(18,bV (ilt 1023 (ofNat n)))],[.cells [iV 0,iV 0,iV 0,iV 0,.str [],iV 0,.nilS],.cells [iV 0,iV 0,iV 0,iV 0,.str [],iV 0,.nilS],.row 35 6 0 Aa]⟩
section
variable (L:LT) (p0:PT) (n:Nat) (X:Nat->Tg) (m:Nat) (f:Nat->Int) (b:Nat) (g:Nat->V)
include L p0 n X m f b g
theorem An1 (h0:ieq (ofNat n) (ofNat m)=true) (h1:ilt 1023 (ofNat n)=false) (h2:ieq (ofNat b) 0=true) (h3:ieq (ofNat b) 1=false) (hp0:p0 (Iv (onP 0 p0 (Ej n X m f b g) L)) (OK n X m f)=true):(Az (Ak tab ⟨Ap tb49,onP 0 p0 (Ej n X m f b g) L,Gl⟩ Tryz.f49 [.sl 3 n λi=>tgV (X i),.sl 1 m λi=>iV (f i)] [])).sem=some ((.tup [.agg [iV 1,iV 1,iV 0,iV 0,.str [],iV 0,.ref 0],iV 0]),[.row 35 6 0 Aa]):=by
 exact Ab (ks:=[kN (kn h0),kn h1,kn hp0,kn h2,kn h3]) (by kernel_rfl)
theorem An2 (h0:ieq (ofNat n) (ofNat m)=true) (h1:ilt 1023 (ofNat n)=false) (h2:ieq (ofNat b) 0=false) (h3:ieq (ofNat b) 1=false) (hp0:p0 (Iv (onP 0 p0 (Ej n X m f b g) L)) (OK n X m f)=true):(Az (Ak tab ⟨Ap tb49,onP 0 p0 (Ej n X m f b g) L,Gl⟩ Tryz.f49 [.sl 3 n λi=>tgV (X i),.sl 1 m λi=>iV (f i)] [])).sem=some ((.tup [.agg [iV 1,iV 4,iV 0,iV 0,.str [],iV 0,.ref 0],iV 0]),[.row 35 6 b g]):=by
 exact Ab (ks:=[kN (kn h0),kn h1,kn hp0,kn h2,kn h3]) (by kernel_rfl)
end
theorem An3 (L:LT) (p0:PT) (n:Nat) (X:Nat->Tg) (m:Nat) (f:Nat->Int) (h0:ieq (ofNat n) (ofNat m)=true) (h1:ilt 1023 (ofNat n)=false) (hp0:p0 (Iv (onP 0 p0 (Ej n X m f 1 (Afe (.agg [iV 2,iV (X 0).th,iV (X 0).rg,.str (X 0).lc,iV (f 0),.nilS]))) L)) (OK n X m f)=true):(Az (Ak tab ⟨Ap tb49,onP 0 p0 (Ej n X m f 1 (Afe (.agg [iV 2,iV (X 0).th,iV (X 0).rg,.str (X 0).lc,iV (f 0),.nilS]))) L,Gl⟩ Tryz.f49 [.sl 3 n λi=>tgV (X i),.sl 1 m λi=>iV (f i)] [])).sem=some ((.tup [.agg [iV 1,iV 2,iV (X 0).th,iV (X 0).rg,.str (X 0).lc,iV (f 0),.ref 0],iV 0]),[.row 35 6 0 Aa]):=NI (bbK 7 116) [A6 (ieq (ofNat n) (ofNat m)),ilt 1023 (ofNat n),p0 (Iv (onP 0 p0 (Ej n X m f 1 (Afe (.agg [iV 2,iV (X 0).th,iV (X 0).rg,.str (X 0).lc,iV (f 0),.nilS]))) L)) (OK n X m f),ieq 1 0,ieq 1 1,Al (ile 0 0) (ilt 0 1),nlt 0 1] (by kernel_rfl) (by simp only [hp0] <;> simp only [h0,h1,Bm] <;> rfl)
theorem AfP (M:LT) (n:Nat) (X:Nat->Tg) (f:Nat->Int) (hn:n <= 1023) (hX:∀ i,i<n->tgB (X i).th (X i).rg (X i).lc=true) (hf:∀ i,i<n->GP (f i)=true):∀ (d b:Nat) (j:Nat->V),n=b+d ->
  LRun ⟨Ap tb49,Gl⟩ (Iv M) (AdK n X n f b (Br (BE X f) b) j) (Ej n X n f n (Br (BE X f) n))
 | 0,b,j,h=>by
  have:n=b:=by omega
  subst this;exact LRun.exit (AnV M n X n f n _ j (A1 (Nat.le_refl _))) (by simp)
 | d+1,b,j,h=>by
  have hi:b<n:=by omega
  have h1:=AnU M n X n f b (Br (BE X f) b) j (ofNat_lt hi) (AF b) (hX b hi) (Ao hi) (hf b hi) (decide_eq_true (by omega));rw [Aq hi (by omega)] at h1;exact LRun.round h1 (LE.refl _) (AfP M n X f hn hX hf d (b+1) Aa (by omega))
theorem Acb (n:Nat) (X:Nat->Tg) (m:Nat) (f:Nat->Int):OK n X m f=AdK n X m f 0 (Br (BE X f) 0) (λi=>nth (OK n X m f).t i):=by kernel_rfl
theorem p49:Ax Tryz.prog Gl 49 allT:=by
 refine Am A8 mixed Tryz.func49 (by kernel_rfl) (by kernel_rfl) λvs v h' h=>?_;unfold allT at h;split at h
 ·rename_i v0 u0
  obtain ⟨n,X,ha,h⟩:=Bs h;obtain ⟨m,f,hb,h⟩:=Bs h;obtain ⟨h1,h⟩:=Ad h;obtain ⟨h2,h⟩:=Ad h;obtain ⟨h3,h⟩:=Ad h;obtain ⟨h4,h⟩:=Ad h;have:=Ac h;simp only [Prod.mk.injEq] at this;obtain ⟨rfl,rfl⟩:=this;have h1:n=m:=Nat.eq_of_beq_eq_true h1;subst h1;have h2:n <= 1023:=Nat.le_of_ble_eq_true h2;have h3:=λi (hi:i<n)=>A0.1 h3 i hi;have h4:=λi (hi:i<n)=>A0.1 h4 i hi;have hA:Bf [v0,u0] [.sl 3 n λi=>tgV (X i),.sl 1 n λi=>iV (f i)]:=λS w cs hv=>by
   obtain ⟨c,l,rfl,q1,d,l',rfl,q2,q3⟩:=hv;exact ⟨c,_,rfl,ha S w c q1,d,_,rfl,hb S w d q2,q3⟩
  have hx:=(AI tb49_ok []).1;have hr:∀ M,LRun ⟨Ap tb49,Gl⟩ (Iv M) (OK n X n f) (Ej n X n f n (Br (BE X f) n)):=λM=>by
   rw [Acb];exact AfP M n X f h2 h3 h4 n 0 _ (by omega)
  have e1:ieq (ofNat n) (ofNat n)=true:=by simp [ieq]
  have e2:ilt 1023 (ofNat n)=false:=by rw [show (1023:Int)=ofNat 1023 from rfl,BV]; exact decide_eq_false (by omega)
  have rle:∀ (g:Nat->V),Aw [Blk.row 35 6 0 Aa] [Blk.row 35 6 0 g]:=λg=>Aw.one λj hj=>absurd hj (Nat.not_lt_zero _);have hn:n=0 ∨ n=1 ∨ ∃ k,n=k+2:=by
   rcases n with _ | _ | k
   ·exact .inl rfl
   ·exact .inr (.inl rfl)
   ·exact .inr (.inr ⟨k,rfl⟩)
  rcases hn with rfl | rfl | ⟨k,rfl⟩
  ·have hw:=An1 noL (isR ⟨Ap tb49,Gl⟩ (Ej 0 X 0 f 0 (Br (BE X f) 0))) 0 X 0 f 0 (Br (BE X f) 0) e1 e2 (by decide) (by decide) (DZ (hr _))
   exact ⟨_,⟨Ap tb49,onP 0 (isR ⟨Ap tb49,Gl⟩ (Ej 0 X 0 f 0 (Br (BE X f) 0))) (Ej 0 X 0 f 0 (Br (BE X f) 0)) noL,Gl⟩,_,hA,rfl,hx,Hp G2,hw,rle _⟩
  ·have hw:=An3 noL (isR ⟨Ap tb49,Gl⟩ (Ej 1 X 1 f 1 (Br (BE X f) 1))) 1 X 1 f e1 e2 (DZ (hr _))
   exact ⟨_,⟨Ap tb49,onP 0 (isR ⟨Ap tb49,Gl⟩ (Ej 1 X 1 f 1 (Br (BE X f) 1))) (Ej 1 X 1 f 1 (Br (BE X f) 1)) noL,Gl⟩,_,hA,rfl,hx,Hp G2,hw,rle _⟩
  ·have e3:ieq (ofNat (k+2)) 0=false:=by simp [ieq]; omega
   have e4:ieq (ofNat (k+2)) 1=false:=by simp [ieq]; omega
   have hw:=An2 noL (isR ⟨Ap tb49,Gl⟩ (Ej (k+2) X (k+2) f (k+2) (Br (BE X f) (k+2)))) (k+2) X (k+2) f (k+2) (Br (BE X f) (k+2)) e1 e2 e3 e4 (DZ (hr _));exact ⟨_,⟨Ap tb49,onP 0 (isR ⟨Ap tb49,Gl⟩ (Ej (k+2) X (k+2) f (k+2) (Br (BE X f) (k+2)))) (Ej (k+2) X (k+2) f (k+2) (Br (BE X f) (k+2))) noL,Gl⟩,_,hA,rfl,hx,Hp G2,hw,Aw.one λj hj=>(F9 (BE X f) (k+2) j hj).symm⟩
 ·cases h
end Go.Proofs.YtkgdhhieomndeaaGreatDoor.Em
