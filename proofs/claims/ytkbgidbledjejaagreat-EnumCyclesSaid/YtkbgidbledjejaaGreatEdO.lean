/-
  Layer 4: which edges lead to other threads and locations, how many; whether all edges may be. No conditions.
-/
import Derived.Test.YtkbgidbledjejaaGreatCyA
namespace Go.Proofs.YtkbgidbledjejaaGreat.Ed
open Go.Sy
open Int (ofNat)
def D5 (e:E6):Bool:=Av (ile 1 e.kind) (ile e.kind 3)
def BY (e:E6):Bool:=Av (D5 e) e.ext
def BI (e:E6):Bool:=Av (AN (D5 e)) (AN e.same)
theorem Afw (e:E6):(AL (Ar tab (B7 Gl [] []) Tryz.f109 [eV e] [])).sem=(sel (ile 1 (e).kind) (sel (ile 1 (e).kind) (sel (ile 1 (e).kind) (sel (ile 1 (e).kind) (some ((bV (ile (e).kind 3)),[])) (some ((bV false),[]))) (sel (ile 1 (e).kind) (some (A7,[])) (some ((bV false),[])))) (sel (ile 1 (e).kind) none (sel (ile 1 (e).kind) (some (A7,[])) (some ((bV false),[]))))) (sel (ile 1 (e).kind) none (sel (ile 1 (e).kind) none (sel (ile 1 (e).kind) (some (A7,[])) (some ((bV false),[])))))):=by kernel_rfl
theorem p108:As Tryz.prog Gl 109 (Cm λe=>bV (D5 e)):=by
 refine As.congr (AQ A2 mixed Tryz.func109 (by kernel_rfl) (by kernel_rfl) (Γ:=B7 Gl [] []) (Bi Al.nil _)) λvs r h=>?_;obtain ⟨e,rfl,rfl⟩:=Dx h;refine (Afw e).trans ?_;unfold D5;cases ile 1 e.kind <;> rfl
theorem FM (i:Nat):ile 0 (ofNat i)=true:=OE (by simp)
noncomputable def AbW:AG:=(109,Cm λe=>bV (D5 e))::[]
theorem Y5:Al Tryz.prog Gl AbW:=.cons p108 .nil
theorem AiW (e:E6):(AL (Ar tab (B7 Gl AbW []) Tryz.f87 [eV e] [])).sem=(sel (D5 e) (sel (D5 e) (sel (D5 e) (some ((bV (e).ext),[])) (some ((bV false),[]))) (sel (D5 e) (some (A7,[])) (some ((bV false),[])))) (sel (D5 e) none (sel (D5 e) (some (A7,[])) (some ((bV false),[]))))):=by kernel_rfl
theorem p88:As Tryz.prog Gl 87 (Cm λe=>bV (BY e)):=by
 refine As.congr (AQ A2 mixed Tryz.func87 (by kernel_rfl) (by kernel_rfl) (Γ:=B7 Gl AbW []) (Bi Y5 _)) λvs r h=>?_;obtain ⟨e,rfl,rfl⟩:=Dx h;refine (AiW e).trans ?_;unfold BY;cases D5 e <;> rfl
theorem AiV (e:E6):(AL (Ar tab (B7 Gl AbW []) Tryz.f88 [eV e] [])).sem=(sel (AN (D5 e)) (sel (AN (D5 e)) (sel (AN (D5 e)) (sel (AN (D5 e)) (some ((bV (AN (e).same)),[])) (some ((bV false),[]))) (sel (AN (D5 e)) (some (A7,[])) (some ((bV false),[])))) (sel (AN (D5 e)) none (sel (AN (D5 e)) (some (A7,[])) (some ((bV false),[]))))) (sel (AN (D5 e)) none (sel (AN (D5 e)) none (sel (AN (D5 e)) (some (A7,[])) (some ((bV false),[])))))):=by kernel_rfl
theorem p89:As Tryz.prog Gl 88 (Cm λe=>bV (BI e)):=by
 refine As.congr (AQ A2 mixed Tryz.func88 (by kernel_rfl) (by kernel_rfl) (Γ:=B7 Gl AbW []) (Bi Y5 _)) λvs r h=>?_;obtain ⟨e,rfl,rfl⟩:=Dx h;refine (AiV e).trans ?_;unfold BI;cases D5 e <;> rfl
theorem Wz (e:E6):D5 e=bor (ieq e.kind 1) (bor (ieq e.kind 2) (ieq e.kind 3)):=by
 unfold D5;rw [Bool.eq_iff_iff];simp [Av,bor,ile,ieq];omega
theorem AiY (e:E6):(AL (Ar tab (B7 Gl [] []) Tryz.f47 [eV e] [])).sem=(sel (ieq (e).kind 1) (sel (ieq (e).kind 1) (sel (ieq (e).kind 1) (sel (ieq (e).kind 1) (some ((bV (e).ext),[])) none) none) none) (sel (ieq (e).kind 1) (sel (ieq (e).kind 1) (sel (ieq (e).kind 1) (some ((bV (e).ext),[])) none) none) (sel (ieq (e).kind 1) (sel (ieq (e).kind 1) (some ((bV (e).ext),[])) none) (sel (ieq (e).kind 1) (some ((bV (e).ext),[])) (sel (ieq (e).kind 2) (sel (ieq (e).kind 2) (sel (ieq (e).kind 2) (sel (ieq (e).kind 2) (some ((bV (e).ext),[])) none) none) none) (sel (ieq (e).kind 2) (sel (ieq (e).kind 2) (sel (ieq (e).kind 2) (some ((bV (e).ext),[])) none) none) (sel (ieq (e).kind 2) (sel (ieq (e).kind 2) (some ((bV (e).ext),[])) none) (sel (ieq (e).kind 2) (some ((bV (e).ext),[])) (sel (ieq (e).kind 3) (sel (ieq (e).kind 3) (sel (ieq (e).kind 3) (some ((bV (e).ext),[])) (some ((bV false),[]))) (sel (ieq (e).kind 3) (some (A7,[])) (some ((bV false),[])))) (sel (ieq (e).kind 3) none (sel (ieq (e).kind 3) (some (A7,[])) (some ((bV false),[]))))))))))))):=by kernel_rfl
theorem p60:As Tryz.prog Gl 47 (Cm λe=>bV (BY e)):=by
 refine As.congr (AQ A2 mixed Tryz.func47 (by kernel_rfl) (by kernel_rfl) (Γ:=B7 Gl [] []) (Bi Al.nil _)) λvs r h=>?_;obtain ⟨e,rfl,rfl⟩:=Dx h;refine (AiY e).trans ?_;unfold BY;rw [Wz];cases ieq e.kind 1 <;> cases ieq e.kind 2 <;> cases ieq e.kind 3 <;> rfl
theorem AiX (e:E6):(AL (Ar tab (B7 Gl [] []) Tryz.f48 [eV e] [])).sem=(sel (AN (ieq (e).kind 1)) (sel (AN (ieq (e).kind 1)) (sel (AN (ieq (e).kind 1)) (sel (AN (ieq (e).kind 1)) (sel (AN (ieq (e).kind 2)) (sel (AN (ieq (e).kind 2)) (sel (AN (ieq (e).kind 2)) (sel (AN (ieq (e).kind 2)) (sel (AN (ieq (e).kind 3)) (sel (AN (ieq (e).kind 3)) (sel (AN (ieq (e).kind 3)) (sel (AN (ieq (e).kind 3)) (some ((bV (AN (e).same)),[])) (some ((bV false),[]))) (sel (AN (ieq (e).kind 3)) (some (A7,[])) (some ((bV false),[])))) (sel (AN (ieq (e).kind 3)) none (sel (AN (ieq (e).kind 3)) (some (A7,[])) (some ((bV false),[]))))) (sel (AN (ieq (e).kind 3)) none (sel (AN (ieq (e).kind 3)) none (sel (AN (ieq (e).kind 3)) (some (A7,[])) (some ((bV false),[])))))) (some ((bV false),[]))) (sel (AN (ieq (e).kind 2)) none (some ((bV false),[])))) (sel (AN (ieq (e).kind 2)) none (sel (AN (ieq (e).kind 2)) none (some ((bV false),[]))))) (sel (AN (ieq (e).kind 2)) none (sel (AN (ieq (e).kind 2)) none (sel (AN (ieq (e).kind 2)) none (some ((bV false),[])))))) (some ((bV false),[]))) (sel (AN (ieq (e).kind 1)) none (some ((bV false),[])))) (sel (AN (ieq (e).kind 1)) none (sel (AN (ieq (e).kind 1)) none (some ((bV false),[]))))) (sel (AN (ieq (e).kind 1)) none (sel (AN (ieq (e).kind 1)) none (sel (AN (ieq (e).kind 1)) none (some ((bV false),[])))))):=by kernel_rfl
theorem p61:As Tryz.prog Gl 48 (Cm λe=>bV (BI e)):=by
 refine As.congr (AQ A2 mixed Tryz.func48 (by kernel_rfl) (by kernel_rfl) (Γ:=B7 Gl [] []) (Bi Al.nil _)) λvs r h=>?_;obtain ⟨e,rfl,rfl⟩:=Dx h;refine (AiX e).trans ?_;unfold BI;rw [Wz];cases ieq e.kind 1 <;> cases ieq e.kind 2 <;> cases ieq e.kind 3 <;> rfl
noncomputable def tbY:AG:=(45,Cm λe=>iV (AE e))::(87,Cm λe=>bV (BY e))::(88,Cm λe=>bV (BI e))::[]
theorem WS:Al Tryz.prog Gl tbY:=.cons p29 <| .cons p88 <| .cons p89 .nil
def PZ (n:Nat) (f:Nat->E6):Lp:=⟨bmK 21 0 [1,5,8,9,10],0,bmK 21 0 [5],0,n+1⟩
def US (n:Nat) (f:Nat->E6) (s:Int) (i:Nat) (j:Nat->V):St:=⟨jsV 21 0 j [(1,.fn 87 []),(5,iV s),(8,.sl 6 n (λi=>eV (f i))),(9,nV n),(10,nV i)],[]⟩
def XW (n:Nat) (f:Nat->E6) (s:Int) (i:Nat):Ex×St:=(.ex 0,⟨jsV 21 0 Ac [(5,iV s)],[]⟩)
noncomputable def M8 (L:LT):St->T (Ex×St):=λst=>A6 tab ⟨A5 tbY,L,Gl⟩ (Aw Tryz.f86 0) 0 st
section
variable (L:LT) (n:Nat) (f:Nat->E6) (s:Int) (i:Nat)  (j:Nat->V)
include L n f s i j
theorem AjM (h0:ilt (ofNat i) (ofNat n)=false):Am (M8 L) (PZ n f) (US n f s i j)=some ((.ex 0),⟨jsV 21 0 Ac [(5,iV s)],[]⟩):=by
 exact Ag (ks:=[kn h0]) (by kernel_rfl)
theorem AjK (h0:ilt (ofNat i) (ofNat n)=true) (h10:ile 0 (ofNat i)=true) (h1:BY (f i)=true):Am (M8 L) (PZ n f) (US n f s i j)=some (.nm,⟨jsV 21 0 Ac [(1,.fn 87 []),(5,iV (wr .i64 (Ai s 1))),(8,.sl 6 n (λi=>eV (f i))),(9,nV n),(10,iV (wr .i64 (Ai (ofNat i) 1)))],[]⟩):=by
 exact Ag (ks:=[kn h0,kA (kn h10) (kn h0),kn h1]) (by kernel_rfl)
theorem AjL (h0:ilt (ofNat i) (ofNat n)=true) (h10:ile 0 (ofNat i)=true) (h1:BY (f i)=false):Am (M8 L) (PZ n f) (US n f s i j)=some (.nm,⟨jsV 21 0 Ac [(1,.fn 87 []),(5,iV s),(8,.sl 6 n (λi=>eV (f i))),(9,nV n),(10,iV (wr .i64 (Ai (ofNat i) 1)))],[]⟩):=by
 exact Ag (ks:=[kn h0,kA (kn h10) (kn h0),kn h1]) (by kernel_rfl)
end
def An3 (n:Nat) (f:Nat->E6) :Nat->V:=lkV A7 [(0,.sl 6 n (λi=>eV (f i))),(4,iV 0)]
theorem Al0 (L:LT) (p0:PT) (n:Nat) (f:Nat->E6) (s:Int) (i:Nat)  (hp0:p0 (M8 (onP 0 p0 (XW n f s i) L)) (US n f 0 0 (An3 n f ))=true):(AL (Ar tab ⟨A5 tbY,onP 0 p0 (XW n f s i) L,Gl⟩ Tryz.f86 [Ap n f,.fn 87 []] [])).sem=some ((iV s),[]):=by
 exact Ag (ks:=[kn hp0]) (by kernel_rfl)
def Qa (n:Nat) (f:Nat->E6):Lp:=⟨bmK 21 0 [1,5,8,9,10],0,bmK 21 0 [5],0,n+1⟩
def UT (n:Nat) (f:Nat->E6) (s:Int) (i:Nat) (j:Nat->V):St:=⟨jsV 21 0 j [(1,.fn 88 []),(5,iV s),(8,.sl 6 n (λi=>eV (f i))),(9,nV n),(10,nV i)],[]⟩
def XX (n:Nat) (f:Nat->E6) (s:Int) (i:Nat):Ex×St:=(.ex 0,⟨jsV 21 0 Ac [(5,iV s)],[]⟩)
noncomputable def M9 (L:LT):St->T (Ex×St):=λst=>A6 tab ⟨A5 tbY,L,Gl⟩ (Aw Tryz.f86 0) 0 st
section
variable (L:LT) (n:Nat) (f:Nat->E6) (s:Int) (i:Nat)  (j:Nat->V)
include L n f s i j
theorem AjP (h0:ilt (ofNat i) (ofNat n)=false):Am (M9 L) (Qa n f) (UT n f s i j)=some ((.ex 0),⟨jsV 21 0 Ac [(5,iV s)],[]⟩):=by
 exact Ag (ks:=[kn h0]) (by kernel_rfl)
theorem AjN (h0:ilt (ofNat i) (ofNat n)=true) (h10:ile 0 (ofNat i)=true) (h1:BI (f i)=true):Am (M9 L) (Qa n f) (UT n f s i j)=some (.nm,⟨jsV 21 0 Ac [(1,.fn 88 []),(5,iV (wr .i64 (Ai s 1))),(8,.sl 6 n (λi=>eV (f i))),(9,nV n),(10,iV (wr .i64 (Ai (ofNat i) 1)))],[]⟩):=by
 exact Ag (ks:=[kn h0,kA (kn h10) (kn h0),kn h1]) (by kernel_rfl)
theorem AjO (h0:ilt (ofNat i) (ofNat n)=true) (h10:ile 0 (ofNat i)=true) (h1:BI (f i)=false):Am (M9 L) (Qa n f) (UT n f s i j)=some (.nm,⟨jsV 21 0 Ac [(1,.fn 88 []),(5,iV s),(8,.sl 6 n (λi=>eV (f i))),(9,nV n),(10,iV (wr .i64 (Ai (ofNat i) 1)))],[]⟩):=by
 exact Ag (ks:=[kn h0,kA (kn h10) (kn h0),kn h1]) (by kernel_rfl)
end
def An4 (n:Nat) (f:Nat->E6) :Nat->V:=lkV A7 [(0,.sl 6 n (λi=>eV (f i))),(4,iV 0)]
theorem Al1 (L:LT) (p0:PT) (n:Nat) (f:Nat->E6) (s:Int) (i:Nat)  (hp0:p0 (M9 (onP 0 p0 (XX n f s i) L)) (UT n f 0 0 (An4 n f ))=true):(AL (Ar tab ⟨A5 tbY,onP 0 p0 (XX n f s i) L,Gl⟩ Tryz.f86 [Ap n f,.fn 88 []] [])).sem=some ((iV s),[]):=by
 exact Ag (ks:=[kn hp0]) (by kernel_rfl)
def AA (p:Nat->Bool):Nat->Nat
 | 0=>0
 | i+1=>match p i with
  | true=>AA p i+1
  | false=>AA p i
theorem DU (p:Nat->Bool):∀ i,AA p i <= i
 | 0=>Nat.le_refl _
 | i+1=>by
  have:=DU p i;unfold AA;split <;> omega
theorem Xm (L:LT) (n:Nat) (f:Nat->E6) (hn:n <= 4611686018427387904):∀ (e i:Nat) (j:Nat->V) (q:Nat),n=i+e->e<q ->
  (Ax (M8 L) (PZ n f) q (US n f (ofNat (AA (λk=>BY (f k)) i)) i j)).sem=some (XW n f (ofNat (AA (λk=>BY (f k)) n)) 0)
 | 0,i,j,q+1,h,_=>by
  have:n=i:=by omega
  subst this;exact Ae (AjM L n f _ _ j (A1 (Nat.le_refl _)))
 | e+1,i,j,q+1,h,h2=>by
  have hc:=DU (λk=>BY (f k)) i;cases hp:BY (f i) with
  | true =>
   rw [Ae (AjK L n f _ i j (ofNat_lt (by omega)) (FM _) hp),AK,AT (show i<n by omega) hn,AT (show AA (λk=>BY (f k)) i<n by omega) hn,
    show AA (λk=>BY (f k)) i+1=AA (λk=>BY (f k)) (i+1) by rw [AA,hp]]
   exact Xm L n f hn e (i+1) Ac q (by omega) (by omega)
  | false =>
   rw [Ae (AjL L n f _ i j (ofNat_lt (by omega)) (FM _) hp),AK,AT (show i<n by omega) hn,
    show AA (λk=>BY (f k)) i=AA (λk=>BY (f k)) (i+1) by rw [AA,hp]]
   exact Xm L n f hn e (i+1) Ac q (by omega) (by omega)
theorem Xn (L:LT) (n:Nat) (f:Nat->E6) (hn:n <= 4611686018427387904):∀ (e i:Nat) (j:Nat->V) (q:Nat),n=i+e->e<q ->
  (Ax (M9 L) (Qa n f) q (UT n f (ofNat (AA (λk=>BI (f k)) i)) i j)).sem=some (XX n f (ofNat (AA (λk=>BI (f k)) n)) 0)
 | 0,i,j,q+1,h,_=>by
  have:n=i:=by omega
  subst this;exact Ae (AjP L n f _ _ j (A1 (Nat.le_refl _)))
 | e+1,i,j,q+1,h,h2=>by
  have hc:=DU (λk=>BI (f k)) i;cases hp:BI (f i) with
  | true =>
   rw [Ae (AjN L n f _ i j (ofNat_lt (by omega)) (FM _) hp),AK,AT (show i<n by omega) hn,AT (show AA (λk=>BI (f k)) i<n by omega) hn,
    show AA (λk=>BI (f k)) i+1=AA (λk=>BI (f k)) (i+1) by rw [AA,hp]]
   exact Xn L n f hn e (i+1) Ac q (by omega) (by omega)
  | false =>
   rw [Ae (AjO L n f _ i j (ofNat_lt (by omega)) (FM _) hp),AK,AT (show i<n by omega) hn,
    show AA (λk=>BI (f k)) i=AA (λk=>BI (f k)) (i+1) by rw [AA,hp]]
   exact Xn L n f hn e (i+1) Ac q (by omega) (by omega)
def Yj:List V->A3
 | [v,.fn g []]=>apL v λn f=>.br (BX n) (match Nat.beq g 87,Nat.beq g 88 with
  | true,_=>out (iV (ofNat (AA (λk=>BY (f k)) n)))
  | false,true=>out (iV (ofNat (AA (λk=>BI (f k)) n)))
  | false,false=>.fail) .fail
 | _=>.fail
theorem p87:As Tryz.prog Gl 86 Yj:=by
 refine Ah A2 mixed Tryz.func86 (by kernel_rfl) (by kernel_rfl) λvs v h' h=>?_;unfold Yj at h;split at h
 ·rename_i u g
  obtain ⟨n,f,ha,h1⟩:=Bd h;obtain ⟨hn,hq⟩:=Ab h1;clear h h1;have hn:n <= 4611686018427387904:=of_decide_eq_true hn;have hA:By [u,.fn g []] [Ap n f,.fn g []]:=λS w cs hv=>by
   obtain ⟨c,l,rfl,q1,q2⟩:=hv;exact ⟨c,l,rfl,ha S w c q1,q2⟩
  split at hq
  ·rename_i h1
   have h1:=Nat.eq_of_beq_eq_true h1;subst h1;have:=Aa hq;simp only [Prod.mk.injEq] at this;obtain ⟨rfl,rfl⟩:=this;have hx:=Bi WS [(0,PZ n f)];have hL:=AV [(0,PZ n f)];exact ⟨_,B7 Gl tbY [(0,PZ n f)],[],hA,rfl,hx.1,hx.2,Bh (Bg hL hL) _ (Al0 _ _ n f _ 0 (AB (Xm _ n f hn n 0 _ (n+1) (by omega) (by omega)))),Au.refl _⟩
  ·rename_i h2
   have h2:=Nat.eq_of_beq_eq_true h2;subst h2;have:=Aa hq;simp only [Prod.mk.injEq] at this;obtain ⟨rfl,rfl⟩:=this;have hx:=Bi WS [(0,Qa n f)];have hL:=AV [(0,Qa n f)];exact ⟨_,B7 Gl tbY [(0,Qa n f)],[],hA,rfl,hx.1,hx.2,Bh (Bg hL hL) _ (Al1 _ _ n f _ 0 (AB (Xn _ n f hn n 0 _ (n+1) (by omega) (by omega)))),Au.refl _⟩
  ·cases hq
 ·cases h
end Go.Proofs.YtkbgidbledjejaaGreat.Ed
namespace Go.Sy
end Go.Sy
namespace Go.Sy
inductive DW {α:Type} (r:α):DT α->Prop where
 | e {a:α} (h:a=r):DW r (.lf a)
 | k {b c:Bool} {d:DT α} (h:b=c) (w:DW r d):DW r (.kn b c d)
 | a {o:Option (Ex×St)} {q:Ex×St} {d:DT α} (h:o=some q) (w:DW r d):DW r (.ak o q d)
 | c {d e:DT α} (b:Bool) (w:b=true->DW r d) (u:b=false->DW r e):DW r (.sp d e)
theorem DW.l {α:Type} {r:α}:DW r (.lf r):=.e rfl
theorem DW.r {α:Type} {r:α} {b c:Bool} {d:DT α} (n:Nat) (h:b=c) (w:DW r d):DW r (DT.knR n b c d):=by
 induction n with
 | zero=>exact w
 | succ n ih=>exact .k h ih
theorem DW.ok {α:Type} {r:α} {d:DT α} (w:DW r d):∀ {t:T α},d.run t=some (d.cs,d.os,d.ls)->t.sem=some r:=by
 induction w with
 | e hab =>
  intro t h;cases t with
  | leaf b =>simp only [DT.run,DT.cs,DT.os,DT.ls,Option.some.injEq,Prod.mk.injEq,List.cons.injEq,and_true,true_and] at h;subst h;rw [hab];rfl
  | _=>cases h
 | k hb w ih =>
  rename_i b c d;intro t h;cases t with
  | br b' x y =>
   simp only [DT.run] at h;split at h
   ·rename_i hx
    simp only [DT.cs,DT.os,DT.ls,Option.some.injEq,Prod.mk.injEq,List.cons.injEq] at h;obtain ⟨⟨rfl,rfl⟩,rfl,rfl⟩:=h;subst hb;cases b' with
    | true=>exact (show x.sem=_ from ih hx)
    | false=>exact (show y.sem=_ from ih hx)
   ·cases h
  | _=>cases h
 | a ho w ih =>
  rename_i o q d;intro t h;cases t with
  | ask o' k =>
   simp only [DT.run] at h;split at h
   ·rename_i hx
    simp only [DT.cs,DT.os,DT.ls,Option.some.injEq,Prod.mk.injEq,List.cons.injEq] at h;obtain ⟨rfl,⟨rfl,rfl⟩,rfl⟩:=h;subst ho;exact (show (k q).sem=_ from ih hx)
   ·cases h
  | _=>cases h
 | c b w u ih ih' =>
  rename_i d e;intro t h;simp only [DT.run] at h;split at h
  ·rename_i hx hy
   simp only [DT.cs,DT.os,DT.ls,Option.some.injEq,Prod.mk.injEq] at h;obtain ⟨hc,ho,hl⟩:=h;obtain ⟨e1,e2,e3⟩:=DT.run_len hx;obtain ⟨rfl,rfl⟩:=List.append_inj hc e1;obtain ⟨rfl,rfl⟩:=List.append_inj ho e2;obtain ⟨rfl,rfl⟩:=List.append_inj hl e3;cases hb:b with
   | true=>exact ih hb hx
   | false=>exact ih' hb hy
  ·cases h
theorem DW.rd {f:St->T (Ex×St)} {lp:Lp} {st:St} {r:Ex×St} {d:DT (Ex×St)} (w:DW r d) (h:d.run ((f st).bind λr=>T.leaf (Aoe lp r))=some (d.cs,d.os,d.ls)):Am f lp st=some r:=w.ok h
theorem Cf {f:St->T (Ex×St)} {lp:Lp} {S:Nat->St} {m:Nat} {x:Ex×St} (hx:x.1 ≠ .nm) (h:∀ i,i<m->Am f lp (S i)=some (.nm,S (i+1))) (h0:Am f lp (S m)=some x) {q:Nat} (hq:m<q):(Ax f lp q (S 0)).sem=some x:=by
 have stop:∀ {o:Nat},Aeb f lp o (some x)=some x:=fun {o}=>by
  cases x with
  | mk e s=>cases e <;> first | exact absurd rfl hx | rfl
 have key:∀ d i q,i+d=m->d<q->(Ax f lp q (S i)).sem=some x:=λd=>by
  induction d with
  | zero =>
   intro i q hi hq;obtain ⟨q,rfl⟩:∃ o,q=o+1:=⟨q-1,by omega⟩;obtain rfl:i=m:=by omega
   rw [Ae h0,stop]
  | succ d ih =>intro i q hi hq;obtain ⟨q,rfl⟩:∃ o,q=o+1:=⟨q-1,by omega⟩;rw [Ae (h i (by omega))];exact ih (i+1) q (by omega) (by omega)
 exact key m 0 q (Nat.zero_add m) hq
theorem nm1 {α:Type} {f:α->St} {a a':α} (h:a=a'):(Ex.nm,f a)=(Ex.nm,f a'):=by rw [h]
theorem nm2 {α β:Type} {f:α->β->St} {a a':α} {b b':β} (h:a=a') (h2:b=b'):(Ex.nm,f a b)=(Ex.nm,f a' b'):=by rw [h,h2]
theorem nm3 {α β γ:Type} {f:α->β->γ->St} {a a':α} {b b':β} {c c':γ} (h:a=a') (h2:b=b') (h3:c=c'):(Ex.nm,f a b c)=(Ex.nm,f a' b' c'):=by rw [h,h2,h3]
theorem nm4 {α β γ δ:Type} {f:α->β->γ->δ->St} {a a':α} {b b':β} {c c':γ} {d d':δ} (h:a=a') (h2:b=b') (h3:c=c') (h4:d=d'):(Ex.nm,f a b c d)=(Ex.nm,f a' b' c' d'):=by rw [h,h2,h3,h4]
theorem Cs {i:Nat} (h:i <= 4611686018427387904):wr .i64 (Ai (Int.ofNat i) 1)=Int.ofNat (i+1):=by
 unfold wr Ai IntKind.wrap;simp [IntKind.bits,IntKind.signed];omega
end Go.Sy
namespace Go.Proofs.YtkbgidbledjejaaGreat.Ed
open Go.Sy
open Int (ofNat)
set_option maxRecDepth 100000
def Jp (a b:Int):Int:=sel (ilt a b) (-1) (sel (ilt b a) 1 0)
theorem p82:As Tryz.prog Gl 55 (ap2 gI gI λa b=>out (iV (Jp a b))):=by
 refine Ah A2 mixed Tryz.func55 (by kernel_rfl) (by kernel_rfl) λvs v h' h=>?_;obtain ⟨a,b,rfl,h⟩:=Hh K6 K6 h;cases Aa h;have hx:=Be (Al.nil:Al Tryz.prog Gl []) [] (G:=Gl);refine ⟨_,cxA Gl [] [],_,By.refl _,rfl,hx.1,hx.2,?_,Au.refl _⟩;unfold Jp;cases h1:ilt a b with
 | true=>exact DW.ok (.k h1 <| .l) (by kernel_rfl)
 | false =>
  cases h2:ilt b a with
  | true=>exact DW.ok (.k h1 <| .k h2 <| .l) (by kernel_rfl)
  | false=>exact DW.ok (.k h1 <| .k h2 <| .l) (by kernel_rfl)
theorem Dc {i n:Nat} (h:i<n):nlt i n=true:=by simpa [nlt] using h
theorem Aip {i:Int} (h:i=0):AN (ieq i 0)=false:=by rw [h]; rfl
theorem QO (n m:Nat) (f g:Nat->E6):∀ e,e <= n->e <= m->(∀ t,t<e->Ao (f t)=Ao (g t))->Mx (Cd n f) (Cd m g)=Mx ((Cd n f).drop e) ((Cd m g).drop e)
 | 0,_,_,_=>rfl
 | e+1,h1,h2,h=>by
  rw [QO n m f g e (by omega) (by omega) (λt ht=>h t (by omega)),Eh n e f (by omega),Eh m e g (by omega)];have:=h e (by omega);rcases SS (Ao (f e)) (Ao (g e)) ((Cd n f).drop (e+1)) ((Cd m g).drop (e+1)) with ⟨q,_⟩ | ⟨q,_⟩ | ⟨_,q⟩
  ·omega
  ·omega
  ·exact q
theorem ZH (n m:Nat) (f g:Nat->E6) (h:∀ t,t<min n m->Ao (f t)=Ao (g t)):Mx (Cd n f) (Cd m g)=Jp (ofNat n) (ofNat m):=by
 rw [QO n m f g (min n m) (by omega) (by omega) h];unfold Jp;rcases Nat.lt_trichotomy n m with h1 | h1 | h1
 ·rw [IS n _ f (by omega),Eh m _ g (by omega),ofNat_lt h1]
  rfl
 ·subst h1
  rw [IS n _ f (by omega),IS n _ g (by omega),A1 (Nat.le_refl n)];rfl
 ·rw [IS m _ g (by omega),Eh n _ f (by omega),ofNat_lt h1,A1 (Nat.le_of_lt h1)]
  rfl
theorem AeD (n m:Nat) (f g:Nat->E6) (e:Nat) (h1:e<n) (h2:e<m) (h:∀ t,t<e->Ao (f t)=Ao (g t)) (hne:Ao (f e) ≠ Ao (g e)):Mx (Cd n f) (Cd m g)=Jp (Ao (f e)) (Ao (g e)):=by
 rw [QO n m f g e (by omega) (by omega) h,Eh n e f h1,Eh m e g h2];unfold Jp;rcases SS (Ao (f e)) (Ao (g e)) ((Cd n f).drop (e+1)) ((Cd m g).drop (e+1)) with ⟨q,r⟩ | ⟨q,r⟩ | ⟨q,_⟩
 ·rw [r,IE q]; rfl
 ·rw [r,IE q,GV (by omega)]; rfl
 ·exact absurd q hne
theorem ZB (n m:Nat) (f g:Nat->E6):(∀ t,t<min n m->Ao (f t)=Ao (g t)) ∨ ∃ e,e<n∧e<m∧(∀ t,t<e->Ao (f t)=Ao (g t))∧Ao (f e) ≠ Ao (g e):=by
 cases h:Dl (min n m) λt=>ieq (Ao (f t)) (Ao (g t)) with
 | true=>exact .inl λt ht=>by simpa [ieq] using AS.1 h t ht
 | false =>obtain ⟨e,h1,h2,h3⟩:=Q8 _ _ h;exact .inr ⟨e,by omega,by omega,λt ht=>by simpa [ieq] using h3 t ht,by simpa [ieq] using h2⟩
def Ahe:List V->A3:=Ahp λn f m g=>.br (Cl n) (.br (Cl m) (out (.tup [iV (Ox n f m g),iV (Ahf n f m g)])) .fail) .fail
theorem SR {vs:List V} {r:V×List Blk} (h:(Ahe vs).sem=some r):∃ n f m g,By vs [Ap n f,Ap m g]∧Cl n=true∧Cl m=true∧r=(.tup [iV (Ox n f m g),iV (Ahf n f m g)],[]):=by
 obtain ⟨n,f,m,g,ha,h⟩:=Kr h;obtain ⟨hn,h⟩:=Ab h;obtain ⟨hm,h⟩:=Ab h;exact ⟨n,f,m,g,ha,hn,hm,Aa h⟩
noncomputable def AlU:AG:=(93,QK)::[]
theorem AfE:Al Tryz.prog Gl AlU:=.cons p81 .nil
def Adw:Lp:=⟨bmK 69 0 [4,5,6,8,10],2,bmK 69 0 [4,5,6,8],2,4611686018427387905⟩
noncomputable abbrev AnZ:Cx:=cxA Gl AlU [(0,Adw,[])]
noncomputable def B63:St->T (Ex×St):=λst=>A6 tab AnZ (Aw Tryz.f63 0) 0 st
section
variable (n:Nat) (f:Nat->E6) (m:Nat) (g:Nat->E6)
def S63 (l:List (Nat×V)) (r:Int):St:=⟨jsV 69 0 Ac ([(4,iV r),(5,iV 0),(6,.ref 0),(8,.ref 1)]++l),[.row 3 1 n λi=>iV (Ao (f i)),.row 3 1 m λi=>iV (Ao (g i))]⟩
variable {n f m g}
theorem g63 {i:Nat} (hn:n <= 4611686018427387904) (h1:i<n) (h2:i<m) (h:Ao (f i)=Ao (g i)):Am B63 Adw (S63 n f m g [(10,nV i)] 0)=some (.nm,S63 n f m g [(10,iV (ofNat (i+1)))] 0):=by
 have a:ilt (Ao (f i)) (Ao (g i))=false:=GV (by omega);have b:ilt (Ao (g i)) (Ao (f i))=false:=GV (by omega);exact DW.rd (.r 5 (ofNat_lt h1) <| .k (ofNat_lt h2) <| .k (Af h1) <| .k (Dc h1) <| .k (Af h2) <| .k (Dc h2) <| .k a <| .k (Af h1) <| .k (Dc h1) <| .k (Af h2) <| .k (Dc h2) <| .k b <| .e (nm1 (f:=λz=>S63 n f m g [(10,iV z)] 0) (Cs (by omega)))) (by kernel_rfl)
theorem x63 {i:Nat} (h:i=min n m):Am B63 Adw (S63 n f m g [(10,nV i)] 0)=some (.ex 0,S63 n f m g [] 0):=by
 by_cases h1:i<n
 ·exact DW.rd (.r 5 (ofNat_lt h1) <| .k (A1 (i:=i) (n:=m) (by omega)) <| .l) (by kernel_rfl)
 ·exact DW.rd (.r 5 (A1 (i:=i) (n:=n) (by omega)) <| .k eF <| .l) (by kernel_rfl)
theorem d63 {i:Nat} (h1:i<n) (h2:i<m) (h:Ao (f i) ≠ Ao (g i)):Am B63 Adw (S63 n f m g [(10,nV i)] 0)=some (.rt,S63 n f m g [] (Jp (Ao (f i)) (Ao (g i)))):=by
 unfold Jp;rcases Int.lt_or_gt_of_ne h with hl | hl
 ·have a:=IE hl
  rw [a];exact DW.rd (.r 5 (ofNat_lt h1) <| .k (ofNat_lt h2) <| .k (Af h1) <| .k (Dc h1) <| .k (Af h2) <| .k (Dc h2) <| .k a <| .l) (by kernel_rfl)
 ·have a:=GV (Int.le_of_lt hl)
  have b:=IE hl;rw [a,b];exact DW.rd (.r 5 (ofNat_lt h1) <| .k (ofNat_lt h2) <| .k (Af h1) <| .k (Dc h1) <| .k (Af h2) <| .k (Dc h2) <| .k a <| .k (Af h1) <| .k (Dc h1) <| .k (Af h2) <| .k (Dc h2) <| .k b <| .l) (by kernel_rfl)
end
theorem p38:As Tryz.prog Gl 63 Ahe:=by
 refine Ah A2 mixed Tryz.func63 (by kernel_rfl) (by kernel_rfl) λvs v h' h=>?_;obtain ⟨n,f,m,g,ha,hn,hm,hr⟩:=SR h;cases hr;have hx:=Be AfE [(0,Adw,[])] (G:=Gl);refine ⟨[Ap n f,Ap m g],AnZ,_,ha,rfl,hx.1,hx.2,?_,Au.refl _⟩;have hs:=Et hn;have z:AN (ieq 0 0)=false:=rfl;have z3:AN (ieq 30 0)=true:=rfl;unfold Ox Ahf;cases h1:BF n f with
 | false =>
  cases h2:BF m g with
  | false=>exact DW.ok (.k (eL n) <| .k hn <| .k h1 <| .k (eL m) <| .k hm <| .k h2 <| .r 3 z3 <| .k eT <| .l) (by kernel_rfl)
  | true=>exact DW.ok (.k (eL n) <| .k hn <| .k h1 <| .k (eL m) <| .k hm <| .k h2 <| .r 3 z3 <| .k eT <| .l) (by kernel_rfl)
 | true =>
  cases h2:BF m g with
  | false=>exact DW.ok (.k (eL n) <| .k hn <| .k h1 <| .k (eL m) <| .k hm <| .k h2 <| .r 3 z <| .k z3 <| .l) (by kernel_rfl)
  | true =>
   show _=some (V.tup [iV (Mx (Cd n f) (Cd m g)),iV 0],[]);rcases ZB n m f g with hd | ⟨e,he,he',hd,hne⟩
   ·have hr:=Cf (S:=λi=>S63 n f m g [(10,nV i)] 0) (m:=min n m) (q:=4611686018427387905) (λh=>by cases h) (λi hi=>g63 hs (by omega) (by omega) (hd i hi)) (x63 rfl) (by omega)
    rw [ZH n m f g hd];unfold Jp;cases h3:ilt (ofNat n) (ofNat m) with
    | true=>exact DW.ok (.k (eL n) <| .k hn <| .k h1 <| .k (eL m) <| .k hm <| .k h2 <| .r 4 z <| .a hr <| .k h3 <| .l) (by kernel_rfl)
    | false =>
     cases h4:ilt (ofNat m) (ofNat n) with
     | true=>exact DW.ok (.k (eL n) <| .k hn <| .k h1 <| .k (eL m) <| .k hm <| .k h2 <| .r 4 z <| .a hr <| .k h3 <| .k h4 <| .l) (by kernel_rfl)
     | false=>exact DW.ok (.k (eL n) <| .k hn <| .k h1 <| .k (eL m) <| .k hm <| .k h2 <| .r 4 z <| .a hr <| .k h3 <| .k h4 <| .l) (by kernel_rfl)
   ·have hr:=Cf (S:=λi=>S63 n f m g [(10,nV i)] 0) (m:=e) (q:=4611686018427387905) (λh=>by cases h) (λi hi=>g63 hs (by omega) (by omega) (hd i hi)) (d63 he he' hne) (by omega)
    rw [AeD n m f g e he he' hd hne];exact DW.ok (.k (eL n) <| .k hn <| .k h1 <| .k (eL m) <| .k hm <| .k h2 <| .r 4 z <| .a hr <| .l) (by kernel_rfl)
noncomputable def Amd:AG:=(45,Cm λe=>iV (AE e))::(54,Cm K9)::(55,ap2 gI gI λa b=>out (iV (Jp a b)))::[]
theorem AfW:Al Tryz.prog Gl Amd:=.cons p29 <| .cons p25 <| .cons p82 .nil
def KR (i:Nat):Lp:=⟨bmK 76 0 [0,1,4,5,i],0,bmK 76 0 [0,1,4,5],0,4611686018427387905⟩
noncomputable abbrev Aod:Cx:=cxA Gl Amd [(0,KR 6,[]),(2,KR 7,[]),(4,KR 8,[])]
noncomputable def B25 (id:Nat):St->T (Ex×St):=λst=>A6 tab Aod (Aw Tryz.f25 id) id st
section
variable (n:Nat) (f:Nat->E6) (m:Nat) (g:Nat->E6)
def S25 (l:List (Nat×V)) (r e:Int):St:=⟨jsV 76 0 Ac ([(0,Ap n f),(1,Ap m g),(4,iV r),(5,iV e)]++l),[]⟩
variable {n f m g}
theorem Ait {i:Nat} (hn:n <= 4611686018427387904) (h1:i<n) (h:AE (f i)=0):Am (B25 0) (KR 6) (S25 n f m g [(6,nV i)] 0 0)=some (.nm,S25 n f m g [(6,iV (ofNat (i+1)))] 0 0) :=
 DW.rd (.k (ofNat_lt h1) <| .k (Af h1) <| .k (Aip h) <| .e (nm1 (f:=λz=>S25 n f m g [(6,iV z)] 0 0) (Cs (by omega)))) (by kernel_rfl)
theorem Ais {i:Nat} (hn:m <= 4611686018427387904) (h1:i<m) (h:AE (g i)=0):Am (B25 2) (KR 7) (S25 n f m g [(7,nV i)] 0 0)=some (.nm,S25 n f m g [(7,iV (ofNat (i+1)))] 0 0) :=
 DW.rd (.k (ofNat_lt h1) <| .k (Af h1) <| .k (Aip h) <| .e (nm1 (f:=λz=>S25 n f m g [(7,iV z)] 0 0) (Cs (by omega)))) (by kernel_rfl)
theorem Alw:Am (B25 0) (KR 6) (S25 n f m g [(6,nV n)] 0 0)=some (.ex 0,S25 n f m g [] 0 0):=DW.rd (.k (A1 (Nat.le_refl n)) <| .l) (by kernel_rfl)
theorem Alv:Am (B25 2) (KR 7) (S25 n f m g [(7,nV m)] 0 0)=some (.ex 2,S25 n f m g [] 0 0):=DW.rd (.k (A1 (Nat.le_refl m)) <| .l) (by kernel_rfl)
theorem AdV {i:Int} (h:i=30):AN (ieq i 0)=true:=by rw [h]; rfl
theorem AnS {i:Nat} (h1:i<n) (h:AE (f i)=30):Am (B25 0) (KR 6) (S25 n f m g [(6,nV i)] 0 0)=some (.rt,S25 n f m g [] 0 30):=DW.rd (.k (ofNat_lt h1) <| .k (Af h1) <| .k (AdV h) <| .l) (by kernel_rfl)
theorem AnR {i:Nat} (h1:i<m) (h:AE (g i)=30):Am (B25 2) (KR 7) (S25 n f m g [(7,nV i)] 0 0)=some (.rt,S25 n f m g [] 0 30):=DW.rd (.k (ofNat_lt h1) <| .k (Af h1) <| .k (AdV h) <| .l) (by kernel_rfl)
theorem Air {i:Nat} (hn:n <= 4611686018427387904) (h1:i<n) (h2:i<m) (h:Ao (f i)=Ao (g i)):Am (B25 4) (KR 8) (S25 n f m g [(8,nV i)] 0 0)=some (.nm,S25 n f m g [(8,iV (ofNat (i+1)))] 0 0):=by
 have a:AN (ieq (Ao (f i)) (Ao (g i)))=false:=by rw [h]; exact eN (eI _)
 exact DW.rd (.r 5 (ofNat_lt h1) <| .k (ofNat_lt h2) <| .k (Af h1) <| .k (Af h2) <| .k a <| .e (nm1 (f:=λz=>S25 n f m g [(8,iV z)] 0 0) (Cs (by omega)))) (by kernel_rfl)
theorem Alu {i:Nat} (h:i=min n m):Am (B25 4) (KR 8) (S25 n f m g [(8,nV i)] 0 0)=some (.ex 4,S25 n f m g [] 0 0):=by
 by_cases h1:i<n
 ·exact DW.rd (.r 5 (ofNat_lt h1) <| .k (A1 (i:=i) (n:=m) (by omega)) <| .l) (by kernel_rfl)
 ·exact DW.rd (.r 5 (A1 (i:=i) (n:=n) (by omega)) <| .k eF <| .l) (by kernel_rfl)
theorem AnV {i:Nat} (h1:i<n) (h2:i<m) (h:Ao (f i) ≠ Ao (g i)):Am (B25 4) (KR 8) (S25 n f m g [(8,nV i)] 0 0)=some (.rt,S25 n f m g [] (Jp (Ao (f i)) (Ao (g i))) 0):=by
 have a:AN (ieq (Ao (f i)) (Ao (g i)))=true:=by rw [show ieq (Ao (f i)) (Ao (g i))=false from decide_eq_false h]; rfl
 exact DW.rd (.r 5 (ofNat_lt h1) <| .k (ofNat_lt h2) <| .k (Af h1) <| .k (Af h2) <| .k a <| .l) (by kernel_rfl)
end
theorem p39:As Tryz.prog Gl 25 Ahe:=by
 refine Ah A2 mixed Tryz.func25 (by kernel_rfl) (by kernel_rfl) λvs v h' h=>?_;obtain ⟨n,f,m,g,ha,hn,hm,hr⟩:=SR h;cases hr;have hx:=Be AfW [(0,KR 6,[]),(2,KR 7,[]),(4,KR 8,[])] (G:=Gl);refine ⟨[Ap n f,Ap m g],Aod,_,ha,rfl,hx.1,hx.2,?_,Au.refl _⟩;have hs:=Et hn;have hs':=Et hm;unfold Ox Ahf;cases h1:BF n f with
 | false =>obtain ⟨e,k1,k2,k3⟩:=PS h1;have r0:=Cf (S:=λi=>S25 n f m g [(6,nV i)] 0 0) (m:=e) (q:=4611686018427387905) (λh=>by cases h) (λi hi=>Ait hs (by omega) (k3 i hi)) (AnS k1 k2) (by omega);exact DW.ok (.a r0 <| .l) (by kernel_rfl)
 | true =>
  have r0:=Cf (S:=λi=>S25 n f m g [(6,nV i)] 0 0) (m:=n) (q:=4611686018427387905) (λh=>by cases h) (λi hi=>Ait hs hi (BO.1 h1 i hi)) Alw (by omega);cases h2:BF m g with
  | false =>obtain ⟨e,k1,k2,k3⟩:=PS h2;have r2:=Cf (S:=λi=>S25 n f m g [(7,nV i)] 0 0) (m:=e) (q:=4611686018427387905) (λh=>by cases h) (λi hi=>Ais hs' (by omega) (k3 i hi)) (AnR k1 k2) (by omega);exact DW.ok (.a r0 <| .a r2 <| .l) (by kernel_rfl)
  | true =>
   have r2:=Cf (S:=λi=>S25 n f m g [(7,nV i)] 0 0) (m:=m) (q:=4611686018427387905) (λh=>by cases h) (λi hi=>Ais hs' hi (BO.1 h2 i hi)) Alv (by omega);show _=some (V.tup [iV (Mx (Cd n f) (Cd m g)),iV 0],[]);rcases ZB n m f g with hd | ⟨e,he,he',hd,hne⟩
   ·have r4:=Cf (S:=λi=>S25 n f m g [(8,nV i)] 0 0) (m:=min n m) (q:=4611686018427387905) (λh=>by cases h) (λi hi=>Air hs (by omega) (by omega) (hd i hi)) (Alu rfl) (by omega)
    rw [ZH n m f g hd];exact DW.ok (.a r0 <| .a r2 <| .a r4 <| .l) (by kernel_rfl)
   ·have r4:=Cf (S:=λi=>S25 n f m g [(8,nV i)] 0 0) (m:=e) (q:=4611686018427387905) (λh=>by cases h) (λi hi=>Air hs (by omega) (by omega) (hd i hi)) (AnV he he' hne) (by omega)
    rw [AeD n m f g e he he' hd hne];exact DW.ok (.a r0 <| .a r2 <| .a r4 <| .l) (by kernel_rfl)
end Go.Proofs.YtkbgidbledjejaaGreat.Ed
