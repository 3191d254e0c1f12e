/-
  Layer 4: which edges lead to other threads and locations, how many; whether all edges may be. No conditions.
-/
import Derived.Test.YtkbgidbledjejaaGreatCyA
namespace Go.Proofs.YtkbgidbledjejaaGreat.Ed
open Go.Sy
open Int (ofNat)
def Dz (e:E6):Bool:=Av (ile 1 e.kind) (ile e.kind 3)
def BW (e:E6):Bool:=Av (Dz e) e.ext
def BK (e:E6):Bool:=Av (AI (Dz e)) (AI e.same)
theorem AeE (e:E6):(AM (Au tab (BQ Gl [] []) Tryz.f109 [eV e] [])).sem=(sel (ile 1 (e).kind) (sel (ile 1 (e).kind) (sel (ile 1 (e).kind) (sel (ile 1 (e).kind) (some ((bV (ile (e).kind 3)),[])) (some ((bV false),[]))) (sel (ile 1 (e).kind) (some (A7,[])) (some ((bV false),[])))) (sel (ile 1 (e).kind) none (sel (ile 1 (e).kind) (some (A7,[])) (some ((bV false),[]))))) (sel (ile 1 (e).kind) none (sel (ile 1 (e).kind) none (sel (ile 1 (e).kind) (some (A7,[])) (some ((bV false),[])))))):=by kernel_rfl
theorem p108:Ar Tryz.prog Gl 109 (Cj λe=>bV (Dz e)):=by
 refine Ar.congr (AN A0 mixed Tryz.func109 (by kernel_rfl) (by kernel_rfl) (Γ:=BQ Gl [] []) (Bu Al.nil _)) λvs r h=>?_;obtain ⟨e,rfl,rfl⟩:=Dq h;refine (AeE e).trans ?_;unfold Dz;cases ile 1 e.kind <;> rfl
theorem Hu (i:Nat):ile 0 (ofNat i)=true:=O5 (by simp)
noncomputable def Abu:AD:=(109,Cj λe=>bV (Dz e))::[]
theorem Yf:Al Tryz.prog Gl Abu:=.cons p108 .nil
theorem AhU (e:E6):(AM (Au tab (BQ Gl Abu []) Tryz.f87 [eV e] [])).sem=(sel (Dz e) (sel (Dz e) (sel (Dz e) (some ((bV (e).ext),[])) (some ((bV false),[]))) (sel (Dz e) (some (A7,[])) (some ((bV false),[])))) (sel (Dz e) none (sel (Dz e) (some (A7,[])) (some ((bV false),[]))))):=by kernel_rfl
theorem p88:Ar Tryz.prog Gl 87 (Cj λe=>bV (BW e)):=by
 refine Ar.congr (AN A0 mixed Tryz.func87 (by kernel_rfl) (by kernel_rfl) (Γ:=BQ Gl Abu []) (Bu Yf _)) λvs r h=>?_;obtain ⟨e,rfl,rfl⟩:=Dq h;refine (AhU e).trans ?_;unfold BW;cases Dz e <;> rfl
theorem AhT (e:E6):(AM (Au tab (BQ Gl Abu []) Tryz.f88 [eV e] [])).sem=(sel (AI (Dz e)) (sel (AI (Dz e)) (sel (AI (Dz e)) (sel (AI (Dz e)) (some ((bV (AI (e).same)),[])) (some ((bV false),[]))) (sel (AI (Dz e)) (some (A7,[])) (some ((bV false),[])))) (sel (AI (Dz e)) none (sel (AI (Dz e)) (some (A7,[])) (some ((bV false),[]))))) (sel (AI (Dz e)) none (sel (AI (Dz e)) none (sel (AI (Dz e)) (some (A7,[])) (some ((bV false),[])))))):=by kernel_rfl
theorem p89:Ar Tryz.prog Gl 88 (Cj λe=>bV (BK e)):=by
 refine Ar.congr (AN A0 mixed Tryz.func88 (by kernel_rfl) (by kernel_rfl) (Γ:=BQ Gl Abu []) (Bu Yf _)) λvs r h=>?_;obtain ⟨e,rfl,rfl⟩:=Dq h;refine (AhT e).trans ?_;unfold BK;cases Dz e <;> rfl
theorem Wc (e:E6):Dz e=bor (ieq e.kind 1) (bor (ieq e.kind 2) (ieq e.kind 3)):=by
 unfold Dz;rw [Bool.eq_iff_iff];simp [Av,bor,ile,ieq];omega
theorem AhW (e:E6):(AM (Au tab (BQ Gl [] []) Tryz.f47 [eV e] [])).sem=(sel (ieq (e).kind 1) (sel (ieq (e).kind 1) (sel (ieq (e).kind 1) (sel (ieq (e).kind 1) (some ((bV (e).ext),[])) none) none) none) (sel (ieq (e).kind 1) (sel (ieq (e).kind 1) (sel (ieq (e).kind 1) (some ((bV (e).ext),[])) none) none) (sel (ieq (e).kind 1) (sel (ieq (e).kind 1) (some ((bV (e).ext),[])) none) (sel (ieq (e).kind 1) (some ((bV (e).ext),[])) (sel (ieq (e).kind 2) (sel (ieq (e).kind 2) (sel (ieq (e).kind 2) (sel (ieq (e).kind 2) (some ((bV (e).ext),[])) none) none) none) (sel (ieq (e).kind 2) (sel (ieq (e).kind 2) (sel (ieq (e).kind 2) (some ((bV (e).ext),[])) none) none) (sel (ieq (e).kind 2) (sel (ieq (e).kind 2) (some ((bV (e).ext),[])) none) (sel (ieq (e).kind 2) (some ((bV (e).ext),[])) (sel (ieq (e).kind 3) (sel (ieq (e).kind 3) (sel (ieq (e).kind 3) (some ((bV (e).ext),[])) (some ((bV false),[]))) (sel (ieq (e).kind 3) (some (A7,[])) (some ((bV false),[])))) (sel (ieq (e).kind 3) none (sel (ieq (e).kind 3) (some (A7,[])) (some ((bV false),[]))))))))))))):=by kernel_rfl
theorem p60:Ar Tryz.prog Gl 47 (Cj λe=>bV (BW e)):=by
 refine Ar.congr (AN A0 mixed Tryz.func47 (by kernel_rfl) (by kernel_rfl) (Γ:=BQ Gl [] []) (Bu Al.nil _)) λvs r h=>?_;obtain ⟨e,rfl,rfl⟩:=Dq h;refine (AhW e).trans ?_;unfold BW;rw [Wc];cases ieq e.kind 1 <;> cases ieq e.kind 2 <;> cases ieq e.kind 3 <;> rfl
theorem AhV (e:E6):(AM (Au tab (BQ Gl [] []) Tryz.f48 [eV e] [])).sem=(sel (AI (ieq (e).kind 1)) (sel (AI (ieq (e).kind 1)) (sel (AI (ieq (e).kind 1)) (sel (AI (ieq (e).kind 1)) (sel (AI (ieq (e).kind 2)) (sel (AI (ieq (e).kind 2)) (sel (AI (ieq (e).kind 2)) (sel (AI (ieq (e).kind 2)) (sel (AI (ieq (e).kind 3)) (sel (AI (ieq (e).kind 3)) (sel (AI (ieq (e).kind 3)) (sel (AI (ieq (e).kind 3)) (some ((bV (AI (e).same)),[])) (some ((bV false),[]))) (sel (AI (ieq (e).kind 3)) (some (A7,[])) (some ((bV false),[])))) (sel (AI (ieq (e).kind 3)) none (sel (AI (ieq (e).kind 3)) (some (A7,[])) (some ((bV false),[]))))) (sel (AI (ieq (e).kind 3)) none (sel (AI (ieq (e).kind 3)) none (sel (AI (ieq (e).kind 3)) (some (A7,[])) (some ((bV false),[])))))) (some ((bV false),[]))) (sel (AI (ieq (e).kind 2)) none (some ((bV false),[])))) (sel (AI (ieq (e).kind 2)) none (sel (AI (ieq (e).kind 2)) none (some ((bV false),[]))))) (sel (AI (ieq (e).kind 2)) none (sel (AI (ieq (e).kind 2)) none (sel (AI (ieq (e).kind 2)) none (some ((bV false),[])))))) (some ((bV false),[]))) (sel (AI (ieq (e).kind 1)) none (some ((bV false),[])))) (sel (AI (ieq (e).kind 1)) none (sel (AI (ieq (e).kind 1)) none (some ((bV false),[]))))) (sel (AI (ieq (e).kind 1)) none (sel (AI (ieq (e).kind 1)) none (sel (AI (ieq (e).kind 1)) none (some ((bV false),[])))))):=by kernel_rfl
theorem p61:Ar Tryz.prog Gl 48 (Cj λe=>bV (BK e)):=by
 refine Ar.congr (AN A0 mixed Tryz.func48 (by kernel_rfl) (by kernel_rfl) (Γ:=BQ Gl [] []) (Bu Al.nil _)) λvs r h=>?_;obtain ⟨e,rfl,rfl⟩:=Dq h;refine (AhV e).trans ?_;unfold BK;rw [Wc];cases ieq e.kind 1 <;> cases ieq e.kind 2 <;> cases ieq e.kind 3 <;> rfl
noncomputable def tbY:AD:=(45,Cj λe=>iV (AA e))::(87,Cj λe=>bV (BW e))::(88,Cj λe=>bV (BK e))::[]
theorem W3:Al Tryz.prog Gl tbY:=.cons p29 <| .cons p88 <| .cons p89 .nil
def PG (n:Nat) (f:Nat->E6):Lp:=⟨bmK 21 0 [1,5,8,9,10],0,bmK 21 0 [5],0,n+1⟩
def UD (n:Nat) (f:Nat->E6) (s:Int) (i:Nat) (j:Nat->V):St:=⟨jsV 21 0 j [(1,.fn 87 []),(5,iV s),(8,.sl 6 n (λi=>eV (f i))),(9,nV n),(10,nV i)],[]⟩
def X4 (n:Nat) (f:Nat->E6) (s:Int) (i:Nat):Ex×St:=(.ex 0,⟨jsV 21 0 Ac [(5,iV s)],[]⟩)
noncomputable def M1 (L:LT):St->T (Ex×St):=λst=>A8 tab ⟨A9 tbY,L,Gl⟩ (A1 Tryz.f86 0) 0 st
section
variable (L:LT) (n:Nat) (f:Nat->E6) (s:Int) (i:Nat)  (j:Nat->V)
include L n f s i j
theorem Ai4 (h0:ilt (ofNat i) (ofNat n)=false):Ap (M1 L) (PG n f) (UD n f s i j)=some ((.ex 0),⟨jsV 21 0 Ac [(5,iV s)],[]⟩):=by
 exact Ag (ks:=[kn h0]) (by kernel_rfl)
theorem Ai2 (h0:ilt (ofNat i) (ofNat n)=true) (h10:ile 0 (ofNat i)=true) (h1:BW (f i)=true):Ap (M1 L) (PG n f) (UD n f s i j)=some (.nm,⟨jsV 21 0 Ac [(1,.fn 87 []),(5,iV (wr .i64 (Am s 1))),(8,.sl 6 n (λi=>eV (f i))),(9,nV n),(10,iV (wr .i64 (Am (ofNat i) 1)))],[]⟩):=by
 exact Ag (ks:=[kn h0,kA (kn h10) (kn h0),kn h1]) (by kernel_rfl)
theorem Ai3 (h0:ilt (ofNat i) (ofNat n)=true) (h10:ile 0 (ofNat i)=true) (h1:BW (f i)=false):Ap (M1 L) (PG n f) (UD n f s i j)=some (.nm,⟨jsV 21 0 Ac [(1,.fn 87 []),(5,iV s),(8,.sl 6 n (λi=>eV (f i))),(9,nV n),(10,iV (wr .i64 (Am (ofNat i) 1)))],[]⟩):=by
 exact Ag (ks:=[kn h0,kA (kn h10) (kn h0),kn h1]) (by kernel_rfl)
end
def Aml (n:Nat) (f:Nat->E6) :Nat->V:=lkV A7 [(0,.sl 6 n (λi=>eV (f i))),(4,iV 0)]
theorem Akm (L:LT) (p0:PT) (n:Nat) (f:Nat->E6) (s:Int) (i:Nat)  (hp0:p0 (M1 (onP 0 p0 (X4 n f s i) L)) (UD n f 0 0 (Aml n f ))=true):(AM (Au tab ⟨A9 tbY,onP 0 p0 (X4 n f s i) L,Gl⟩ Tryz.f86 [Ao n f,.fn 87 []] [])).sem=some ((iV s),[]):=by
 exact Ag (ks:=[kn hp0]) (by kernel_rfl)
def PH (n:Nat) (f:Nat->E6):Lp:=⟨bmK 21 0 [1,5,8,9,10],0,bmK 21 0 [5],0,n+1⟩
def UE (n:Nat) (f:Nat->E6) (s:Int) (i:Nat) (j:Nat->V):St:=⟨jsV 21 0 j [(1,.fn 88 []),(5,iV s),(8,.sl 6 n (λi=>eV (f i))),(9,nV n),(10,nV i)],[]⟩
def X5 (n:Nat) (f:Nat->E6) (s:Int) (i:Nat):Ex×St:=(.ex 0,⟨jsV 21 0 Ac [(5,iV s)],[]⟩)
noncomputable def M3 (L:LT):St->T (Ex×St):=λst=>A8 tab ⟨A9 tbY,L,Gl⟩ (A1 Tryz.f86 0) 0 st
section
variable (L:LT) (n:Nat) (f:Nat->E6) (s:Int) (i:Nat)  (j:Nat->V)
include L n f s i j
theorem Ai7 (h0:ilt (ofNat i) (ofNat n)=false):Ap (M3 L) (PH n f) (UE n f s i j)=some ((.ex 0),⟨jsV 21 0 Ac [(5,iV s)],[]⟩):=by
 exact Ag (ks:=[kn h0]) (by kernel_rfl)
theorem Ai5 (h0:ilt (ofNat i) (ofNat n)=true) (h10:ile 0 (ofNat i)=true) (h1:BK (f i)=true):Ap (M3 L) (PH n f) (UE n f s i j)=some (.nm,⟨jsV 21 0 Ac [(1,.fn 88 []),(5,iV (wr .i64 (Am s 1))),(8,.sl 6 n (λi=>eV (f i))),(9,nV n),(10,iV (wr .i64 (Am (ofNat i) 1)))],[]⟩):=by
 exact Ag (ks:=[kn h0,kA (kn h10) (kn h0),kn h1]) (by kernel_rfl)
theorem Ai6 (h0:ilt (ofNat i) (ofNat n)=true) (h10:ile 0 (ofNat i)=true) (h1:BK (f i)=false):Ap (M3 L) (PH n f) (UE n f s i j)=some (.nm,⟨jsV 21 0 Ac [(1,.fn 88 []),(5,iV s),(8,.sl 6 n (λi=>eV (f i))),(9,nV n),(10,iV (wr .i64 (Am (ofNat i) 1)))],[]⟩):=by
 exact Ag (ks:=[kn h0,kA (kn h10) (kn h0),kn h1]) (by kernel_rfl)
end
def Amm (n:Nat) (f:Nat->E6) :Nat->V:=lkV A7 [(0,.sl 6 n (λi=>eV (f i))),(4,iV 0)]
theorem Akn (L:LT) (p0:PT) (n:Nat) (f:Nat->E6) (s:Int) (i:Nat)  (hp0:p0 (M3 (onP 0 p0 (X5 n f s i) L)) (UE n f 0 0 (Amm n f ))=true):(AM (Au tab ⟨A9 tbY,onP 0 p0 (X5 n f s i) L,Gl⟩ Tryz.f86 [Ao n f,.fn 88 []] [])).sem=some ((iV s),[]):=by
 exact Ag (ks:=[kn hp0]) (by kernel_rfl)
def AC (p:Nat->Bool):Nat->Nat
 | 0=>0
 | i+1=>match p i with
  | true=>AC p i+1
  | false=>AC p i
theorem EK (p:Nat->Bool):∀ i,AC p i <= i
 | 0=>Nat.le_refl _
 | i+1=>by
  have:=EK p i;unfold AC;split <;> omega
theorem WN (L:LT) (n:Nat) (f:Nat->E6) (hn:n <= 4611686018427387904):∀ (e i:Nat) (j:Nat->V) (q:Nat),n=i+e->e<q ->
  (Ay (M1 L) (PG n f) q (UD n f (ofNat (AC (λk=>BW (f k)) i)) i j)).sem=some (X4 n f (ofNat (AC (λk=>BW (f k)) n)) 0)
 | 0,i,j,q+1,h,_=>by
  have:n=i:=by omega
  subst this;exact Ae (Ai4 L n f _ _ j (A4 (Nat.le_refl _)))
 | e+1,i,j,q+1,h,h2=>by
  have hc:=EK (λk=>BW (f k)) i;cases hp:BW (f i) with
  | true =>
   rw [Ae (Ai2 L n f _ i j (ofNat_lt (by omega)) (Hu _) hp),AS,Bc (show i<n by omega) hn,Bc (show AC (λk=>BW (f k)) i<n by omega) hn,
    show AC (λk=>BW (f k)) i+1=AC (λk=>BW (f k)) (i+1) by rw [AC,hp]]
   exact WN L n f hn e (i+1) Ac q (by omega) (by omega)
  | false =>
   rw [Ae (Ai3 L n f _ i j (ofNat_lt (by omega)) (Hu _) hp),AS,Bc (show i<n by omega) hn,
    show AC (λk=>BW (f k)) i=AC (λk=>BW (f k)) (i+1) by rw [AC,hp]]
   exact WN L n f hn e (i+1) Ac q (by omega) (by omega)
theorem WO (L:LT) (n:Nat) (f:Nat->E6) (hn:n <= 4611686018427387904):∀ (e i:Nat) (j:Nat->V) (q:Nat),n=i+e->e<q ->
  (Ay (M3 L) (PH n f) q (UE n f (ofNat (AC (λk=>BK (f k)) i)) i j)).sem=some (X5 n f (ofNat (AC (λk=>BK (f k)) n)) 0)
 | 0,i,j,q+1,h,_=>by
  have:n=i:=by omega
  subst this;exact Ae (Ai7 L n f _ _ j (A4 (Nat.le_refl _)))
 | e+1,i,j,q+1,h,h2=>by
  have hc:=EK (λk=>BK (f k)) i;cases hp:BK (f i) with
  | true =>
   rw [Ae (Ai5 L n f _ i j (ofNat_lt (by omega)) (Hu _) hp),AS,Bc (show i<n by omega) hn,Bc (show AC (λk=>BK (f k)) i<n by omega) hn,
    show AC (λk=>BK (f k)) i+1=AC (λk=>BK (f k)) (i+1) by rw [AC,hp]]
   exact WO L n f hn e (i+1) Ac q (by omega) (by omega)
  | false =>
   rw [Ae (Ai6 L n f _ i j (ofNat_lt (by omega)) (Hu _) hp),AS,Bc (show i<n by omega) hn,
    show AC (λk=>BK (f k)) i=AC (λk=>BK (f k)) (i+1) by rw [AC,hp]]
   exact WO L n f hn e (i+1) Ac q (by omega) (by omega)
def XH:List V->A3
 | [v,.fn g []]=>apL v λn f=>.br (C7 n) (match Nat.beq g 87,Nat.beq g 88 with
  | true,_=>out (iV (ofNat (AC (λk=>BW (f k)) n)))
  | false,true=>out (iV (ofNat (AC (λk=>BK (f k)) n)))
  | false,false=>.fail) .fail
 | _=>.fail
theorem p87:Ar Tryz.prog Gl 86 XH:=by
 refine Ah A0 mixed Tryz.func86 (by kernel_rfl) (by kernel_rfl) λvs v h' h=>?_;unfold XH at h;split at h
 ·rename_i u g
  obtain ⟨n,f,ha,h1⟩:=Bb h;obtain ⟨hn,hq⟩:=Ab h1;clear h h1;have hn:n <= 4611686018427387904:=of_decide_eq_true hn;have hA:B2 [u,.fn g []] [Ao n f,.fn g []]:=λS w cs hv=>by
   obtain ⟨c,l,rfl,q1,q2⟩:=hv;exact ⟨c,l,rfl,ha S w c q1,q2⟩
  split at hq
  ·rename_i h1
   have h1:=Nat.eq_of_beq_eq_true h1;subst h1;have:=Aa hq;simp only [Prod.mk.injEq] at this;obtain ⟨rfl,rfl⟩:=this;have hx:=Bu W3 [(0,PG n f)];have hL:=Bd [(0,PG n f)];exact ⟨_,BQ Gl tbY [(0,PG n f)],[],hA,rfl,hx.1,hx.2,Bw (B9 hL hL) _ (Akm _ _ n f _ 0 (AW (WN _ n f hn n 0 _ (n+1) (by omega) (by omega)))),As.refl _⟩
  ·rename_i h2
   have h2:=Nat.eq_of_beq_eq_true h2;subst h2;have:=Aa hq;simp only [Prod.mk.injEq] at this;obtain ⟨rfl,rfl⟩:=this;have hx:=Bu W3 [(0,PH n f)];have hL:=Bd [(0,PH n f)];exact ⟨_,BQ Gl tbY [(0,PH n f)],[],hA,rfl,hx.1,hx.2,Bw (B9 hL hL) _ (Akn _ _ n f _ 0 (AW (WO _ n f hn n 0 _ (n+1) (by omega) (by omega)))),As.refl _⟩
  ·cases hq
 ·cases h
end Go.Proofs.YtkbgidbledjejaaGreat.Ed
namespace Go.Sy
end Go.Sy
namespace Go.Sy
inductive DW {α:Type} (r:α):DT α->Prop where
 | e {a:α} (h:a=r):DW r (.lf a)
 | k {b c:Bool} {d:DT α} (h:b=c) (w:DW r d):DW r (.kn b c d)
 | a {o:Option (Ex×St)} {q:Ex×St} {d:DT α} (h:o=some q) (w:DW r d):DW r (.ak o q d)
 | c {d e:DT α} (b:Bool) (w:b=true->DW r d) (u:b=false->DW r e):DW r (.sp d e)
theorem DW.l {α:Type} {r:α}:DW r (.lf r):=.e rfl
theorem DW.r {α:Type} {r:α} {b c:Bool} {d:DT α} (n:Nat) (h:b=c) (w:DW r d):DW r (DT.knR n b c d):=by
 induction n with
 | zero=>exact w
 | succ n ih=>exact .k h ih
theorem DW.ok {α:Type} {r:α} {d:DT α} (w:DW r d):∀ {t:T α},d.run t=some (d.cs,d.os,d.ls)->t.sem=some r:=by
 induction w with
 | e hab =>
  intro t h;cases t with
  | leaf b =>simp only [DT.run,DT.cs,DT.os,DT.ls,Option.some.injEq,Prod.mk.injEq,List.cons.injEq,and_true,true_and] at h;subst h;rw [hab];rfl
  | _=>cases h
 | k hb w ih =>
  rename_i b c d;intro t h;cases t with
  | br b' x y =>
   simp only [DT.run] at h;split at h
   ·rename_i hx
    simp only [DT.cs,DT.os,DT.ls,Option.some.injEq,Prod.mk.injEq,List.cons.injEq] at h;obtain ⟨⟨rfl,rfl⟩,rfl,rfl⟩:=h;subst hb;cases b' with
    | true=>exact (show x.sem=_ from ih hx)
    | false=>exact (show y.sem=_ from ih hx)
   ·cases h
  | _=>cases h
 | a ho w ih =>
  rename_i o q d;intro t h;cases t with
  | ask o' k =>
   simp only [DT.run] at h;split at h
   ·rename_i hx
    simp only [DT.cs,DT.os,DT.ls,Option.some.injEq,Prod.mk.injEq,List.cons.injEq] at h;obtain ⟨rfl,⟨rfl,rfl⟩,rfl⟩:=h;subst ho;exact (show (k q).sem=_ from ih hx)
   ·cases h
  | _=>cases h
 | c b w u ih ih' =>
  rename_i d e;intro t h;simp only [DT.run] at h;split at h
  ·rename_i hx hy
   simp only [DT.cs,DT.os,DT.ls,Option.some.injEq,Prod.mk.injEq] at h;obtain ⟨hc,ho,hl⟩:=h;obtain ⟨e1,e2,e3⟩:=DT.run_len hx;obtain ⟨rfl,rfl⟩:=List.append_inj hc e1;obtain ⟨rfl,rfl⟩:=List.append_inj ho e2;obtain ⟨rfl,rfl⟩:=List.append_inj hl e3;cases hb:b with
   | true=>exact ih hb hx
   | false=>exact ih' hb hy
  ·cases h
theorem DW.rd {f:St->T (Ex×St)} {lp:Lp} {st:St} {r:Ex×St} {d:DT (Ex×St)} (w:DW r d) (h:d.run ((f st).bind λr=>T.leaf (AmJ lp r))=some (d.cs,d.os,d.ls)):Ap f lp st=some r:=w.ok h
theorem C0 {f:St->T (Ex×St)} {lp:Lp} {S:Nat->St} {m:Nat} {x:Ex×St} (hx:x.1 ≠ .nm) (h:∀ i,i<m->Ap f lp (S i)=some (.nm,S (i+1))) (h0:Ap f lp (S m)=some x) {q:Nat} (hq:m<q):(Ay f lp q (S 0)).sem=some x:=by
 have stop:∀ {o:Nat},Adz f lp o (some x)=some x:=fun {o}=>by
  cases x with
  | mk e s=>cases e <;> first | exact absurd rfl hx | rfl
 have key:∀ d i q,i+d=m->d<q->(Ay f lp q (S i)).sem=some x:=λd=>by
  induction d with
  | zero =>
   intro i q hi hq;obtain ⟨q,rfl⟩:∃ o,q=o+1:=⟨q-1,by omega⟩;obtain rfl:i=m:=by omega
   rw [Ae h0,stop]
  | succ d ih =>intro i q hi hq;obtain ⟨q,rfl⟩:∃ o,q=o+1:=⟨q-1,by omega⟩;rw [Ae (h i (by omega))];exact ih (i+1) q (by omega) (by omega)
 exact key m 0 q (Nat.zero_add m) hq
theorem nm1 {α:Type} {f:α->St} {a a':α} (h:a=a'):(Ex.nm,f a)=(Ex.nm,f a'):=by rw [h]
theorem nm2 {α β:Type} {f:α->β->St} {a a':α} {b b':β} (h:a=a') (h2:b=b'):(Ex.nm,f a b)=(Ex.nm,f a' b'):=by rw [h,h2]
theorem nm3 {α β γ:Type} {f:α->β->γ->St} {a a':α} {b b':β} {c c':γ} (h:a=a') (h2:b=b') (h3:c=c'):(Ex.nm,f a b c)=(Ex.nm,f a' b' c'):=by rw [h,h2,h3]
theorem nm4 {α β γ δ:Type} {f:α->β->γ->δ->St} {a a':α} {b b':β} {c c':γ} {d d':δ} (h:a=a') (h2:b=b') (h3:c=c') (h4:d=d'):(Ex.nm,f a b c d)=(Ex.nm,f a' b' c' d'):=by rw [h,h2,h3,h4]
theorem C2 {i:Nat} (h:i <= 4611686018427387904):wr .i64 (Am (Int.ofNat i) 1)=Int.ofNat (i+1):=by
 unfold wr Am IntKind.wrap;simp [IntKind.bits,IntKind.signed];omega
end Go.Sy
namespace Go.Proofs.YtkbgidbledjejaaGreat.Ed
open Go.Sy
open Int (ofNat)
set_option maxRecDepth 100000
def Jo (a b:Int):Int:=sel (ilt a b) (-1) (sel (ilt b a) 1 0)
theorem p82:Ar Tryz.prog Gl 55 (ap2 gI gI λa b=>out (iV (Jo a b))):=by
 refine Ah A0 mixed Tryz.func55 (by kernel_rfl) (by kernel_rfl) λvs v h' h=>?_;obtain ⟨a,b,rfl,h⟩:=Hi K4 K4 h;cases Aa h;have hx:=AZ (Al.nil:Al Tryz.prog Gl []) [] (G:=Gl);refine ⟨_,cxA Gl [] [],_,B2.refl _,rfl,hx.1,hx.2,?_,As.refl _⟩;unfold Jo;cases h1:ilt a b with
 | true=>exact DW.ok (.k h1 <| .l) (by kernel_rfl)
 | false =>
  cases h2:ilt b a with
  | true=>exact DW.ok (.k h1 <| .k h2 <| .l) (by kernel_rfl)
  | false=>exact DW.ok (.k h1 <| .k h2 <| .l) (by kernel_rfl)
theorem CG {i n:Nat} (h:i<n):nlt i n=true:=by simpa [nlt] using h
theorem Ahn {i:Int} (h:i=0):AI (ieq i 0)=false:=by rw [h]; rfl
theorem Q9 (n m:Nat) (f g:Nat->E6):∀ e,e <= n->e <= m->(∀ t,t<e->Aj (f t)=Aj (g t))->Fz (Bt n f) (Bt m g)=Fz ((Bt n f).drop e) ((Bt m g).drop e)
 | 0,_,_,_=>rfl
 | e+1,h1,h2,h=>by
  rw [Q9 n m f g e (by omega) (by omega) (λt ht=>h t (by omega)),Eh n e f (by omega),Eh m e g (by omega)];have:=h e (by omega);rcases FI (Aj (f e)) (Aj (g e)) ((Bt n f).drop (e+1)) ((Bt m g).drop (e+1)) with ⟨q,_⟩ | ⟨q,_⟩ | ⟨_,q⟩
  ·omega
  ·omega
  ·exact q
theorem Zi (n m:Nat) (f g:Nat->E6) (h:∀ t,t<min n m->Aj (f t)=Aj (g t)):Fz (Bt n f) (Bt m g)=Jo (ofNat n) (ofNat m):=by
 rw [Q9 n m f g (min n m) (by omega) (by omega) h];unfold Jo;rcases Nat.lt_trichotomy n m with h1 | h1 | h1
 ·rw [IQ n _ f (by omega),Eh m _ g (by omega),ofNat_lt h1]
  rfl
 ·subst h1
  rw [IQ n _ f (by omega),IQ n _ g (by omega),A4 (Nat.le_refl n)];rfl
 ·rw [IQ m _ g (by omega),Eh n _ f (by omega),ofNat_lt h1,A4 (Nat.le_of_lt h1)]
  rfl
theorem AdX (n m:Nat) (f g:Nat->E6) (e:Nat) (h1:e<n) (h2:e<m) (h:∀ t,t<e->Aj (f t)=Aj (g t)) (hne:Aj (f e) ≠ Aj (g e)):Fz (Bt n f) (Bt m g)=Jo (Aj (f e)) (Aj (g e)):=by
 rw [Q9 n m f g e (by omega) (by omega) h,Eh n e f h1,Eh m e g h2];unfold Jo;rcases FI (Aj (f e)) (Aj (g e)) ((Bt n f).drop (e+1)) ((Bt m g).drop (e+1)) with ⟨q,r⟩ | ⟨q,r⟩ | ⟨q,_⟩
 ·rw [r,IA q]; rfl
 ·rw [r,IA q,GV (by omega)]; rfl
 ·exact absurd q hne
theorem Zb (n m:Nat) (f g:Nat->E6):(∀ t,t<min n m->Aj (f t)=Aj (g t)) ∨ ∃ e,e<n∧e<m∧(∀ t,t<e->Aj (f t)=Aj (g t))∧Aj (f e) ≠ Aj (g e):=by
 cases h:DL (min n m) λt=>ieq (Aj (f t)) (Aj (g t)) with
 | true=>exact .inl λt ht=>by simpa [ieq] using BR.1 h t ht
 | false =>obtain ⟨e,h1,h2,h3⟩:=Qr _ _ h;exact .inr ⟨e,by omega,by omega,λt ht=>by simpa [ieq] using h3 t ht,by simpa [ieq] using h2⟩
def AdY:List V->A3:=Agv λn f m g=>.br (BZ n) (.br (BZ m) (out (.tup [iV (Ge n f m g),iV (Ms n f m g)])) .fail) .fail
theorem S6 {vs:List V} {r:V×List Blk} (h:(AdY vs).sem=some r):∃ n f m g,B2 vs [Ao n f,Ao m g]∧BZ n=true∧BZ m=true∧r=(.tup [iV (Ge n f m g),iV (Ms n f m g)],[]):=by
 obtain ⟨n,f,m,g,ha,h⟩:=Kl h;obtain ⟨hn,h⟩:=Ab h;obtain ⟨hm,h⟩:=Ab h;exact ⟨n,f,m,g,ha,hn,hm,Aa h⟩
noncomputable def AkH:AD:=(93,Q5)::[]
theorem AeU:Al Tryz.prog Gl AkH:=.cons p81 .nil
def AcJ:Lp:=⟨bmK 69 0 [4,5,6,8,10],2,bmK 69 0 [4,5,6,8],2,4611686018427387905⟩
noncomputable abbrev AmE:Cx:=cxA Gl AkH [(0,AcJ,[])]
noncomputable def B63:St->T (Ex×St):=λst=>A8 tab AmE (A1 Tryz.f63 0) 0 st
section
variable (n:Nat) (f:Nat->E6) (m:Nat) (g:Nat->E6)
def S63 (l:List (Nat×V)) (r:Int):St:=⟨jsV 69 0 Ac ([(4,iV r),(5,iV 0),(6,.ref 0),(8,.ref 1)]++l),[.row 3 1 n λi=>iV (Aj (f i)),.row 3 1 m λi=>iV (Aj (g i))]⟩
variable {n f m g}
theorem g63 {i:Nat} (hn:n <= 4611686018427387904) (h1:i<n) (h2:i<m) (h:Aj (f i)=Aj (g i)):Ap B63 AcJ (S63 n f m g [(10,nV i)] 0)=some (.nm,S63 n f m g [(10,iV (ofNat (i+1)))] 0):=by
 have a:ilt (Aj (f i)) (Aj (g i))=false:=GV (by omega);have b:ilt (Aj (g i)) (Aj (f i))=false:=GV (by omega);exact DW.rd (.r 5 (ofNat_lt h1) <| .k (ofNat_lt h2) <| .k (Af h1) <| .k (CG h1) <| .k (Af h2) <| .k (CG h2) <| .k a <| .k (Af h1) <| .k (CG h1) <| .k (Af h2) <| .k (CG h2) <| .k b <| .e (nm1 (f:=λz=>S63 n f m g [(10,iV z)] 0) (C2 (by omega)))) (by kernel_rfl)
theorem x63 {i:Nat} (h:i=min n m):Ap B63 AcJ (S63 n f m g [(10,nV i)] 0)=some (.ex 0,S63 n f m g [] 0):=by
 by_cases h1:i<n
 ·exact DW.rd (.r 5 (ofNat_lt h1) <| .k (A4 (i:=i) (n:=m) (by omega)) <| .l) (by kernel_rfl)
 ·exact DW.rd (.r 5 (A4 (i:=i) (n:=n) (by omega)) <| .k eF <| .l) (by kernel_rfl)
theorem d63 {i:Nat} (h1:i<n) (h2:i<m) (h:Aj (f i) ≠ Aj (g i)):Ap B63 AcJ (S63 n f m g [(10,nV i)] 0)=some (.rt,S63 n f m g [] (Jo (Aj (f i)) (Aj (g i)))):=by
 unfold Jo;rcases Int.lt_or_gt_of_ne h with hl | hl
 ·have a:=IA hl
  rw [a];exact DW.rd (.r 5 (ofNat_lt h1) <| .k (ofNat_lt h2) <| .k (Af h1) <| .k (CG h1) <| .k (Af h2) <| .k (CG h2) <| .k a <| .l) (by kernel_rfl)
 ·have a:=GV (Int.le_of_lt hl)
  have b:=IA hl;rw [a,b];exact DW.rd (.r 5 (ofNat_lt h1) <| .k (ofNat_lt h2) <| .k (Af h1) <| .k (CG h1) <| .k (Af h2) <| .k (CG h2) <| .k a <| .k (Af h1) <| .k (CG h1) <| .k (Af h2) <| .k (CG h2) <| .k b <| .l) (by kernel_rfl)
end
theorem p38:Ar Tryz.prog Gl 63 AdY:=by
 refine Ah A0 mixed Tryz.func63 (by kernel_rfl) (by kernel_rfl) λvs v h' h=>?_;obtain ⟨n,f,m,g,ha,hn,hm,hr⟩:=S6 h;cases hr;have hx:=AZ AeU [(0,AcJ,[])] (G:=Gl);refine ⟨[Ao n f,Ao m g],AmE,_,ha,rfl,hx.1,hx.2,?_,As.refl _⟩;have hs:=Eu hn;have z:AI (ieq 0 0)=false:=rfl;have z3:AI (ieq 30 0)=true:=rfl;unfold Ge Ms;cases h1:Bv n f with
 | false =>
  cases h2:Bv m g with
  | false=>exact DW.ok (.k (eL n) <| .k hn <| .k h1 <| .k (eL m) <| .k hm <| .k h2 <| .r 3 z3 <| .k eT <| .l) (by kernel_rfl)
  | true=>exact DW.ok (.k (eL n) <| .k hn <| .k h1 <| .k (eL m) <| .k hm <| .k h2 <| .r 3 z3 <| .k eT <| .l) (by kernel_rfl)
 | true =>
  cases h2:Bv m g with
  | false=>exact DW.ok (.k (eL n) <| .k hn <| .k h1 <| .k (eL m) <| .k hm <| .k h2 <| .r 3 z <| .k z3 <| .l) (by kernel_rfl)
  | true =>
   show _=some (V.tup [iV (Fz (Bt n f) (Bt m g)),iV 0],[]);rcases Zb n m f g with hd | ⟨e,he,he',hd,hne⟩
   ·have hr:=C0 (S:=λi=>S63 n f m g [(10,nV i)] 0) (m:=min n m) (q:=4611686018427387905) (λh=>by cases h) (λi hi=>g63 hs (by omega) (by omega) (hd i hi)) (x63 rfl) (by omega)
    rw [Zi n m f g hd];unfold Jo;cases h3:ilt (ofNat n) (ofNat m) with
    | true=>exact DW.ok (.k (eL n) <| .k hn <| .k h1 <| .k (eL m) <| .k hm <| .k h2 <| .r 4 z <| .a hr <| .k h3 <| .l) (by kernel_rfl)
    | false =>
     cases h4:ilt (ofNat m) (ofNat n) with
     | true=>exact DW.ok (.k (eL n) <| .k hn <| .k h1 <| .k (eL m) <| .k hm <| .k h2 <| .r 4 z <| .a hr <| .k h3 <| .k h4 <| .l) (by kernel_rfl)
     | false=>exact DW.ok (.k (eL n) <| .k hn <| .k h1 <| .k (eL m) <| .k hm <| .k h2 <| .r 4 z <| .a hr <| .k h3 <| .k h4 <| .l) (by kernel_rfl)
   ·have hr:=C0 (S:=λi=>S63 n f m g [(10,nV i)] 0) (m:=e) (q:=4611686018427387905) (λh=>by cases h) (λi hi=>g63 hs (by omega) (by omega) (hd i hi)) (d63 he he' hne) (by omega)
    rw [AdX n m f g e he he' hd hne];exact DW.ok (.k (eL n) <| .k hn <| .k h1 <| .k (eL m) <| .k hm <| .k h2 <| .r 4 z <| .a hr <| .l) (by kernel_rfl)
noncomputable def AkR:AD:=(45,Cj λe=>iV (AA e))::(54,Cj K7)::(55,ap2 gI gI λa b=>out (iV (Jo a b)))::[]
theorem Afj:Al Tryz.prog Gl AkR:=.cons p29 <| .cons p25 <| .cons p82 .nil
def KU (i:Nat):Lp:=⟨bmK 76 0 [0,1,4,5,i],0,bmK 76 0 [0,1,4,5],0,4611686018427387905⟩
noncomputable abbrev AmI:Cx:=cxA Gl AkR [(0,KU 6,[]),(2,KU 7,[]),(4,KU 8,[])]
noncomputable def B25 (id:Nat):St->T (Ex×St):=λst=>A8 tab AmI (A1 Tryz.f25 id) id st
section
variable (n:Nat) (f:Nat->E6) (m:Nat) (g:Nat->E6)
def S25 (l:List (Nat×V)) (r e:Int):St:=⟨jsV 76 0 Ac ([(0,Ao n f),(1,Ao m g),(4,iV r),(5,iV e)]++l),[]⟩
variable {n f m g}
theorem Ahr {i:Nat} (hn:n <= 4611686018427387904) (h1:i<n) (h:AA (f i)=0):Ap (B25 0) (KU 6) (S25 n f m g [(6,nV i)] 0 0)=some (.nm,S25 n f m g [(6,iV (ofNat (i+1)))] 0 0) :=
 DW.rd (.k (ofNat_lt h1) <| .k (Af h1) <| .k (Ahn h) <| .e (nm1 (f:=λz=>S25 n f m g [(6,iV z)] 0 0) (C2 (by omega)))) (by kernel_rfl)
theorem Ahq {i:Nat} (hn:m <= 4611686018427387904) (h1:i<m) (h:AA (g i)=0):Ap (B25 2) (KU 7) (S25 n f m g [(7,nV i)] 0 0)=some (.nm,S25 n f m g [(7,iV (ofNat (i+1)))] 0 0) :=
 DW.rd (.k (ofNat_lt h1) <| .k (Af h1) <| .k (Ahn h) <| .e (nm1 (f:=λz=>S25 n f m g [(7,iV z)] 0 0) (C2 (by omega)))) (by kernel_rfl)
theorem Aki:Ap (B25 0) (KU 6) (S25 n f m g [(6,nV n)] 0 0)=some (.ex 0,S25 n f m g [] 0 0):=DW.rd (.k (A4 (Nat.le_refl n)) <| .l) (by kernel_rfl)
theorem Akh:Ap (B25 2) (KU 7) (S25 n f m g [(7,nV m)] 0 0)=some (.ex 2,S25 n f m g [] 0 0):=DW.rd (.k (A4 (Nat.le_refl m)) <| .l) (by kernel_rfl)
theorem Adt {i:Int} (h:i=30):AI (ieq i 0)=true:=by rw [h]; rfl
theorem Am8 {i:Nat} (h1:i<n) (h:AA (f i)=30):Ap (B25 0) (KU 6) (S25 n f m g [(6,nV i)] 0 0)=some (.rt,S25 n f m g [] 0 30):=DW.rd (.k (ofNat_lt h1) <| .k (Af h1) <| .k (Adt h) <| .l) (by kernel_rfl)
theorem Am7 {i:Nat} (h1:i<m) (h:AA (g i)=30):Ap (B25 2) (KU 7) (S25 n f m g [(7,nV i)] 0 0)=some (.rt,S25 n f m g [] 0 30):=DW.rd (.k (ofNat_lt h1) <| .k (Af h1) <| .k (Adt h) <| .l) (by kernel_rfl)
theorem Ahp {i:Nat} (hn:n <= 4611686018427387904) (h1:i<n) (h2:i<m) (h:Aj (f i)=Aj (g i)):Ap (B25 4) (KU 8) (S25 n f m g [(8,nV i)] 0 0)=some (.nm,S25 n f m g [(8,iV (ofNat (i+1)))] 0 0):=by
 have a:AI (ieq (Aj (f i)) (Aj (g i)))=false:=by rw [h]; exact eN (eI _)
 exact DW.rd (.r 5 (ofNat_lt h1) <| .k (ofNat_lt h2) <| .k (Af h1) <| .k (Af h2) <| .k a <| .e (nm1 (f:=λz=>S25 n f m g [(8,iV z)] 0 0) (C2 (by omega)))) (by kernel_rfl)
theorem Akg {i:Nat} (h:i=min n m):Ap (B25 4) (KU 8) (S25 n f m g [(8,nV i)] 0 0)=some (.ex 4,S25 n f m g [] 0 0):=by
 by_cases h1:i<n
 ·exact DW.rd (.r 5 (ofNat_lt h1) <| .k (A4 (i:=i) (n:=m) (by omega)) <| .l) (by kernel_rfl)
 ·exact DW.rd (.r 5 (A4 (i:=i) (n:=n) (by omega)) <| .k eF <| .l) (by kernel_rfl)
theorem AmB {i:Nat} (h1:i<n) (h2:i<m) (h:Aj (f i) ≠ Aj (g i)):Ap (B25 4) (KU 8) (S25 n f m g [(8,nV i)] 0 0)=some (.rt,S25 n f m g [] (Jo (Aj (f i)) (Aj (g i))) 0):=by
 have a:AI (ieq (Aj (f i)) (Aj (g i)))=true:=by rw [show ieq (Aj (f i)) (Aj (g i))=false from decide_eq_false h]; rfl
 exact DW.rd (.r 5 (ofNat_lt h1) <| .k (ofNat_lt h2) <| .k (Af h1) <| .k (Af h2) <| .k a <| .l) (by kernel_rfl)
end
theorem p39:Ar Tryz.prog Gl 25 AdY:=by
 refine Ah A0 mixed Tryz.func25 (by kernel_rfl) (by kernel_rfl) λvs v h' h=>?_;obtain ⟨n,f,m,g,ha,hn,hm,hr⟩:=S6 h;cases hr;have hx:=AZ Afj [(0,KU 6,[]),(2,KU 7,[]),(4,KU 8,[])] (G:=Gl);refine ⟨[Ao n f,Ao m g],AmI,_,ha,rfl,hx.1,hx.2,?_,As.refl _⟩;have hs:=Eu hn;have hs':=Eu hm;unfold Ge Ms;cases h1:Bv n f with
 | false =>obtain ⟨e,k1,k2,k3⟩:=P8 h1;have r0:=C0 (S:=λi=>S25 n f m g [(6,nV i)] 0 0) (m:=e) (q:=4611686018427387905) (λh=>by cases h) (λi hi=>Ahr hs (by omega) (k3 i hi)) (Am8 k1 k2) (by omega);exact DW.ok (.a r0 <| .l) (by kernel_rfl)
 | true =>
  have r0:=C0 (S:=λi=>S25 n f m g [(6,nV i)] 0 0) (m:=n) (q:=4611686018427387905) (λh=>by cases h) (λi hi=>Ahr hs hi (Bh.1 h1 i hi)) Aki (by omega);cases h2:Bv m g with
  | false =>obtain ⟨e,k1,k2,k3⟩:=P8 h2;have r2:=C0 (S:=λi=>S25 n f m g [(7,nV i)] 0 0) (m:=e) (q:=4611686018427387905) (λh=>by cases h) (λi hi=>Ahq hs' (by omega) (k3 i hi)) (Am7 k1 k2) (by omega);exact DW.ok (.a r0 <| .a r2 <| .l) (by kernel_rfl)
  | true =>
   have r2:=C0 (S:=λi=>S25 n f m g [(7,nV i)] 0 0) (m:=m) (q:=4611686018427387905) (λh=>by cases h) (λi hi=>Ahq hs' hi (Bh.1 h2 i hi)) Akh (by omega);show _=some (V.tup [iV (Fz (Bt n f) (Bt m g)),iV 0],[]);rcases Zb n m f g with hd | ⟨e,he,he',hd,hne⟩
   ·have r4:=C0 (S:=λi=>S25 n f m g [(8,nV i)] 0 0) (m:=min n m) (q:=4611686018427387905) (λh=>by cases h) (λi hi=>Ahp hs (by omega) (by omega) (hd i hi)) (Akg rfl) (by omega)
    rw [Zi n m f g hd];exact DW.ok (.a r0 <| .a r2 <| .a r4 <| .l) (by kernel_rfl)
   ·have r4:=C0 (S:=λi=>S25 n f m g [(8,nV i)] 0 0) (m:=e) (q:=4611686018427387905) (λh=>by cases h) (λi hi=>Ahp hs (by omega) (by omega) (hd i hi)) (AmB he he' hne) (by omega)
    rw [AdX n m f g e he he' hd hne];exact DW.ok (.a r0 <| .a r2 <| .a r4 <| .l) (by kernel_rfl)
end Go.Proofs.YtkbgidbledjejaaGreat.Ed
