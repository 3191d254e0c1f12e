/-
  Layer 4: which edges lead to other threads and locations, how many; whether all edges may be. No conditions.
-/
import Derived.Test.YtkbafjceglhjhaaGreatDoorCyA
namespace Go.Proofs.YtkbafjceglhjhaaGreatDoor.Ed
open Go.Sy
open Int (ofNat)
def BE (e:E6):Bool:=Aj (ile 1 e.kind) (ile e.kind 3)
def A4 (e:E6):Bool:=Aj (BE e) e.ext
def AB (e:E6):Bool:=Aj (AQ (BE e)) (AQ e.same)
theorem Adv (e:E6):(A0 (Ai tab (AP Gl [] []) Tryz.f193 [eV e] [])).sem=(sel (ile 1 (e).kind) (sel (ile 1 (e).kind) (sel (ile 1 (e).kind) (sel (ile 1 (e).kind) (some ((bV (ile (e).kind 3)),[])) (some ((bV false),[]))) (sel (ile 1 (e).kind) (some (AI,[])) (some ((bV false),[])))) (sel (ile 1 (e).kind) none (sel (ile 1 (e).kind) (some (AI,[])) (some ((bV false),[]))))) (sel (ile 1 (e).kind) none (sel (ile 1 (e).kind) none (sel (ile 1 (e).kind) (some (AI,[])) (some ((bV false),[])))))):=by kernel_rfl
theorem Api:An Tryz.prog Gl 193 (BV λe=>bV (BE e)):=by
 refine An.congr (AK A2 mixed Tryz.func193 (by kernel_rfl) (by kernel_rfl) (Γ:=AP Gl [] []) (Bq Ao.nil _)) λvs r h=>?_;obtain ⟨e,rfl,rfl⟩:=Cf h;refine (Adv e).trans ?_;unfold BE;cases ile 1 e.kind <;> rfl
theorem Cp (i:Nat):ile 0 (ofNat i)=true:=Xo (by simp)
noncomputable def ZN:A9:=(193,BV λe=>bV (BE e))::[]
theorem WF:Ao Tryz.prog Gl ZN:=.cons Api .nil
theorem Aiq (e:E6):(A0 (Ai tab (AP Gl ZN []) Tryz.f171 [eV e] [])).sem=(sel (BE e) (sel (BE e) (sel (BE e) (some ((bV (e).ext),[])) (some ((bV false),[]))) (sel (BE e) (some (AI,[])) (some ((bV false),[])))) (sel (BE e) none (sel (BE e) (some (AI,[])) (some ((bV false),[]))))):=by kernel_rfl
theorem p88:An Tryz.prog Gl 171 (BV λe=>bV (A4 e)):=by
 refine An.congr (AK A2 mixed Tryz.func171 (by kernel_rfl) (by kernel_rfl) (Γ:=AP Gl ZN []) (Bq WF _)) λvs r h=>?_;obtain ⟨e,rfl,rfl⟩:=Cf h;refine (Aiq e).trans ?_;unfold A4;cases BE e <;> rfl
theorem Aip (e:E6):(A0 (Ai tab (AP Gl ZN []) Tryz.f172 [eV e] [])).sem=(sel (AQ (BE e)) (sel (AQ (BE e)) (sel (AQ (BE e)) (sel (AQ (BE e)) (some ((bV (AQ (e).same)),[])) (some ((bV false),[]))) (sel (AQ (BE e)) (some (AI,[])) (some ((bV false),[])))) (sel (AQ (BE e)) none (sel (AQ (BE e)) (some (AI,[])) (some ((bV false),[]))))) (sel (AQ (BE e)) none (sel (AQ (BE e)) none (sel (AQ (BE e)) (some (AI,[])) (some ((bV false),[])))))):=by kernel_rfl
theorem p89:An Tryz.prog Gl 172 (BV λe=>bV (AB e)):=by
 refine An.congr (AK A2 mixed Tryz.func172 (by kernel_rfl) (by kernel_rfl) (Γ:=AP Gl ZN []) (Bq WF _)) λvs r h=>?_;obtain ⟨e,rfl,rfl⟩:=Cf h;refine (Aip e).trans ?_;unfold AB;cases BE e <;> rfl
theorem OR (e:E6):BE e=bor (ieq e.kind 1) (bor (ieq e.kind 2) (ieq e.kind 3)):=by
 unfold BE;rw [Bool.eq_iff_iff];simp [Aj,bor,ile,ieq];omega
theorem Ais (e:E6):(A0 (Ai tab (AP Gl [] []) Tryz.f152 [eV e] [])).sem=(sel (ieq (e).kind 1) (sel (ieq (e).kind 1) (sel (ieq (e).kind 1) (sel (ieq (e).kind 1) (some ((bV (e).ext),[])) none) none) none) (sel (ieq (e).kind 1) (sel (ieq (e).kind 1) (sel (ieq (e).kind 1) (some ((bV (e).ext),[])) none) none) (sel (ieq (e).kind 1) (sel (ieq (e).kind 1) (some ((bV (e).ext),[])) none) (sel (ieq (e).kind 1) (some ((bV (e).ext),[])) (sel (ieq (e).kind 2) (sel (ieq (e).kind 2) (sel (ieq (e).kind 2) (sel (ieq (e).kind 2) (some ((bV (e).ext),[])) none) none) none) (sel (ieq (e).kind 2) (sel (ieq (e).kind 2) (sel (ieq (e).kind 2) (some ((bV (e).ext),[])) none) none) (sel (ieq (e).kind 2) (sel (ieq (e).kind 2) (some ((bV (e).ext),[])) none) (sel (ieq (e).kind 2) (some ((bV (e).ext),[])) (sel (ieq (e).kind 3) (sel (ieq (e).kind 3) (sel (ieq (e).kind 3) (some ((bV (e).ext),[])) (some ((bV false),[]))) (sel (ieq (e).kind 3) (some (AI,[])) (some ((bV false),[])))) (sel (ieq (e).kind 3) none (sel (ieq (e).kind 3) (some (AI,[])) (some ((bV false),[]))))))))))))):=by kernel_rfl
theorem p60:An Tryz.prog Gl 152 (BV λe=>bV (A4 e)):=by
 refine An.congr (AK A2 mixed Tryz.func152 (by kernel_rfl) (by kernel_rfl) (Γ:=AP Gl [] []) (Bq Ao.nil _)) λvs r h=>?_;obtain ⟨e,rfl,rfl⟩:=Cf h;refine (Ais e).trans ?_;unfold A4;rw [OR];cases ieq e.kind 1 <;> cases ieq e.kind 2 <;> cases ieq e.kind 3 <;> rfl
theorem Air (e:E6):(A0 (Ai tab (AP Gl [] []) Tryz.f153 [eV e] [])).sem=(sel (AQ (ieq (e).kind 1)) (sel (AQ (ieq (e).kind 1)) (sel (AQ (ieq (e).kind 1)) (sel (AQ (ieq (e).kind 1)) (sel (AQ (ieq (e).kind 2)) (sel (AQ (ieq (e).kind 2)) (sel (AQ (ieq (e).kind 2)) (sel (AQ (ieq (e).kind 2)) (sel (AQ (ieq (e).kind 3)) (sel (AQ (ieq (e).kind 3)) (sel (AQ (ieq (e).kind 3)) (sel (AQ (ieq (e).kind 3)) (some ((bV (AQ (e).same)),[])) (some ((bV false),[]))) (sel (AQ (ieq (e).kind 3)) (some (AI,[])) (some ((bV false),[])))) (sel (AQ (ieq (e).kind 3)) none (sel (AQ (ieq (e).kind 3)) (some (AI,[])) (some ((bV false),[]))))) (sel (AQ (ieq (e).kind 3)) none (sel (AQ (ieq (e).kind 3)) none (sel (AQ (ieq (e).kind 3)) (some (AI,[])) (some ((bV false),[])))))) (some ((bV false),[]))) (sel (AQ (ieq (e).kind 2)) none (some ((bV false),[])))) (sel (AQ (ieq (e).kind 2)) none (sel (AQ (ieq (e).kind 2)) none (some ((bV false),[]))))) (sel (AQ (ieq (e).kind 2)) none (sel (AQ (ieq (e).kind 2)) none (sel (AQ (ieq (e).kind 2)) none (some ((bV false),[])))))) (some ((bV false),[]))) (sel (AQ (ieq (e).kind 1)) none (some ((bV false),[])))) (sel (AQ (ieq (e).kind 1)) none (sel (AQ (ieq (e).kind 1)) none (some ((bV false),[]))))) (sel (AQ (ieq (e).kind 1)) none (sel (AQ (ieq (e).kind 1)) none (sel (AQ (ieq (e).kind 1)) none (some ((bV false),[])))))):=by kernel_rfl
theorem p61:An Tryz.prog Gl 153 (BV λe=>bV (AB e)):=by
 refine An.congr (AK A2 mixed Tryz.func153 (by kernel_rfl) (by kernel_rfl) (Γ:=AP Gl [] []) (Bq Ao.nil _)) λvs r h=>?_;obtain ⟨e,rfl,rfl⟩:=Cf h;refine (Air e).trans ?_;unfold AB;rw [OR];cases ieq e.kind 1 <;> cases ieq e.kind 2 <;> cases ieq e.kind 3 <;> rfl
noncomputable def tbY:A9:=(121,BV λe=>iV (Bg e))::(171,BV λe=>bV (A4 e))::(172,BV λe=>bV (AB e))::[]
theorem N1:Ao Tryz.prog Gl tbY:=.cons p29 <| .cons p88 <| .cons p89 .nil
def Og (n:Nat) (f:Nat->E6):Lp:=⟨bmK 16 0 [0,2,3],0,bmK 16 0 [2],0,n+1⟩
def PM (n:Nat) (f:Nat->E6) (i:Nat) (j:Nat->V):St:=⟨jsV 16 0 j [(0,.sl 6 n (λi=>eV (f i))),(2,bV false),(3,nV i)],[]⟩
def Wg (n:Nat) (f:Nat->E6) (i:Nat):Ex×St:=(.ex 0,⟨jsV 16 0 Ab [(2,bV false)],[]⟩)
def We (n:Nat) (f:Nat->E6) (i:Nat):Ex×St:=(.rt,⟨jsV 16 0 Ab [(2,bV false)],[]⟩)
noncomputable def Jr (L:LT):St->T (Ex×St):=λst=>A8 tab ⟨Ax tbY,L,Gl⟩ (As Tryz.f79 0) 0 st
section
variable (L:LT) (n:Nat) (f:Nat->E6) (i:Nat)  (j:Nat->V)
include L n f i j
theorem AlM (h0:ilt (ofNat i) (ofNat n)=false):Ay (Jr L) (Og n f) (PM n f i j)=some ((.ex 0),⟨jsV 16 0 Ab [(2,bV false)],[]⟩):=by
 exact Ad (ks:=[kn h0]) (by kernel_rfl)
theorem AlK (h0:ilt (ofNat i) (ofNat n)=true) (h10:ile 0 (ofNat i)=true) (h1:ieq (Bg (f i)) 0=false):Ay (Jr L) (Og n f) (PM n f i j)=some (.rt,⟨jsV 16 0 Ab [(2,bV false)],[]⟩):=by
 exact Ad (ks:=[kn h0,kA (kn h10) (kn h0),kN (kn h1)]) (by kernel_rfl)
theorem AlL (h0:ilt (ofNat i) (ofNat n)=true) (h10:ile 0 (ofNat i)=true) (h1:ieq (Bg (f i)) 0=true):Ay (Jr L) (Og n f) (PM n f i j)=some (.nm,⟨jsV 16 0 Ab [(0,.sl 6 n (λi=>eV (f i))),(2,bV false),(3,iV (wr .i64 (Ah (ofNat i) 1)))],[]⟩):=by
 exact Ad (ks:=[kn h0,kA (kn h10) (kn h0),kN (kn h1)]) (by kernel_rfl)
end
def Ahd (n:Nat) (f:Nat->E6) :Nat->V:=lkV AI []
section
variable (L:LT) (p0:PT) (n:Nat) (f:Nat->E6) (i:Nat)
include L p0 n f i
theorem AkR  (hp0:p0 (Jr (onP 0 p0 (Wg n f i) L)) (PM n f 0 (Ahd n f ))=true):(A0 (Ai tab ⟨Ax tbY,onP 0 p0 (Wg n f i) L,Gl⟩ Tryz.f79 [AL n f] [])).sem=some ((bV true),[]):=by
 exact Ad (ks:=[kn hp0]) (by kernel_rfl)
theorem AkQ  (hp0:p0 (Jr (onP 0 p0 (We n f i) L)) (PM n f 0 (Ahd n f ))=true):(A0 (Ai tab ⟨Ax tbY,onP 0 p0 (We n f i) L,Gl⟩ Tryz.f79 [AL n f] [])).sem=some ((bV false),[]):=by
 exact Ad (ks:=[kn hp0]) (by kernel_rfl)
end
def Oj (n:Nat) (f:Nat->E6):Lp:=⟨bmK 21 0 [1,5,8,9,10],0,bmK 21 0 [5],0,n+1⟩
def SZ (n:Nat) (f:Nat->E6) (s:Int) (i:Nat) (j:Nat->V):St:=⟨jsV 21 0 j [(1,.fn 171 []),(5,iV s),(8,.sl 6 n (λi=>eV (f i))),(9,nV n),(10,nV i)],[]⟩
def Wh (n:Nat) (f:Nat->E6) (s:Int) (i:Nat):Ex×St:=(.ex 0,⟨jsV 21 0 Ab [(5,iV s)],[]⟩)
noncomputable def Le (L:LT):St->T (Ex×St):=λst=>A8 tab ⟨Ax tbY,L,Gl⟩ (As Tryz.f170 0) 0 st
section
variable (L:LT) (n:Nat) (f:Nat->E6) (s:Int) (i:Nat)  (j:Nat->V)
include L n f s i j
theorem Ajm (h0:ilt (ofNat i) (ofNat n)=false):Ay (Le L) (Oj n f) (SZ n f s i j)=some ((.ex 0),⟨jsV 21 0 Ab [(5,iV s)],[]⟩):=by
 exact Ad (ks:=[kn h0]) (by kernel_rfl)
theorem Ajk (h0:ilt (ofNat i) (ofNat n)=true) (h10:ile 0 (ofNat i)=true) (h1:A4 (f i)=true):Ay (Le L) (Oj n f) (SZ n f s i j)=some (.nm,⟨jsV 21 0 Ab [(1,.fn 171 []),(5,iV (wr .i64 (Ah s 1))),(8,.sl 6 n (λi=>eV (f i))),(9,nV n),(10,iV (wr .i64 (Ah (ofNat i) 1)))],[]⟩):=by
 exact Ad (ks:=[kn h0,kA (kn h10) (kn h0),kn h1]) (by kernel_rfl)
theorem Ajl (h0:ilt (ofNat i) (ofNat n)=true) (h10:ile 0 (ofNat i)=true) (h1:A4 (f i)=false):Ay (Le L) (Oj n f) (SZ n f s i j)=some (.nm,⟨jsV 21 0 Ab [(1,.fn 171 []),(5,iV s),(8,.sl 6 n (λi=>eV (f i))),(9,nV n),(10,iV (wr .i64 (Ah (ofNat i) 1)))],[]⟩):=by
 exact Ad (ks:=[kn h0,kA (kn h10) (kn h0),kn h1]) (by kernel_rfl)
end
def An2 (n:Nat) (f:Nat->E6) :Nat->V:=lkV AI [(0,.sl 6 n (λi=>eV (f i))),(4,iV 0)]
theorem AkS (L:LT) (p0:PT) (n:Nat) (f:Nat->E6) (s:Int) (i:Nat)  (hp0:p0 (Le (onP 0 p0 (Wh n f s i) L)) (SZ n f 0 0 (An2 n f ))=true):(A0 (Ai tab ⟨Ax tbY,onP 0 p0 (Wh n f s i) L,Gl⟩ Tryz.f170 [AL n f,.fn 171 []] [])).sem=some ((iV s),[]):=by
 exact Ad (ks:=[kn hp0]) (by kernel_rfl)
def Ol (n:Nat) (f:Nat->E6):Lp:=⟨bmK 21 0 [1,5,8,9,10],0,bmK 21 0 [5],0,n+1⟩
def Ta (n:Nat) (f:Nat->E6) (s:Int) (i:Nat) (j:Nat->V):St:=⟨jsV 21 0 j [(1,.fn 172 []),(5,iV s),(8,.sl 6 n (λi=>eV (f i))),(9,nV n),(10,nV i)],[]⟩
def Wi (n:Nat) (f:Nat->E6) (s:Int) (i:Nat):Ex×St:=(.ex 0,⟨jsV 21 0 Ab [(5,iV s)],[]⟩)
noncomputable def Lf (L:LT):St->T (Ex×St):=λst=>A8 tab ⟨Ax tbY,L,Gl⟩ (As Tryz.f170 0) 0 st
section
variable (L:LT) (n:Nat) (f:Nat->E6) (s:Int) (i:Nat)  (j:Nat->V)
include L n f s i j
theorem Ajp (h0:ilt (ofNat i) (ofNat n)=false):Ay (Lf L) (Ol n f) (Ta n f s i j)=some ((.ex 0),⟨jsV 21 0 Ab [(5,iV s)],[]⟩):=by
 exact Ad (ks:=[kn h0]) (by kernel_rfl)
theorem Ajn (h0:ilt (ofNat i) (ofNat n)=true) (h10:ile 0 (ofNat i)=true) (h1:AB (f i)=true):Ay (Lf L) (Ol n f) (Ta n f s i j)=some (.nm,⟨jsV 21 0 Ab [(1,.fn 172 []),(5,iV (wr .i64 (Ah s 1))),(8,.sl 6 n (λi=>eV (f i))),(9,nV n),(10,iV (wr .i64 (Ah (ofNat i) 1)))],[]⟩):=by
 exact Ad (ks:=[kn h0,kA (kn h10) (kn h0),kn h1]) (by kernel_rfl)
theorem Ajo (h0:ilt (ofNat i) (ofNat n)=true) (h10:ile 0 (ofNat i)=true) (h1:AB (f i)=false):Ay (Lf L) (Ol n f) (Ta n f s i j)=some (.nm,⟨jsV 21 0 Ab [(1,.fn 172 []),(5,iV s),(8,.sl 6 n (λi=>eV (f i))),(9,nV n),(10,iV (wr .i64 (Ah (ofNat i) 1)))],[]⟩):=by
 exact Ad (ks:=[kn h0,kA (kn h10) (kn h0),kn h1]) (by kernel_rfl)
end
def An3 (n:Nat) (f:Nat->E6) :Nat->V:=lkV AI [(0,.sl 6 n (λi=>eV (f i))),(4,iV 0)]
theorem AkT (L:LT) (p0:PT) (n:Nat) (f:Nat->E6) (s:Int) (i:Nat)  (hp0:p0 (Lf (onP 0 p0 (Wi n f s i) L)) (Ta n f 0 0 (An3 n f ))=true):(A0 (Ai tab ⟨Ax tbY,onP 0 p0 (Wi n f s i) L,Gl⟩ Tryz.f170 [AL n f,.fn 172 []] [])).sem=some ((iV s),[]):=by
 exact Ad (ks:=[kn hp0]) (by kernel_rfl)
def AmO:List V->A3:=H5 λn f=>.br (Av n) (out (bV (Es n f))) .fail
theorem Ag7 (L:LT) (n:Nat) (f:Nat->E6) (hn:n <= 4611686018427387904):∀ (e i:Nat) (j:Nat->V) (q:Nat),n=i+e->e<q->(∀ k,k<i->ieq (Bg (f k)) 0=true) ->
  (Au (Jr L) (Og n f) q (PM n f i j)).sem=some (match Es n f with | true=>Wg n f 0 | false=>We n f 0)
 | 0,i,j,q+1,h,_,hb=>by
  have:n=i:=by omega
  subst this;rw [show Es n f=true from AE.2 hb];exact Ag (AlM L n f _ j (Az (Nat.le_refl _)))
 | e+1,i,j,q+1,h,h2,hb=>by
  cases hp:ieq (Bg (f i)) 0 with
  | true =>
   rw [Ag (AlL L n f i j (ofNat_lt (by omega)) (Cp _) hp),AV,A1 (show i<n by omega) hn];exact Ag7 L n f hn e (i+1) Ab q (by omega) (by omega) λk hk=>by
    by_cases hki:k=i
    ·subst hki; exact hp
    ·exact hb k (by omega)
  | false =>
   have hm:Es n f=false:=by
    cases hm:Es n f with
    | false=>rfl
    | true =>have:=AE.1 hm i (by omega);rw [hp] at this;cases this
   rw [hm];exact Ag (AlK L n f i j (ofNat_lt (by omega)) (Cp _) hp)
theorem p98:An Tryz.prog Gl 79 AmO:=by
 refine Al A2 mixed Tryz.func79 (by kernel_rfl) (by kernel_rfl) λvs v h' h=>?_;obtain ⟨n,f,ha,hq⟩:=Do h;obtain ⟨hn,hq⟩:=Ac hq;have:=Aa hq;simp only [Prod.mk.injEq] at this;obtain ⟨rfl,rfl⟩:=this;have hn:n <= 4611686018427387904:=of_decide_eq_true hn;have hx:=Bq N1 [(0,Og n f)];have hL:=Bh [(0,Og n f)];refine ⟨_,AP Gl tbY [(0,Og n f)],[],ha,rfl,hx.1,hx.2,?_,Ap.refl _⟩;have hr:=λL i=>Ag7 L n f hn n 0 i (n+1) (by omega) (by omega) (λk hk=>by omega);cases hm:Es n f with
 | true =>rw [hm] at hr;exact Bn (Be hL hL) _ (AkR _ _ n f 0 (A5 (hr _ _)))
 | false =>rw [hm] at hr;exact Bn (Be hL hL) _ (AkQ _ _ n f 0 (A5 (hr _ _)))
def Ak (p:Nat->Bool):Nat->Nat
 | 0=>0
 | i+1=>match p i with
  | true=>Ak p i+1
  | false=>Ak p i
theorem BK (p:Nat->Bool):∀ i,Ak p i <= i
 | 0=>Nat.le_refl _
 | i+1=>by
  have:=BK p i;unfold Ak;split <;> omega
theorem Vz (L:LT) (n:Nat) (f:Nat->E6) (hn:n <= 4611686018427387904):∀ (e i:Nat) (j:Nat->V) (q:Nat),n=i+e->e<q ->
  (Au (Le L) (Oj n f) q (SZ n f (ofNat (Ak (λk=>A4 (f k)) i)) i j)).sem=some (Wh n f (ofNat (Ak (λk=>A4 (f k)) n)) 0)
 | 0,i,j,q+1,h,_=>by
  have:n=i:=by omega
  subst this;exact Ag (Ajm L n f _ _ j (Az (Nat.le_refl _)))
 | e+1,i,j,q+1,h,h2=>by
  have hc:=BK (λk=>A4 (f k)) i;cases hp:A4 (f i) with
  | true =>
   rw [Ag (Ajk L n f _ i j (ofNat_lt (by omega)) (Cp _) hp),AV,A1 (show i<n by omega) hn,A1 (show Ak (λk=>A4 (f k)) i<n by omega) hn,
    show Ak (λk=>A4 (f k)) i+1=Ak (λk=>A4 (f k)) (i+1) by rw [Ak,hp]]
   exact Vz L n f hn e (i+1) Ab q (by omega) (by omega)
  | false =>
   rw [Ag (Ajl L n f _ i j (ofNat_lt (by omega)) (Cp _) hp),AV,A1 (show i<n by omega) hn,
    show Ak (λk=>A4 (f k)) i=Ak (λk=>A4 (f k)) (i+1) by rw [Ak,hp]]
   exact Vz L n f hn e (i+1) Ab q (by omega) (by omega)
theorem V0 (L:LT) (n:Nat) (f:Nat->E6) (hn:n <= 4611686018427387904):∀ (e i:Nat) (j:Nat->V) (q:Nat),n=i+e->e<q ->
  (Au (Lf L) (Ol n f) q (Ta n f (ofNat (Ak (λk=>AB (f k)) i)) i j)).sem=some (Wi n f (ofNat (Ak (λk=>AB (f k)) n)) 0)
 | 0,i,j,q+1,h,_=>by
  have:n=i:=by omega
  subst this;exact Ag (Ajp L n f _ _ j (Az (Nat.le_refl _)))
 | e+1,i,j,q+1,h,h2=>by
  have hc:=BK (λk=>AB (f k)) i;cases hp:AB (f i) with
  | true =>
   rw [Ag (Ajn L n f _ i j (ofNat_lt (by omega)) (Cp _) hp),AV,A1 (show i<n by omega) hn,A1 (show Ak (λk=>AB (f k)) i<n by omega) hn,
    show Ak (λk=>AB (f k)) i+1=Ak (λk=>AB (f k)) (i+1) by rw [Ak,hp]]
   exact V0 L n f hn e (i+1) Ab q (by omega) (by omega)
  | false =>
   rw [Ag (Ajo L n f _ i j (ofNat_lt (by omega)) (Cp _) hp),AV,A1 (show i<n by omega) hn,
    show Ak (λk=>AB (f k)) i=Ak (λk=>AB (f k)) (i+1) by rw [Ak,hp]]
   exact V0 L n f hn e (i+1) Ab q (by omega) (by omega)
def Wt:List V->A3
 | [v,.fn g []]=>apL v λn f=>.br (Av n) (match Nat.beq g 171,Nat.beq g 172 with
  | true,_=>out (iV (ofNat (Ak (λk=>A4 (f k)) n)))
  | false,true=>out (iV (ofNat (Ak (λk=>AB (f k)) n)))
  | false,false=>.fail) .fail
 | _=>.fail
theorem p87:An Tryz.prog Gl 170 Wt:=by
 refine Al A2 mixed Tryz.func170 (by kernel_rfl) (by kernel_rfl) λvs v h' h=>?_;unfold Wt at h;split at h
 ·rename_i u g
  obtain ⟨n,f,ha,h1⟩:=Cz h;obtain ⟨hn,hq⟩:=Ac h1;clear h h1;have hn:n <= 4611686018427387904:=of_decide_eq_true hn;have hA:Bz [u,.fn g []] [AL n f,.fn g []]:=λS w cs hv=>by
   obtain ⟨c,l,rfl,q1,q2⟩:=hv;exact ⟨c,l,rfl,ha S w c q1,q2⟩
  split at hq
  ·rename_i h1
   have h1:=Nat.eq_of_beq_eq_true h1;subst h1;have:=Aa hq;simp only [Prod.mk.injEq] at this;obtain ⟨rfl,rfl⟩:=this;have hx:=Bq N1 [(0,Oj n f)];have hL:=Bh [(0,Oj n f)];exact ⟨_,AP Gl tbY [(0,Oj n f)],[],hA,rfl,hx.1,hx.2,Bn (Be hL hL) _ (AkS _ _ n f _ 0 (A5 (Vz _ n f hn n 0 _ (n+1) (by omega) (by omega)))),Ap.refl _⟩
  ·rename_i h2
   have h2:=Nat.eq_of_beq_eq_true h2;subst h2;have:=Aa hq;simp only [Prod.mk.injEq] at this;obtain ⟨rfl,rfl⟩:=this;have hx:=Bq N1 [(0,Ol n f)];have hL:=Bh [(0,Ol n f)];exact ⟨_,AP Gl tbY [(0,Ol n f)],[],hA,rfl,hx.1,hx.2,Bn (Be hL hL) _ (AkT _ _ n f _ 0 (A5 (V0 _ n f hn n 0 _ (n+1) (by omega) (by omega)))),Ap.refl _⟩
  ·cases hq
 ·cases h
end Go.Proofs.YtkbafjceglhjhaaGreatDoor.Ed
