/-
  Layer 4: which edges lead to other threads and locations, how many; whether all edges may be. No conditions.
-/
import Derived.Test.YtkgdhhieomndeaaGreatDoorCyA
namespace Go.Proofs.YtkgdhhieomndeaaGreatDoor.Ed
open Go.Sy
open Int (ofNat)
def B3 (e:E6):Bool:=Al (ile 1 e.kind) (ile e.kind 3)
def AK (e:E6):Bool:=Al (B3 e) e.ext
def AJ (e:E6):Bool:=Al (A6 (B3 e)) (A6 e.same)
theorem Adi (e:E6):(Az (Ak tab (AC Gl [] []) Tryz.f128 [eV e] [])).sem=(sel (ile 1 (e).kind) (sel (ile 1 (e).kind) (sel (ile 1 (e).kind) (sel (ile 1 (e).kind) (some ((bV (ile (e).kind 3)),[])) (some ((bV false),[]))) (sel (ile 1 (e).kind) (some (A9,[])) (some ((bV false),[])))) (sel (ile 1 (e).kind) none (sel (ile 1 (e).kind) (some (A9,[])) (some ((bV false),[]))))) (sel (ile 1 (e).kind) none (sel (ile 1 (e).kind) none (sel (ile 1 (e).kind) (some (A9,[])) (some ((bV false),[])))))):=by kernel_rfl
theorem Ao3:Ax Tryz.prog Gl 128 (BI λe=>bV (B3 e)):=by
 refine Ax.congr (AN A8 mixed Tryz.func128 (by kernel_rfl) (by kernel_rfl) (Γ:=AC Gl [] []) (AI Av.nil _)) λvs r h=>?_;obtain ⟨e,rfl,rfl⟩:=Ca h;refine (Adi e).trans ?_;unfold B3;cases ile 1 e.kind <;> rfl
theorem AF (i:Nat):ile 0 (ofNat i)=true:=Xm (by simp)
noncomputable def ZO:AP:=(128,BI λe=>bV (B3 e))::[]
theorem WD:Av Tryz.prog Gl ZO:=.cons Ao3 .nil
theorem Ahs (e:E6):(Az (Ak tab (AC Gl ZO []) Tryz.f112 [eV e] [])).sem=(sel (B3 e) (sel (B3 e) (sel (B3 e) (some ((bV (e).ext),[])) (some ((bV false),[]))) (sel (B3 e) (some (A9,[])) (some ((bV false),[])))) (sel (B3 e) none (sel (B3 e) (some (A9,[])) (some ((bV false),[]))))):=by kernel_rfl
theorem p88:Ax Tryz.prog Gl 112 (BI λe=>bV (AK e)):=by
 refine Ax.congr (AN A8 mixed Tryz.func112 (by kernel_rfl) (by kernel_rfl) (Γ:=AC Gl ZO []) (AI WD _)) λvs r h=>?_;obtain ⟨e,rfl,rfl⟩:=Ca h;refine (Ahs e).trans ?_;unfold AK;cases B3 e <;> rfl
theorem Ahr (e:E6):(Az (Ak tab (AC Gl ZO []) Tryz.f113 [eV e] [])).sem=(sel (A6 (B3 e)) (sel (A6 (B3 e)) (sel (A6 (B3 e)) (sel (A6 (B3 e)) (some ((bV (A6 (e).same)),[])) (some ((bV false),[]))) (sel (A6 (B3 e)) (some (A9,[])) (some ((bV false),[])))) (sel (A6 (B3 e)) none (sel (A6 (B3 e)) (some (A9,[])) (some ((bV false),[]))))) (sel (A6 (B3 e)) none (sel (A6 (B3 e)) none (sel (A6 (B3 e)) (some (A9,[])) (some ((bV false),[])))))):=by kernel_rfl
theorem p89:Ax Tryz.prog Gl 113 (BI λe=>bV (AJ e)):=by
 refine Ax.congr (AN A8 mixed Tryz.func113 (by kernel_rfl) (by kernel_rfl) (Γ:=AC Gl ZO []) (AI WD _)) λvs r h=>?_;obtain ⟨e,rfl,rfl⟩:=Ca h;refine (Ahr e).trans ?_;unfold AJ;cases B3 e <;> rfl
theorem OQ (e:E6):B3 e=bor (ieq e.kind 1) (bor (ieq e.kind 2) (ieq e.kind 3)):=by
 unfold B3;rw [Bool.eq_iff_iff];simp [Al,bor,ile,ieq];omega
theorem Ahu (e:E6):(Az (Ak tab (AC Gl [] []) Tryz.f78 [eV e] [])).sem=(sel (ieq (e).kind 1) (sel (ieq (e).kind 1) (sel (ieq (e).kind 1) (sel (ieq (e).kind 1) (some ((bV (e).ext),[])) none) none) none) (sel (ieq (e).kind 1) (sel (ieq (e).kind 1) (sel (ieq (e).kind 1) (some ((bV (e).ext),[])) none) none) (sel (ieq (e).kind 1) (sel (ieq (e).kind 1) (some ((bV (e).ext),[])) none) (sel (ieq (e).kind 1) (some ((bV (e).ext),[])) (sel (ieq (e).kind 2) (sel (ieq (e).kind 2) (sel (ieq (e).kind 2) (sel (ieq (e).kind 2) (some ((bV (e).ext),[])) none) none) none) (sel (ieq (e).kind 2) (sel (ieq (e).kind 2) (sel (ieq (e).kind 2) (some ((bV (e).ext),[])) none) none) (sel (ieq (e).kind 2) (sel (ieq (e).kind 2) (some ((bV (e).ext),[])) none) (sel (ieq (e).kind 2) (some ((bV (e).ext),[])) (sel (ieq (e).kind 3) (sel (ieq (e).kind 3) (sel (ieq (e).kind 3) (some ((bV (e).ext),[])) (some ((bV false),[]))) (sel (ieq (e).kind 3) (some (A9,[])) (some ((bV false),[])))) (sel (ieq (e).kind 3) none (sel (ieq (e).kind 3) (some (A9,[])) (some ((bV false),[]))))))))))))):=by kernel_rfl
theorem p60:Ax Tryz.prog Gl 78 (BI λe=>bV (AK e)):=by
 refine Ax.congr (AN A8 mixed Tryz.func78 (by kernel_rfl) (by kernel_rfl) (Γ:=AC Gl [] []) (AI Av.nil _)) λvs r h=>?_;obtain ⟨e,rfl,rfl⟩:=Ca h;refine (Ahu e).trans ?_;unfold AK;rw [OQ];cases ieq e.kind 1 <;> cases ieq e.kind 2 <;> cases ieq e.kind 3 <;> rfl
theorem Aht (e:E6):(Az (Ak tab (AC Gl [] []) Tryz.f79 [eV e] [])).sem=(sel (A6 (ieq (e).kind 1)) (sel (A6 (ieq (e).kind 1)) (sel (A6 (ieq (e).kind 1)) (sel (A6 (ieq (e).kind 1)) (sel (A6 (ieq (e).kind 2)) (sel (A6 (ieq (e).kind 2)) (sel (A6 (ieq (e).kind 2)) (sel (A6 (ieq (e).kind 2)) (sel (A6 (ieq (e).kind 3)) (sel (A6 (ieq (e).kind 3)) (sel (A6 (ieq (e).kind 3)) (sel (A6 (ieq (e).kind 3)) (some ((bV (A6 (e).same)),[])) (some ((bV false),[]))) (sel (A6 (ieq (e).kind 3)) (some (A9,[])) (some ((bV false),[])))) (sel (A6 (ieq (e).kind 3)) none (sel (A6 (ieq (e).kind 3)) (some (A9,[])) (some ((bV false),[]))))) (sel (A6 (ieq (e).kind 3)) none (sel (A6 (ieq (e).kind 3)) none (sel (A6 (ieq (e).kind 3)) (some (A9,[])) (some ((bV false),[])))))) (some ((bV false),[]))) (sel (A6 (ieq (e).kind 2)) none (some ((bV false),[])))) (sel (A6 (ieq (e).kind 2)) none (sel (A6 (ieq (e).kind 2)) none (some ((bV false),[]))))) (sel (A6 (ieq (e).kind 2)) none (sel (A6 (ieq (e).kind 2)) none (sel (A6 (ieq (e).kind 2)) none (some ((bV false),[])))))) (some ((bV false),[]))) (sel (A6 (ieq (e).kind 1)) none (some ((bV false),[])))) (sel (A6 (ieq (e).kind 1)) none (sel (A6 (ieq (e).kind 1)) none (some ((bV false),[]))))) (sel (A6 (ieq (e).kind 1)) none (sel (A6 (ieq (e).kind 1)) none (sel (A6 (ieq (e).kind 1)) none (some ((bV false),[])))))):=by kernel_rfl
theorem p61:Ax Tryz.prog Gl 79 (BI λe=>bV (AJ e)):=by
 refine Ax.congr (AN A8 mixed Tryz.func79 (by kernel_rfl) (by kernel_rfl) (Γ:=AC Gl [] []) (AI Av.nil _)) λvs r h=>?_;obtain ⟨e,rfl,rfl⟩:=Ca h;refine (Aht e).trans ?_;unfold AJ;rw [OQ];cases ieq e.kind 1 <;> cases ieq e.kind 2 <;> cases ieq e.kind 3 <;> rfl
noncomputable def tbY:AP:=(76,BI λe=>iV (Bc e))::(112,BI λe=>bV (AK e))::(113,BI λe=>bV (AJ e))::[]
theorem N6:Av Tryz.prog Gl tbY:=.cons p29 <| .cons p88 <| .cons p89 .nil
def Oi (n:Nat) (f:Nat->E6):Lp:=⟨bmK 16 0 [0,2,3],0,bmK 16 0 [2],0,n+1⟩
def PE (n:Nat) (f:Nat->E6) (i:Nat) (j:Nat->V):St:=⟨jsV 16 0 j [(0,.sl 6 n (λi=>eV (f i))),(2,bV false),(3,nV i)],[]⟩
def Wf (n:Nat) (f:Nat->E6) (i:Nat):Ex×St:=(.ex 0,⟨jsV 16 0 Aa [(2,bV false)],[]⟩)
def We (n:Nat) (f:Nat->E6) (i:Nat):Ex×St:=(.rt,⟨jsV 16 0 Aa [(2,bV false)],[]⟩)
noncomputable def Ja (L:LT):St->T (Ex×St):=λst=>A7 tab ⟨Ap tbY,L,Gl⟩ (Ar Tryz.f71 0) 0 st
section
variable (L:LT) (n:Nat) (f:Nat->E6) (i:Nat)  (j:Nat->V)
include L n f i j
theorem AlC (h0:ilt (ofNat i) (ofNat n)=false):Ah (Ja L) (Oi n f) (PE n f i j)=some ((.ex 0),⟨jsV 16 0 Aa [(2,bV false)],[]⟩):=by
 exact Ab (ks:=[kn h0]) (by kernel_rfl)
theorem AlA (h0:ilt (ofNat i) (ofNat n)=true) (h10:ile 0 (ofNat i)=true) (h1:ieq (Bc (f i)) 0=false):Ah (Ja L) (Oi n f) (PE n f i j)=some (.rt,⟨jsV 16 0 Aa [(2,bV false)],[]⟩):=by
 exact Ab (ks:=[kn h0,kA (kn h10) (kn h0),kN (kn h1)]) (by kernel_rfl)
theorem AlB (h0:ilt (ofNat i) (ofNat n)=true) (h10:ile 0 (ofNat i)=true) (h1:ieq (Bc (f i)) 0=true):Ah (Ja L) (Oi n f) (PE n f i j)=some (.nm,⟨jsV 16 0 Aa [(0,.sl 6 n (λi=>eV (f i))),(2,bV false),(3,iV (wr .i64 (Af (ofNat i) 1)))],[]⟩):=by
 exact Ab (ks:=[kn h0,kA (kn h10) (kn h0),kN (kn h1)]) (by kernel_rfl)
end
def Agz (n:Nat) (f:Nat->E6) :Nat->V:=lkV A9 []
section
variable (L:LT) (p0:PT) (n:Nat) (f:Nat->E6) (i:Nat)
include L p0 n f i
theorem AjY  (hp0:p0 (Ja (onP 0 p0 (Wf n f i) L)) (PE n f 0 (Agz n f ))=true):(Az (Ak tab ⟨Ap tbY,onP 0 p0 (Wf n f i) L,Gl⟩ Tryz.f71 [AQ n f] [])).sem=some ((bV true),[]):=by
 exact Ab (ks:=[kn hp0]) (by kernel_rfl)
theorem AjX  (hp0:p0 (Ja (onP 0 p0 (We n f i) L)) (PE n f 0 (Agz n f ))=true):(Az (Ak tab ⟨Ap tbY,onP 0 p0 (We n f i) L,Gl⟩ Tryz.f71 [AQ n f] [])).sem=some ((bV false),[]):=by
 exact Ab (ks:=[kn hp0]) (by kernel_rfl)
end
def Ol (n:Nat) (f:Nat->E6):Lp:=⟨bmK 21 0 [1,5,8,9,10],0,bmK 21 0 [5],0,n+1⟩
def SJ (n:Nat) (f:Nat->E6) (s:Int) (i:Nat) (j:Nat->V):St:=⟨jsV 21 0 j [(1,.fn 112 []),(5,iV s),(8,.sl 6 n (λi=>eV (f i))),(9,nV n),(10,nV i)],[]⟩
def Wg (n:Nat) (f:Nat->E6) (s:Int) (i:Nat):Ex×St:=(.ex 0,⟨jsV 21 0 Aa [(5,iV s)],[]⟩)
noncomputable def KZ (L:LT):St->T (Ex×St):=λst=>A7 tab ⟨Ap tbY,L,Gl⟩ (Ar Tryz.f111 0) 0 st
section
variable (L:LT) (n:Nat) (f:Nat->E6) (s:Int) (i:Nat)  (j:Nat->V)
include L n f s i j
theorem Aiv (h0:ilt (ofNat i) (ofNat n)=false):Ah (KZ L) (Ol n f) (SJ n f s i j)=some ((.ex 0),⟨jsV 21 0 Aa [(5,iV s)],[]⟩):=by
 exact Ab (ks:=[kn h0]) (by kernel_rfl)
theorem Ait (h0:ilt (ofNat i) (ofNat n)=true) (h10:ile 0 (ofNat i)=true) (h1:AK (f i)=true):Ah (KZ L) (Ol n f) (SJ n f s i j)=some (.nm,⟨jsV 21 0 Aa [(1,.fn 112 []),(5,iV (wr .i64 (Af s 1))),(8,.sl 6 n (λi=>eV (f i))),(9,nV n),(10,iV (wr .i64 (Af (ofNat i) 1)))],[]⟩):=by
 exact Ab (ks:=[kn h0,kA (kn h10) (kn h0),kn h1]) (by kernel_rfl)
theorem Aiu (h0:ilt (ofNat i) (ofNat n)=true) (h10:ile 0 (ofNat i)=true) (h1:AK (f i)=false):Ah (KZ L) (Ol n f) (SJ n f s i j)=some (.nm,⟨jsV 21 0 Aa [(1,.fn 112 []),(5,iV s),(8,.sl 6 n (λi=>eV (f i))),(9,nV n),(10,iV (wr .i64 (Af (ofNat i) 1)))],[]⟩):=by
 exact Ab (ks:=[kn h0,kA (kn h10) (kn h0),kn h1]) (by kernel_rfl)
end
def Amw (n:Nat) (f:Nat->E6) :Nat->V:=lkV A9 [(0,.sl 6 n (λi=>eV (f i))),(4,iV 0)]
theorem AjZ (L:LT) (p0:PT) (n:Nat) (f:Nat->E6) (s:Int) (i:Nat)  (hp0:p0 (KZ (onP 0 p0 (Wg n f s i) L)) (SJ n f 0 0 (Amw n f ))=true):(Az (Ak tab ⟨Ap tbY,onP 0 p0 (Wg n f s i) L,Gl⟩ Tryz.f111 [AQ n f,.fn 112 []] [])).sem=some ((iV s),[]):=by
 exact Ab (ks:=[kn hp0]) (by kernel_rfl)
def Om (n:Nat) (f:Nat->E6):Lp:=⟨bmK 21 0 [1,5,8,9,10],0,bmK 21 0 [5],0,n+1⟩
def SK (n:Nat) (f:Nat->E6) (s:Int) (i:Nat) (j:Nat->V):St:=⟨jsV 21 0 j [(1,.fn 113 []),(5,iV s),(8,.sl 6 n (λi=>eV (f i))),(9,nV n),(10,nV i)],[]⟩
def Wh (n:Nat) (f:Nat->E6) (s:Int) (i:Nat):Ex×St:=(.ex 0,⟨jsV 21 0 Aa [(5,iV s)],[]⟩)
noncomputable def La (L:LT):St->T (Ex×St):=λst=>A7 tab ⟨Ap tbY,L,Gl⟩ (Ar Tryz.f111 0) 0 st
section
variable (L:LT) (n:Nat) (f:Nat->E6) (s:Int) (i:Nat)  (j:Nat->V)
include L n f s i j
theorem Aiy (h0:ilt (ofNat i) (ofNat n)=false):Ah (La L) (Om n f) (SK n f s i j)=some ((.ex 0),⟨jsV 21 0 Aa [(5,iV s)],[]⟩):=by
 exact Ab (ks:=[kn h0]) (by kernel_rfl)
theorem Aiw (h0:ilt (ofNat i) (ofNat n)=true) (h10:ile 0 (ofNat i)=true) (h1:AJ (f i)=true):Ah (La L) (Om n f) (SK n f s i j)=some (.nm,⟨jsV 21 0 Aa [(1,.fn 113 []),(5,iV (wr .i64 (Af s 1))),(8,.sl 6 n (λi=>eV (f i))),(9,nV n),(10,iV (wr .i64 (Af (ofNat i) 1)))],[]⟩):=by
 exact Ab (ks:=[kn h0,kA (kn h10) (kn h0),kn h1]) (by kernel_rfl)
theorem Aix (h0:ilt (ofNat i) (ofNat n)=true) (h10:ile 0 (ofNat i)=true) (h1:AJ (f i)=false):Ah (La L) (Om n f) (SK n f s i j)=some (.nm,⟨jsV 21 0 Aa [(1,.fn 113 []),(5,iV s),(8,.sl 6 n (λi=>eV (f i))),(9,nV n),(10,iV (wr .i64 (Af (ofNat i) 1)))],[]⟩):=by
 exact Ab (ks:=[kn h0,kA (kn h10) (kn h0),kn h1]) (by kernel_rfl)
end
def Amx (n:Nat) (f:Nat->E6) :Nat->V:=lkV A9 [(0,.sl 6 n (λi=>eV (f i))),(4,iV 0)]
theorem Aka (L:LT) (p0:PT) (n:Nat) (f:Nat->E6) (s:Int) (i:Nat)  (hp0:p0 (La (onP 0 p0 (Wh n f s i) L)) (SK n f 0 0 (Amx n f ))=true):(Az (Ak tab ⟨Ap tbY,onP 0 p0 (Wh n f s i) L,Gl⟩ Tryz.f111 [AQ n f,.fn 113 []] [])).sem=some ((iV s),[]):=by
 exact Ab (ks:=[kn hp0]) (by kernel_rfl)
def AiX:List V->AR:=FT λn f=>.br (Aj n) (out (bV (Co n f))) .fail
theorem AfJ (L:LT) (n:Nat) (f:Nat->E6) (hn:n <= 4611686018427387904):∀ (e i:Nat) (j:Nat->V) (q:Nat),n=i+e->e<q->(∀ k,k<i->ieq (Bc (f k)) 0=true) ->
  (A3 (Ja L) (Oi n f) q (PE n f i j)).sem=some (match Co n f with | true=>Wf n f 0 | false=>We n f 0)
 | 0,i,j,q+1,h,_,hb=>by
  have:n=i:=by omega
  subst this;rw [show Co n f=true from A0.2 hb];exact Ae (AlC L n f _ j (A1 (Nat.le_refl _)))
 | e+1,i,j,q+1,h,h2,hb=>by
  cases hp:ieq (Bc (f i)) 0 with
  | true =>
   rw [Ae (AlB L n f i j (ofNat_lt (by omega)) (AF _) hp),Ay,Aq (show i<n by omega) hn];exact AfJ L n f hn e (i+1) Aa q (by omega) (by omega) λk hk=>by
    by_cases hki:k=i
    ·subst hki; exact hp
    ·exact hb k (by omega)
  | false =>
   have hm:Co n f=false:=by
    cases hm:Co n f with
    | false=>rfl
    | true =>have:=A0.1 hm i (by omega);rw [hp] at this;cases this
   rw [hm];exact Ae (AlA L n f i j (ofNat_lt (by omega)) (AF _) hp)
theorem p98:Ax Tryz.prog Gl 71 AiX:=by
 refine Am A8 mixed Tryz.func71 (by kernel_rfl) (by kernel_rfl) λvs v h' h=>?_;obtain ⟨n,f,ha,hq⟩:=Ct h;obtain ⟨hn,hq⟩:=Ad hq;have:=Ac hq;simp only [Prod.mk.injEq] at this;obtain ⟨rfl,rfl⟩:=this;have hn:n <= 4611686018427387904:=of_decide_eq_true hn;have hx:=AI N6 [(0,Oi n f)];have hL:=AL [(0,Oi n f)];refine ⟨_,AC Gl tbY [(0,Oi n f)],[],ha,rfl,hx.1,hx.2,?_,Aw.refl _⟩;have hr:=λL i=>AfJ L n f hn n 0 i (n+1) (by omega) (by omega) (λk hk=>by omega);cases hm:Co n f with
 | true =>rw [hm] at hr;exact AH (AA hL hL) _ (AjY _ _ n f 0 (Au (hr _ _)))
 | false =>rw [hm] at hr;exact AH (AA hL hL) _ (AjX _ _ n f 0 (Au (hr _ _)))
def An (p:Nat->Bool):Nat->Nat
 | 0=>0
 | i+1=>match p i with
  | true=>An p i+1
  | false=>An p i
theorem Be (p:Nat->Bool):∀ i,An p i <= i
 | 0=>Nat.le_refl _
 | i+1=>by
  have:=Be p i;unfold An;split <;> omega
theorem Vk (L:LT) (n:Nat) (f:Nat->E6) (hn:n <= 4611686018427387904):∀ (e i:Nat) (j:Nat->V) (q:Nat),n=i+e->e<q ->
  (A3 (KZ L) (Ol n f) q (SJ n f (ofNat (An (λk=>AK (f k)) i)) i j)).sem=some (Wg n f (ofNat (An (λk=>AK (f k)) n)) 0)
 | 0,i,j,q+1,h,_=>by
  have:n=i:=by omega
  subst this;exact Ae (Aiv L n f _ _ j (A1 (Nat.le_refl _)))
 | e+1,i,j,q+1,h,h2=>by
  have hc:=Be (λk=>AK (f k)) i;cases hp:AK (f i) with
  | true =>
   rw [Ae (Ait L n f _ i j (ofNat_lt (by omega)) (AF _) hp),Ay,Aq (show i<n by omega) hn,Aq (show An (λk=>AK (f k)) i<n by omega) hn,
    show An (λk=>AK (f k)) i+1=An (λk=>AK (f k)) (i+1) by rw [An,hp]]
   exact Vk L n f hn e (i+1) Aa q (by omega) (by omega)
  | false =>
   rw [Ae (Aiu L n f _ i j (ofNat_lt (by omega)) (AF _) hp),Ay,Aq (show i<n by omega) hn,
    show An (λk=>AK (f k)) i=An (λk=>AK (f k)) (i+1) by rw [An,hp]]
   exact Vk L n f hn e (i+1) Aa q (by omega) (by omega)
theorem Vl (L:LT) (n:Nat) (f:Nat->E6) (hn:n <= 4611686018427387904):∀ (e i:Nat) (j:Nat->V) (q:Nat),n=i+e->e<q ->
  (A3 (La L) (Om n f) q (SK n f (ofNat (An (λk=>AJ (f k)) i)) i j)).sem=some (Wh n f (ofNat (An (λk=>AJ (f k)) n)) 0)
 | 0,i,j,q+1,h,_=>by
  have:n=i:=by omega
  subst this;exact Ae (Aiy L n f _ _ j (A1 (Nat.le_refl _)))
 | e+1,i,j,q+1,h,h2=>by
  have hc:=Be (λk=>AJ (f k)) i;cases hp:AJ (f i) with
  | true =>
   rw [Ae (Aiw L n f _ i j (ofNat_lt (by omega)) (AF _) hp),Ay,Aq (show i<n by omega) hn,Aq (show An (λk=>AJ (f k)) i<n by omega) hn,
    show An (λk=>AJ (f k)) i+1=An (λk=>AJ (f k)) (i+1) by rw [An,hp]]
   exact Vl L n f hn e (i+1) Aa q (by omega) (by omega)
  | false =>
   rw [Ae (Aix L n f _ i j (ofNat_lt (by omega)) (AF _) hp),Ay,Aq (show i<n by omega) hn,
    show An (λk=>AJ (f k)) i=An (λk=>AJ (f k)) (i+1) by rw [An,hp]]
   exact Vl L n f hn e (i+1) Aa q (by omega) (by omega)
def Wq:List V->AR
 | [v,.fn g []]=>apL v λn f=>.br (Aj n) (match Nat.beq g 112,Nat.beq g 113 with
  | true,_=>out (iV (ofNat (An (λk=>AK (f k)) n)))
  | false,true=>out (iV (ofNat (An (λk=>AJ (f k)) n)))
  | false,false=>.fail) .fail
 | _=>.fail
theorem p87:Ax Tryz.prog Gl 111 Wq:=by
 refine Am A8 mixed Tryz.func111 (by kernel_rfl) (by kernel_rfl) λvs v h' h=>?_;unfold Wq at h;split at h
 ·rename_i u g
  obtain ⟨n,f,ha,h1⟩:=Cl h;obtain ⟨hn,hq⟩:=Ad h1;clear h h1;have hn:n <= 4611686018427387904:=of_decide_eq_true hn;have hA:Bf [u,.fn g []] [AQ n f,.fn g []]:=λS w cs hv=>by
   obtain ⟨c,l,rfl,q1,q2⟩:=hv;exact ⟨c,l,rfl,ha S w c q1,q2⟩
  split at hq
  ·rename_i h1
   have h1:=Nat.eq_of_beq_eq_true h1;subst h1;have:=Ac hq;simp only [Prod.mk.injEq] at this;obtain ⟨rfl,rfl⟩:=this;have hx:=AI N6 [(0,Ol n f)];have hL:=AL [(0,Ol n f)];exact ⟨_,AC Gl tbY [(0,Ol n f)],[],hA,rfl,hx.1,hx.2,AH (AA hL hL) _ (AjZ _ _ n f _ 0 (Au (Vk _ n f hn n 0 _ (n+1) (by omega) (by omega)))),Aw.refl _⟩
  ·rename_i h2
   have h2:=Nat.eq_of_beq_eq_true h2;subst h2;have:=Ac hq;simp only [Prod.mk.injEq] at this;obtain ⟨rfl,rfl⟩:=this;have hx:=AI N6 [(0,Om n f)];have hL:=AL [(0,Om n f)];exact ⟨_,AC Gl tbY [(0,Om n f)],[],hA,rfl,hx.1,hx.2,AH (AA hL hL) _ (Aka _ _ n f _ 0 (Au (Vl _ n f hn n 0 _ (n+1) (by omega) (by omega)))),Aw.refl _⟩
  ·cases hq
 ·cases h
end Go.Proofs.YtkgdhhieomndeaaGreatDoor.Ed
