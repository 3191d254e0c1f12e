/-
  Layer 4: which edges lead to other threads and locations, how many; whether all edges may be. No conditions.
-/
import Derived.Test.YtjhnfomefcngfaaCyA
namespace Go.Proofs.Ytjhnfomefcngfaa.Ed
open Go.Sy
open Int (ofNat)
def Bw (e:E6):Bool:=Af (ile 1 e.kind) (ile e.kind 3)
def As (e:E6):Bool:=Af (Bw e) e.ext
def Ar (e:E6):Bool:=Af (Ah (Bw e)) (Ah e.same)
theorem Aaz (e:E6):(A2 (An tab (AT Gl [] []) Try.f111 [eV e] [])).sem = (sel (ile 1 (e).kind) (sel (ile 1 (e).kind) (sel (ile 1 (e).kind) (sel (ile 1 (e).kind) (some ((bV (ile (e).kind 3)),[])) (some ((bV false),[]))) (sel (ile 1 (e).kind) (some (A9,[])) (some ((bV false),[])))) (sel (ile 1 (e).kind) none (sel (ile 1 (e).kind) (some (A9,[])) (some ((bV false),[]))))) (sel (ile 1 (e).kind) none (sel (ile 1 (e).kind) none (sel (ile 1 (e).kind) (some (A9,[])) (some ((bV false),[])))))):=by kernel_rfl
theorem Akm:AA Try.prog Gl 111 (BR λe=>bV (Bw e)):=by
 refine AA.congr (AO AQ AR Try.func111 (by kernel_rfl) (by kernel_rfl) (Γ:=AT Gl [] []) (AS AC.nil _)) λvs r h=>?_
 obtain ⟨e,rfl,rfl⟩:=Ca h
 refine (Aaz e).trans ?_
 unfold Bw
 cases ile 1 e.kind <;> rfl
theorem AK (i:Nat):ile 0 (ofNat i) = true:=VC (by simp)
noncomputable def XJ:List (Nat × (List V->T (V × List Blk))):=(111,BR λe=>bV (Bw e)) :: []
theorem UZ:AC Try.prog Gl XJ:=.cons Akm .nil
theorem AdZ (e:E6):(A2 (An tab (AT Gl XJ []) Try.f83 [eV e] [])).sem = (sel (Bw e) (sel (Bw e) (sel (Bw e) (some ((bV (e).ext),[])) (some ((bV false),[]))) (sel (Bw e) (some (A9,[])) (some ((bV false),[])))) (sel (Bw e) none (sel (Bw e) (some (A9,[])) (some ((bV false),[]))))):=by kernel_rfl
theorem p88:AA Try.prog Gl 83 (BR λe=>bV (As e)):=by
 refine AA.congr (AO AQ AR Try.func83 (by kernel_rfl) (by kernel_rfl) (Γ:=AT Gl XJ []) (AS UZ _)) λvs r h=>?_
 obtain ⟨e,rfl,rfl⟩:=Ca h
 refine (AdZ e).trans ?_
 unfold As
 cases Bw e <;> rfl
theorem AdY (e:E6):(A2 (An tab (AT Gl XJ []) Try.f84 [eV e] [])).sem = (sel (Ah (Bw e)) (sel (Ah (Bw e)) (sel (Ah (Bw e)) (sel (Ah (Bw e)) (some ((bV (Ah (e).same)),[])) (some ((bV false),[]))) (sel (Ah (Bw e)) (some (A9,[])) (some ((bV false),[])))) (sel (Ah (Bw e)) none (sel (Ah (Bw e)) (some (A9,[])) (some ((bV false),[]))))) (sel (Ah (Bw e)) none (sel (Ah (Bw e)) none (sel (Ah (Bw e)) (some (A9,[])) (some ((bV false),[])))))):=by kernel_rfl
theorem p89:AA Try.prog Gl 84 (BR λe=>bV (Ar e)):=by
 refine AA.congr (AO AQ AR Try.func84 (by kernel_rfl) (by kernel_rfl) (Γ:=AT Gl XJ []) (AS UZ _)) λvs r h=>?_
 obtain ⟨e,rfl,rfl⟩:=Ca h
 refine (AdY e).trans ?_
 unfold Ar
 cases Bw e <;> rfl
theorem O5 (e:E6):Bw e = bor (ieq e.kind 1) (bor (ieq e.kind 2) (ieq e.kind 3)):=by
 unfold Bw
 rw [Bool.eq_iff_iff]
 simp [Af,bor,ile,ieq]
 omega
theorem Aeb (e:E6):(A2 (An tab (AT Gl [] []) Try.f22 [eV e] [])).sem = (sel (ieq (e).kind 1) (sel (ieq (e).kind 1) (sel (ieq (e).kind 1) (sel (ieq (e).kind 1) (some ((bV (e).ext),[])) none) none) none) (sel (ieq (e).kind 1) (sel (ieq (e).kind 1) (sel (ieq (e).kind 1) (some ((bV (e).ext),[])) none) none) (sel (ieq (e).kind 1) (sel (ieq (e).kind 1) (some ((bV (e).ext),[])) none) (sel (ieq (e).kind 1) (some ((bV (e).ext),[])) (sel (ieq (e).kind 2) (sel (ieq (e).kind 2) (sel (ieq (e).kind 2) (sel (ieq (e).kind 2) (some ((bV (e).ext),[])) none) none) none) (sel (ieq (e).kind 2) (sel (ieq (e).kind 2) (sel (ieq (e).kind 2) (some ((bV (e).ext),[])) none) none) (sel (ieq (e).kind 2) (sel (ieq (e).kind 2) (some ((bV (e).ext),[])) none) (sel (ieq (e).kind 2) (some ((bV (e).ext),[])) (sel (ieq (e).kind 3) (sel (ieq (e).kind 3) (sel (ieq (e).kind 3) (some ((bV (e).ext),[])) (some ((bV false),[]))) (sel (ieq (e).kind 3) (some (A9,[])) (some ((bV false),[])))) (sel (ieq (e).kind 3) none (sel (ieq (e).kind 3) (some (A9,[])) (some ((bV false),[]))))))))))))):=by kernel_rfl
theorem p60:AA Try.prog Gl 22 (BR λe=>bV (As e)):=by
 refine AA.congr (AO AQ AR Try.func22 (by kernel_rfl) (by kernel_rfl) (Γ:=AT Gl [] []) (AS AC.nil _)) λvs r h=>?_
 obtain ⟨e,rfl,rfl⟩:=Ca h
 refine (Aeb e).trans ?_
 unfold As
 rw [O5]
 cases ieq e.kind 1 <;> cases ieq e.kind 2 <;> cases ieq e.kind 3 <;> rfl
theorem Aea (e:E6):(A2 (An tab (AT Gl [] []) Try.f23 [eV e] [])).sem = (sel (Ah (ieq (e).kind 1)) (sel (Ah (ieq (e).kind 1)) (sel (Ah (ieq (e).kind 1)) (sel (Ah (ieq (e).kind 1)) (sel (Ah (ieq (e).kind 2)) (sel (Ah (ieq (e).kind 2)) (sel (Ah (ieq (e).kind 2)) (sel (Ah (ieq (e).kind 2)) (sel (Ah (ieq (e).kind 3)) (sel (Ah (ieq (e).kind 3)) (sel (Ah (ieq (e).kind 3)) (sel (Ah (ieq (e).kind 3)) (some ((bV (Ah (e).same)),[])) (some ((bV false),[]))) (sel (Ah (ieq (e).kind 3)) (some (A9,[])) (some ((bV false),[])))) (sel (Ah (ieq (e).kind 3)) none (sel (Ah (ieq (e).kind 3)) (some (A9,[])) (some ((bV false),[]))))) (sel (Ah (ieq (e).kind 3)) none (sel (Ah (ieq (e).kind 3)) none (sel (Ah (ieq (e).kind 3)) (some (A9,[])) (some ((bV false),[])))))) (some ((bV false),[]))) (sel (Ah (ieq (e).kind 2)) none (some ((bV false),[])))) (sel (Ah (ieq (e).kind 2)) none (sel (Ah (ieq (e).kind 2)) none (some ((bV false),[]))))) (sel (Ah (ieq (e).kind 2)) none (sel (Ah (ieq (e).kind 2)) none (sel (Ah (ieq (e).kind 2)) none (some ((bV false),[])))))) (some ((bV false),[]))) (sel (Ah (ieq (e).kind 1)) none (some ((bV false),[])))) (sel (Ah (ieq (e).kind 1)) none (sel (Ah (ieq (e).kind 1)) none (some ((bV false),[]))))) (sel (Ah (ieq (e).kind 1)) none (sel (Ah (ieq (e).kind 1)) none (sel (Ah (ieq (e).kind 1)) none (some ((bV false),[])))))):=by kernel_rfl
theorem p61:AA Try.prog Gl 23 (BR λe=>bV (Ar e)):=by
 refine AA.congr (AO AQ AR Try.func23 (by kernel_rfl) (by kernel_rfl) (Γ:=AT Gl [] []) (AS AC.nil _)) λvs r h=>?_
 obtain ⟨e,rfl,rfl⟩:=Ca h
 refine (Aea e).trans ?_
 unfold Ar
 rw [O5]
 cases ieq e.kind 1 <;> cases ieq e.kind 2 <;> cases ieq e.kind 3 <;> rfl
noncomputable def tbY:List (Nat × (List V->T (V × List Blk))):=(64,BR λe=>iV (AM e)) :: (83,BR λe=>bV (As e)) :: (84,BR λe=>bV (Ar e)) :: []
theorem Nd:AC Try.prog Gl tbY:=.cons p29 <| .cons p88 <| .cons p89 .nil
def NK (n:Nat) (f:Nat->E6):Lp:=⟨(bmK 16 0 [0,2,3]),0,bmK 16 0 [2],0,n+1⟩
def LZ (n:Nat) (f:Nat->E6) (i:Nat) (j:Nat->V):St:=⟨(jsV 16 0 j [(0,.sl 6 n (λi=>eV (f i))),(2,bV false),(3,nV i)]),[]⟩
def Ra (n:Nat) (f:Nat->E6) (i:Nat):Ex × St:=(.ex 0,⟨(jsV 16 0 (λ_=>.und) [(2,bV false)]),[]⟩)
def QZ (n:Nat) (f:Nat->E6) (i:Nat):Ex × St:=(.rt,⟨(jsV 16 0 (λ_=>.und) [(2,bV false)]),[]⟩)
noncomputable def Gy (L:LT):St->T (Ex × St):=λst=>AG tab ⟨Aq tbY,L,Gl⟩ (A1 Try.f94 0) 0 st
section
variable (L:LT) (n:Nat) (f:Nat->E6) (i:Nat)  (j:Nat->V)
include L n f i j
theorem Ais (h0:ilt (ofNat i) (ofNat n) = false):Aj (Gy L) (NK n f) (LZ n f i j) = some ((.ex 0),⟨(jsV 16 0 (λ_=>.und) [(2,(bV false))]),[]⟩):=Aa [false] [ilt (ofNat i) (ofNat n)] (by kernel_rfl) (by simp only [h0] <;> rfl)
theorem Aiq (h0:ilt (ofNat i) (ofNat n) = true) (h10:ile 0 (ofNat i) = true) (h1:ieq (AM (f i)) 0 = false):Aj (Gy L) (NK n f) (LZ n f i j) = some (.rt,⟨(jsV 16 0 (λ_=>.und) [(2,(bV false))]),[]⟩):=Aa [true,true,true] [ilt (ofNat i) (ofNat n),Af (ile 0 (ofNat i)) (ilt (ofNat i) (ofNat n)),Ah (ieq (AM (f i)) 0)] (by kernel_rfl) (by simp only [*] <;> rfl)
theorem Air (h0:ilt (ofNat i) (ofNat n) = true) (h10:ile 0 (ofNat i) = true) (h1:ieq (AM (f i)) 0 = true):Aj (Gy L) (NK n f) (LZ n f i j) = some (.nm,⟨(jsV 16 0 (λ_=>.und) [(0,(.sl 6 n (λi=>eV (f i)))),(2,(bV false)),(3,(iV (wr .i64 (Ae (ofNat i) 1))))]),[]⟩):=Aa [true,true,false] [ilt (ofNat i) (ofNat n),Af (ile 0 (ofNat i)) (ilt (ofNat i) (ofNat n)),Ah (ieq (AM (f i)) 0)] (by kernel_rfl) (by simp only [*] <;> rfl)
end
def VE (n:Nat) (f:Nat->E6) :Nat->V:=lkV A9 []
section
variable (L:LT) (p0:PT) (n:Nat) (f:Nat->E6) (i:Nat)
include L p0 n f i
theorem AgN  (hp0:p0 (Gy (onP 0 p0 (Ra n f i) L)) (LZ n f 0 (VE n f )) = true):(A2 (An tab ⟨Aq tbY,onP 0 p0 (Ra n f i) L,Gl⟩ Try.f94 [A3 n f] [])).sem = some ((bV true),[]):=Aa [true] [p0 (Gy (onP 0 p0 (Ra n f i) L)) (LZ n f 0 (VE n f ))] (by kernel_rfl) (by simp only [hp0] <;> rfl)
theorem AgM  (hp0:p0 (Gy (onP 0 p0 (QZ n f i) L)) (LZ n f 0 (VE n f )) = true):(A2 (An tab ⟨Aq tbY,onP 0 p0 (QZ n f i) L,Gl⟩ Try.f94 [A3 n f] [])).sem = some ((bV false),[]):=Aa [true] [p0 (Gy (onP 0 p0 (QZ n f i) L)) (LZ n f 0 (VE n f ))] (by kernel_rfl) (by simp only [hp0] <;> rfl)
end
def NN (n:Nat) (f:Nat->E6):Lp:=⟨(bmK 21 0 [1,5,8,9,10]),0,bmK 21 0 [5],0,n+1⟩
def Pf (n:Nat) (f:Nat->E6) (s:Int) (i:Nat) (j:Nat->V):St:=⟨(jsV 21 0 j [(1,.fn 83 []),(5,iV s),(8,.sl 6 n (λi=>eV (f i))),(9,nV n),(10,nV i)]),[]⟩
def Rb (n:Nat) (f:Nat->E6) (s:Int) (i:Nat):Ex × St:=(.ex 0,⟨(jsV 21 0 (λ_=>.und) [(5,iV s)]),[]⟩)
noncomputable def J0 (L:LT):St->T (Ex × St):=λst=>AG tab ⟨Aq tbY,L,Gl⟩ (A1 Try.f82 0) 0 st
section
variable (L:LT) (n:Nat) (f:Nat->E6) (s:Int) (i:Nat)  (j:Nat->V)
include L n f s i j
theorem AfC (h0:ilt (ofNat i) (ofNat n) = false):Aj (J0 L) (NN n f) (Pf n f s i j) = some ((.ex 0),⟨(jsV 21 0 (λ_=>.und) [(5,(iV s))]),[]⟩):=Aa [false] [ilt (ofNat i) (ofNat n)] (by kernel_rfl) (by simp only [h0] <;> rfl)
theorem AfA (h0:ilt (ofNat i) (ofNat n) = true) (h10:ile 0 (ofNat i) = true) (h1:As (f i) = true):Aj (J0 L) (NN n f) (Pf n f s i j) = some (.nm,⟨(jsV 21 0 (λ_=>.und) [(1,(.fn 83 [])),(5,(iV (wr .i64 (Ae s 1)))),(8,(.sl 6 n (λi=>eV (f i)))),(9,(nV n)),(10,(iV (wr .i64 (Ae (ofNat i) 1))))]),[]⟩):=Aa [true,true,true] [ilt (ofNat i) (ofNat n),Af (ile 0 (ofNat i)) (ilt (ofNat i) (ofNat n)),As (f i)] (by kernel_rfl) (by simp only [*] <;> rfl)
theorem AfB (h0:ilt (ofNat i) (ofNat n) = true) (h10:ile 0 (ofNat i) = true) (h1:As (f i) = false):Aj (J0 L) (NN n f) (Pf n f s i j) = some (.nm,⟨(jsV 21 0 (λ_=>.und) [(1,(.fn 83 [])),(5,(iV s)),(8,(.sl 6 n (λi=>eV (f i)))),(9,(nV n)),(10,(iV (wr .i64 (Ae (ofNat i) 1))))]),[]⟩):=Aa [true,true,false] [ilt (ofNat i) (ofNat n),Af (ile 0 (ofNat i)) (ilt (ofNat i) (ofNat n)),As (f i)] (by kernel_rfl) (by simp only [*] <;> rfl)
end
def AcO (n:Nat) (f:Nat->E6) :Nat->V:=lkV A9 [(0,(.sl 6 n (λi=>eV (f i)))),(4,(iV 0))]
theorem AgO (L:LT) (p0:PT) (n:Nat) (f:Nat->E6) (s:Int) (i:Nat)  (hp0:p0 (J0 (onP 0 p0 (Rb n f s i) L)) (Pf n f 0 0 (AcO n f )) = true):(A2 (An tab ⟨Aq tbY,onP 0 p0 (Rb n f s i) L,Gl⟩ Try.f82 [A3 n f,.fn 83 []] [])).sem = some ((iV s),[]):=Aa [true] [p0 (J0 (onP 0 p0 (Rb n f s i) L)) (Pf n f 0 0 (AcO n f ))] (by kernel_rfl) (by simp only [hp0] <;> rfl)
def NO (n:Nat) (f:Nat->E6):Lp:=⟨(bmK 21 0 [1,5,8,9,10]),0,bmK 21 0 [5],0,n+1⟩
def Pg (n:Nat) (f:Nat->E6) (s:Int) (i:Nat) (j:Nat->V):St:=⟨(jsV 21 0 j [(1,.fn 84 []),(5,iV s),(8,.sl 6 n (λi=>eV (f i))),(9,nV n),(10,nV i)]),[]⟩
def Rc (n:Nat) (f:Nat->E6) (s:Int) (i:Nat):Ex × St:=(.ex 0,⟨(jsV 21 0 (λ_=>.und) [(5,iV s)]),[]⟩)
noncomputable def J1 (L:LT):St->T (Ex × St):=λst=>AG tab ⟨Aq tbY,L,Gl⟩ (A1 Try.f82 0) 0 st
section
variable (L:LT) (n:Nat) (f:Nat->E6) (s:Int) (i:Nat)  (j:Nat->V)
include L n f s i j
theorem AfF (h0:ilt (ofNat i) (ofNat n) = false):Aj (J1 L) (NO n f) (Pg n f s i j) = some ((.ex 0),⟨(jsV 21 0 (λ_=>.und) [(5,(iV s))]),[]⟩):=Aa [false] [ilt (ofNat i) (ofNat n)] (by kernel_rfl) (by simp only [h0] <;> rfl)
theorem AfD (h0:ilt (ofNat i) (ofNat n) = true) (h10:ile 0 (ofNat i) = true) (h1:Ar (f i) = true):Aj (J1 L) (NO n f) (Pg n f s i j) = some (.nm,⟨(jsV 21 0 (λ_=>.und) [(1,(.fn 84 [])),(5,(iV (wr .i64 (Ae s 1)))),(8,(.sl 6 n (λi=>eV (f i)))),(9,(nV n)),(10,(iV (wr .i64 (Ae (ofNat i) 1))))]),[]⟩):=Aa [true,true,true] [ilt (ofNat i) (ofNat n),Af (ile 0 (ofNat i)) (ilt (ofNat i) (ofNat n)),Ar (f i)] (by kernel_rfl) (by simp only [*] <;> rfl)
theorem AfE (h0:ilt (ofNat i) (ofNat n) = true) (h10:ile 0 (ofNat i) = true) (h1:Ar (f i) = false):Aj (J1 L) (NO n f) (Pg n f s i j) = some (.nm,⟨(jsV 21 0 (λ_=>.und) [(1,(.fn 84 [])),(5,(iV s)),(8,(.sl 6 n (λi=>eV (f i)))),(9,(nV n)),(10,(iV (wr .i64 (Ae (ofNat i) 1))))]),[]⟩):=Aa [true,true,false] [ilt (ofNat i) (ofNat n),Af (ile 0 (ofNat i)) (ilt (ofNat i) (ofNat n)),Ar (f i)] (by kernel_rfl) (by simp only [*] <;> rfl)
end
def AcP (n:Nat) (f:Nat->E6) :Nat->V:=lkV A9 [(0,(.sl 6 n (λi=>eV (f i)))),(4,(iV 0))]
theorem AgP (L:LT) (p0:PT) (n:Nat) (f:Nat->E6) (s:Int) (i:Nat)  (hp0:p0 (J1 (onP 0 p0 (Rc n f s i) L)) (Pg n f 0 0 (AcP n f )) = true):(A2 (An tab ⟨Aq tbY,onP 0 p0 (Rc n f s i) L,Gl⟩ Try.f82 [A3 n f,.fn 84 []] [])).sem = some ((iV s),[]):=Aa [true] [p0 (J1 (onP 0 p0 (Rc n f s i) L)) (Pg n f 0 0 (AcP n f ))] (by kernel_rfl) (by simp only [hp0] <;> rfl)
def AiS:List V->T (V × List Blk):=Hp λn f=>.br (Ai n) (out (bV (BN n f))) .fail
theorem Ac1 (L:LT) (n:Nat) (f:Nat->E6) (hn:n <= 4611686018427387904):∀ (e i:Nat) (j:Nat->V) (q:Nat),n = i+e->e < q->(∀ k,k < i->ieq (AM (f k)) 0 = true) ->
  (A8 (Gy L) (NK n f) q (LZ n f i j)).sem = some (match BN n f with | true=>Ra n f 0 | false=>QZ n f 0)
 | 0,i,j,q+1,h,_,hb=>by
  have:n = i:=by omega
  subst this
  rw [show BN n f = true from AJ.2 hb]
  exact Ad (Ais L n f _ j (AF (Nat.le_refl _)))
 | e+1,i,j,q+1,h,h2,hb=>by
  cases hp:ieq (AM (f i)) 0 with
  | true =>
   rw [Ad (Air L n f i j (ofNat_lt (by omega)) (AK _) hp),Aw,Ao (show i < n by omega) hn]
   exact Ac1 L n f hn e (i+1) (λ_=>.und) q (by omega) (by omega) λk hk=>by
    by_cases hki:k = i
    ·subst hki; exact hp
    ·exact hb k (by omega)
  | false =>
   have hm:BN n f = false:=by
    cases hm:BN n f with
    | false=>rfl
    | true =>
     have:=AJ.1 hm i (by omega)
     rw [hp] at this
     cases this
   rw [hm]
   exact Ad (Aiq L n f i j (ofNat_lt (by omega)) (AK _) hp)
theorem p98:AA Try.prog Gl 94 AiS:=by
 refine A5 AQ AR Try.func94 (by kernel_rfl) (by kernel_rfl) λvs v h' h=>?_
 obtain ⟨n,f,ha,hq⟩:=CY h
 obtain ⟨hn,hq⟩:=Ag hq
 have:=Ac hq
 simp only [Prod.mk.injEq] at this
 obtain ⟨rfl,rfl⟩:=this
 have hn:n <= 4611686018427387904:=of_decide_eq_true hn
 have hx:=AS Nd [(0,NK n f)]
 have hL:=AL [(0,NK n f)]
 refine ⟨_,AT Gl tbY [(0,NK n f)],[],ha,rfl,hx.1,hx.2,?_,AE.refl _⟩
 have hr:=λL i=>Ac1 L n f hn n 0 i (n+1) (by omega) (by omega) (λk hk=>by omega)
 cases hm:BN n f with
 | true =>
  rw [hm] at hr
  exact A6 (Az hL hL) _ (AgN _ _ n f 0 (Am (hr _ _)))
 | false =>
  rw [hm] at hr
  exact A6 (Az hL hL) _ (AgM _ _ n f 0 (Am (hr _ _)))
def Ak (p:Nat->Bool):Nat->Nat
 | 0=>0
 | i+1=>match p i with
  | true=>Ak p i+1
  | false=>Ak p i
theorem Bd (p:Nat->Bool):∀ i,Ak p i <= i
 | 0=>Nat.le_refl _
 | i+1=>by
  have:=Bd p i
  unfold Ak
  split <;> omega
theorem TZ (L:LT) (n:Nat) (f:Nat->E6) (hn:n <= 4611686018427387904):∀ (e i:Nat) (j:Nat->V) (q:Nat),n = i+e->e < q ->
  (A8 (J0 L) (NN n f) q (Pf n f (ofNat (Ak (λk=>As (f k)) i)) i j)).sem = some (Rb n f (ofNat (Ak (λk=>As (f k)) n)) 0)
 | 0,i,j,q+1,h,_=>by
  have:n = i:=by omega
  subst this
  exact Ad (AfC L n f _ _ j (AF (Nat.le_refl _)))
 | e+1,i,j,q+1,h,h2=>by
  have hc:=Bd (λk=>As (f k)) i
  cases hp:As (f i) with
  | true =>
   rw [Ad (AfA L n f _ i j (ofNat_lt (by omega)) (AK _) hp),Aw,Ao (show i < n by omega) hn,Ao (show Ak (λk=>As (f k)) i < n by omega) hn,
    show Ak (λk=>As (f k)) i+1 = Ak (λk=>As (f k)) (i+1) by rw [Ak,hp]]
   exact TZ L n f hn e (i+1) (λ_=>.und) q (by omega) (by omega)
  | false =>
   rw [Ad (AfB L n f _ i j (ofNat_lt (by omega)) (AK _) hp),Aw,Ao (show i < n by omega) hn,
    show Ak (λk=>As (f k)) i = Ak (λk=>As (f k)) (i+1) by rw [Ak,hp]]
   exact TZ L n f hn e (i+1) (λ_=>.und) q (by omega) (by omega)
theorem Ua (L:LT) (n:Nat) (f:Nat->E6) (hn:n <= 4611686018427387904):∀ (e i:Nat) (j:Nat->V) (q:Nat),n = i+e->e < q ->
  (A8 (J1 L) (NO n f) q (Pg n f (ofNat (Ak (λk=>Ar (f k)) i)) i j)).sem = some (Rc n f (ofNat (Ak (λk=>Ar (f k)) n)) 0)
 | 0,i,j,q+1,h,_=>by
  have:n = i:=by omega
  subst this
  exact Ad (AfF L n f _ _ j (AF (Nat.le_refl _)))
 | e+1,i,j,q+1,h,h2=>by
  have hc:=Bd (λk=>Ar (f k)) i
  cases hp:Ar (f i) with
  | true =>
   rw [Ad (AfD L n f _ i j (ofNat_lt (by omega)) (AK _) hp),Aw,Ao (show i < n by omega) hn,Ao (show Ak (λk=>Ar (f k)) i < n by omega) hn,
    show Ak (λk=>Ar (f k)) i+1 = Ak (λk=>Ar (f k)) (i+1) by rw [Ak,hp]]
   exact Ua L n f hn e (i+1) (λ_=>.und) q (by omega) (by omega)
  | false =>
   rw [Ad (AfE L n f _ i j (ofNat_lt (by omega)) (AK _) hp),Aw,Ao (show i < n by omega) hn,
    show Ak (λk=>Ar (f k)) i = Ak (λk=>Ar (f k)) (i+1) by rw [Ak,hp]]
   exact Ua L n f hn e (i+1) (λ_=>.und) q (by omega) (by omega)
def UG:List V->T (V × List Blk)
 | [v,.fn g []]=>apL v λn f=>.br (Ai n) (match Nat.beq g 83,Nat.beq g 84 with
  | true,_=>out (iV (ofNat (Ak (λk=>As (f k)) n)))
  | false,true=>out (iV (ofNat (Ak (λk=>Ar (f k)) n)))
  | false,false=>.fail) .fail
 | _=>.fail
theorem p87:AA Try.prog Gl 82 UG:=by
 refine A5 AQ AR Try.func82 (by kernel_rfl) (by kernel_rfl) λvs v h' h=>?_
 unfold UG at h
 split at h
 ·rename_i u g
  obtain ⟨n,f,ha,h1⟩:=Cl h
  obtain ⟨hn,hq⟩:=Ag h1
  clear h h1
  have hn:n <= 4611686018427387904:=of_decide_eq_true hn
  have hA:BL [u,.fn g []] [A3 n f,.fn g []]:=λS w cs hv=>by
   obtain ⟨c,l,rfl,q1,q2⟩:=hv
   exact ⟨c,l,rfl,ha S w c q1,q2⟩
  split at hq
  ·rename_i h1
   have h1:=Nat.eq_of_beq_eq_true h1
   subst h1
   have:=Ac hq
   simp only [Prod.mk.injEq] at this
   obtain ⟨rfl,rfl⟩:=this
   have hx:=AS Nd [(0,NN n f)]
   have hL:=AL [(0,NN n f)]
   exact ⟨_,AT Gl tbY [(0,NN n f)],[],hA,rfl,hx.1,hx.2,A6 (Az hL hL) _ (AgO _ _ n f _ 0 (Am (TZ _ n f hn n 0 _ (n+1) (by omega) (by omega)))),AE.refl _⟩
  ·rename_i h2
   have h2:=Nat.eq_of_beq_eq_true h2
   subst h2
   have:=Ac hq
   simp only [Prod.mk.injEq] at this
   obtain ⟨rfl,rfl⟩:=this
   have hx:=AS Nd [(0,NO n f)]
   have hL:=AL [(0,NO n f)]
   exact ⟨_,AT Gl tbY [(0,NO n f)],[],hA,rfl,hx.1,hx.2,A6 (Az hL hL) _ (AgP _ _ n f _ 0 (Am (Ua _ n f hn n 0 _ (n+1) (by omega) (by omega)))),AE.refl _⟩
  ·cases hq
 ·cases h
end Go.Proofs.Ytjhnfomefcngfaa.Ed
