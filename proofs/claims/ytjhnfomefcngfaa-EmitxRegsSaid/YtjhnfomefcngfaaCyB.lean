/-
  Layer 4: which edges lead to other threads and locations, how many; whether all edges may be. No conditions.
-/
import Derived.Test.YtjhnfomefcngfaaCyA
namespace Go.Proofs.Ytjhnfomefcngfaa.Ed
open Go.Sy
open Int (ofNat)
def Bu (e:E6):Bool:=Af (ile 1 e.kind) (ile e.kind 3)
def As (e:E6):Bool:=Af (Bu e) e.ext
def Ar (e:E6):Bool:=Af (An (Bu e)) (An e.same)
theorem Aa4 (e:E6):(Az (Ak tab (AS Gl [] []) Try.f111 [eV e] [])).sem = (sel (ile 1 (e).kind) (sel (ile 1 (e).kind) (sel (ile 1 (e).kind) (sel (ile 1 (e).kind) (some ((bV (ile (e).kind 3)),[])) (some ((bV false),[]))) (sel (ile 1 (e).kind) (some (AA,[])) (some ((bV false),[])))) (sel (ile 1 (e).kind) none (sel (ile 1 (e).kind) (some (AA,[])) (some ((bV false),[]))))) (sel (ile 1 (e).kind) none (sel (ile 1 (e).kind) none (sel (ile 1 (e).kind) (some (AA,[])) (some ((bV false),[])))))):=by kernel_rfl
theorem p108:A6 Try.prog Gl 111 (BQ λe=>bV (Bu e)):=by
 refine A6.congr (AK AO AP Try.func111 (by kernel_rfl) (by kernel_rfl) (Γ:=AS Gl [] []) (AQ AB.nil _)) λvs r h=>?_
 obtain ⟨e,rfl,rfl⟩:=BY h
 refine (Aa4 e).trans ?_
 unfold Bu
 cases ile 1 e.kind <;> rfl
theorem AI (i:Nat):ile 0 (ofNat i) = true:=VK (by simp)
noncomputable def XR:List (Nat × (List V->T (V × List Blk))):=(111,BQ λe=>bV (Bu e)) :: []
theorem Vh:AB Try.prog Gl XR:=.cons p108 .nil
theorem Aeh (e:E6):(Az (Ak tab (AS Gl XR []) Try.f83 [eV e] [])).sem = (sel (Bu e) (sel (Bu e) (sel (Bu e) (some ((bV (e).ext),[])) (some ((bV false),[]))) (sel (Bu e) (some (AA,[])) (some ((bV false),[])))) (sel (Bu e) none (sel (Bu e) (some (AA,[])) (some ((bV false),[]))))):=by kernel_rfl
theorem p88:A6 Try.prog Gl 83 (BQ λe=>bV (As e)):=by
 refine A6.congr (AK AO AP Try.func83 (by kernel_rfl) (by kernel_rfl) (Γ:=AS Gl XR []) (AQ Vh _)) λvs r h=>?_
 obtain ⟨e,rfl,rfl⟩:=BY h
 refine (Aeh e).trans ?_
 unfold As
 cases Bu e <;> rfl
theorem Aeg (e:E6):(Az (Ak tab (AS Gl XR []) Try.f84 [eV e] [])).sem = (sel (An (Bu e)) (sel (An (Bu e)) (sel (An (Bu e)) (sel (An (Bu e)) (some ((bV (An (e).same)),[])) (some ((bV false),[]))) (sel (An (Bu e)) (some (AA,[])) (some ((bV false),[])))) (sel (An (Bu e)) none (sel (An (Bu e)) (some (AA,[])) (some ((bV false),[]))))) (sel (An (Bu e)) none (sel (An (Bu e)) none (sel (An (Bu e)) (some (AA,[])) (some ((bV false),[])))))):=by kernel_rfl
theorem p89:A6 Try.prog Gl 84 (BQ λe=>bV (Ar e)):=by
 refine A6.congr (AK AO AP Try.func84 (by kernel_rfl) (by kernel_rfl) (Γ:=AS Gl XR []) (AQ Vh _)) λvs r h=>?_
 obtain ⟨e,rfl,rfl⟩:=BY h
 refine (Aeg e).trans ?_
 unfold Ar
 cases Bu e <;> rfl
theorem O6 (e:E6):Bu e = bor (ieq e.kind 1) (bor (ieq e.kind 2) (ieq e.kind 3)):=by
 unfold Bu
 rw [Bool.eq_iff_iff]
 simp [Af,bor,ile,ieq]
 omega
theorem Aej (e:E6):(Az (Ak tab (AS Gl [] []) Try.f22 [eV e] [])).sem = (sel (ieq (e).kind 1) (sel (ieq (e).kind 1) (sel (ieq (e).kind 1) (sel (ieq (e).kind 1) (some ((bV (e).ext),[])) none) none) none) (sel (ieq (e).kind 1) (sel (ieq (e).kind 1) (sel (ieq (e).kind 1) (some ((bV (e).ext),[])) none) none) (sel (ieq (e).kind 1) (sel (ieq (e).kind 1) (some ((bV (e).ext),[])) none) (sel (ieq (e).kind 1) (some ((bV (e).ext),[])) (sel (ieq (e).kind 2) (sel (ieq (e).kind 2) (sel (ieq (e).kind 2) (sel (ieq (e).kind 2) (some ((bV (e).ext),[])) none) none) none) (sel (ieq (e).kind 2) (sel (ieq (e).kind 2) (sel (ieq (e).kind 2) (some ((bV (e).ext),[])) none) none) (sel (ieq (e).kind 2) (sel (ieq (e).kind 2) (some ((bV (e).ext),[])) none) (sel (ieq (e).kind 2) (some ((bV (e).ext),[])) (sel (ieq (e).kind 3) (sel (ieq (e).kind 3) (sel (ieq (e).kind 3) (some ((bV (e).ext),[])) (some ((bV false),[]))) (sel (ieq (e).kind 3) (some (AA,[])) (some ((bV false),[])))) (sel (ieq (e).kind 3) none (sel (ieq (e).kind 3) (some (AA,[])) (some ((bV false),[]))))))))))))):=by kernel_rfl
theorem p60:A6 Try.prog Gl 22 (BQ λe=>bV (As e)):=by
 refine A6.congr (AK AO AP Try.func22 (by kernel_rfl) (by kernel_rfl) (Γ:=AS Gl [] []) (AQ AB.nil _)) λvs r h=>?_
 obtain ⟨e,rfl,rfl⟩:=BY h
 refine (Aej e).trans ?_
 unfold As
 rw [O6]
 cases ieq e.kind 1 <;> cases ieq e.kind 2 <;> cases ieq e.kind 3 <;> rfl
theorem Aei (e:E6):(Az (Ak tab (AS Gl [] []) Try.f23 [eV e] [])).sem = (sel (An (ieq (e).kind 1)) (sel (An (ieq (e).kind 1)) (sel (An (ieq (e).kind 1)) (sel (An (ieq (e).kind 1)) (sel (An (ieq (e).kind 2)) (sel (An (ieq (e).kind 2)) (sel (An (ieq (e).kind 2)) (sel (An (ieq (e).kind 2)) (sel (An (ieq (e).kind 3)) (sel (An (ieq (e).kind 3)) (sel (An (ieq (e).kind 3)) (sel (An (ieq (e).kind 3)) (some ((bV (An (e).same)),[])) (some ((bV false),[]))) (sel (An (ieq (e).kind 3)) (some (AA,[])) (some ((bV false),[])))) (sel (An (ieq (e).kind 3)) none (sel (An (ieq (e).kind 3)) (some (AA,[])) (some ((bV false),[]))))) (sel (An (ieq (e).kind 3)) none (sel (An (ieq (e).kind 3)) none (sel (An (ieq (e).kind 3)) (some (AA,[])) (some ((bV false),[])))))) (some ((bV false),[]))) (sel (An (ieq (e).kind 2)) none (some ((bV false),[])))) (sel (An (ieq (e).kind 2)) none (sel (An (ieq (e).kind 2)) none (some ((bV false),[]))))) (sel (An (ieq (e).kind 2)) none (sel (An (ieq (e).kind 2)) none (sel (An (ieq (e).kind 2)) none (some ((bV false),[])))))) (some ((bV false),[]))) (sel (An (ieq (e).kind 1)) none (some ((bV false),[])))) (sel (An (ieq (e).kind 1)) none (sel (An (ieq (e).kind 1)) none (some ((bV false),[]))))) (sel (An (ieq (e).kind 1)) none (sel (An (ieq (e).kind 1)) none (sel (An (ieq (e).kind 1)) none (some ((bV false),[])))))):=by kernel_rfl
theorem p61:A6 Try.prog Gl 23 (BQ λe=>bV (Ar e)):=by
 refine A6.congr (AK AO AP Try.func23 (by kernel_rfl) (by kernel_rfl) (Γ:=AS Gl [] []) (AQ AB.nil _)) λvs r h=>?_
 obtain ⟨e,rfl,rfl⟩:=BY h
 refine (Aei e).trans ?_
 unfold Ar
 rw [O6]
 cases ieq e.kind 1 <;> cases ieq e.kind 2 <;> cases ieq e.kind 3 <;> rfl
noncomputable def tbY:List (Nat × (List V->T (V × List Blk))):=(64,BQ λe=>iV (AR e)) :: (83,BQ λe=>bV (As e)) :: (84,BQ λe=>bV (Ar e)) :: []
theorem Nd:AB Try.prog Gl tbY:=.cons p29 <| .cons p88 <| .cons p89 .nil
def NL (n:Nat) (f:Nat->E6):Lp:=⟨(bmK 16 0 [0,2,3]),0,bmK 16 0 [2],0,n+1⟩
def LV (n:Nat) (f:Nat->E6) (i:Nat) (j:Nat->V):St:=⟨(jsV 16 0 j [(0,.sl 6 n (λi=>eV (f i))),(2,bV false),(3,nV i)]),[]⟩
def Re (n:Nat) (f:Nat->E6) (i:Nat):Ex × St:=(.ex 0,⟨(jsV 16 0 (λ_=>.und) [(2,bV false)]),[]⟩)
def Rd (n:Nat) (f:Nat->E6) (i:Nat):Ex × St:=(.rt,⟨(jsV 16 0 (λ_=>.und) [(2,bV false)]),[]⟩)
noncomputable def Gz (L:LT):St->T (Ex × St):=λst=>AF tab ⟨Ap tbY,L,Gl⟩ (A1 Try.f94 0) 0 st
section
variable (L:LT) (n:Nat) (f:Nat->E6) (i:Nat)  (j:Nat->V)
include L n f i j
theorem AiA (h0:ilt (ofNat i) (ofNat n) = false):Ai (Gz L) (NL n f) (LV n f i j) = some ((.ex 0),⟨(jsV 16 0 (λ_=>.und) [(2,(bV false))]),[]⟩):=Aa [false] [ilt (ofNat i) (ofNat n)] (by kernel_rfl) (by simp only [h0] <;> rfl)
theorem Ai8 (h0:ilt (ofNat i) (ofNat n) = true) (h10:ile 0 (ofNat i) = true) (h1:ieq (AR (f i)) 0 = false):Ai (Gz L) (NL n f) (LV n f i j) = some (.rt,⟨(jsV 16 0 (λ_=>.und) [(2,(bV false))]),[]⟩):=Aa [true,true,true] [ilt (ofNat i) (ofNat n),Af (ile 0 (ofNat i)) (ilt (ofNat i) (ofNat n)),An (ieq (AR (f i)) 0)] (by kernel_rfl) (by simp only [*] <;> rfl)
theorem Ai9 (h0:ilt (ofNat i) (ofNat n) = true) (h10:ile 0 (ofNat i) = true) (h1:ieq (AR (f i)) 0 = true):Ai (Gz L) (NL n f) (LV n f i j) = some (.nm,⟨(jsV 16 0 (λ_=>.und) [(0,(.sl 6 n (λi=>eV (f i)))),(2,(bV false)),(3,(iV (wr .i64 (Ae (ofNat i) 1))))]),[]⟩):=Aa [true,true,false] [ilt (ofNat i) (ofNat n),Af (ile 0 (ofNat i)) (ilt (ofNat i) (ofNat n)),An (ieq (AR (f i)) 0)] (by kernel_rfl) (by simp only [*] <;> rfl)
end
def VM (n:Nat) (f:Nat->E6) :Nat->V:=lkV AA []
section
variable (L:LT) (p0:PT) (n:Nat) (f:Nat->E6) (i:Nat)
include L p0 n f i
theorem Ahe  (hp0:p0 (Gz (onP 0 p0 (Re n f i) L)) (LV n f 0 (VM n f )) = true):(Az (Ak tab ⟨Ap tbY,onP 0 p0 (Re n f i) L,Gl⟩ Try.f94 [A4 n f] [])).sem = some ((bV true),[]):=Aa [true] [p0 (Gz (onP 0 p0 (Re n f i) L)) (LV n f 0 (VM n f ))] (by kernel_rfl) (by simp only [hp0] <;> rfl)
theorem Ahd  (hp0:p0 (Gz (onP 0 p0 (Rd n f i) L)) (LV n f 0 (VM n f )) = true):(Az (Ak tab ⟨Ap tbY,onP 0 p0 (Rd n f i) L,Gl⟩ Try.f94 [A4 n f] [])).sem = some ((bV false),[]):=Aa [true] [p0 (Gz (onP 0 p0 (Rd n f i) L)) (LV n f 0 (VM n f ))] (by kernel_rfl) (by simp only [hp0] <;> rfl)
end
def NO (n:Nat) (f:Nat->E6):Lp:=⟨(bmK 21 0 [1,5,8,9,10]),0,bmK 21 0 [5],0,n+1⟩
def Pj (n:Nat) (f:Nat->E6) (s:Int) (i:Nat) (j:Nat->V):St:=⟨(jsV 21 0 j [(1,.fn 83 []),(5,iV s),(8,.sl 6 n (λi=>eV (f i))),(9,nV n),(10,nV i)]),[]⟩
def Rf (n:Nat) (f:Nat->E6) (s:Int) (i:Nat):Ex × St:=(.ex 0,⟨(jsV 21 0 (λ_=>.und) [(5,iV s)]),[]⟩)
noncomputable def Jy (L:LT):St->T (Ex × St):=λst=>AF tab ⟨Ap tbY,L,Gl⟩ (A1 Try.f82 0) 0 st
section
variable (L:LT) (n:Nat) (f:Nat->E6) (s:Int) (i:Nat)  (j:Nat->V)
include L n f s i j
theorem AfK (h0:ilt (ofNat i) (ofNat n) = false):Ai (Jy L) (NO n f) (Pj n f s i j) = some ((.ex 0),⟨(jsV 21 0 (λ_=>.und) [(5,(iV s))]),[]⟩):=Aa [false] [ilt (ofNat i) (ofNat n)] (by kernel_rfl) (by simp only [h0] <;> rfl)
theorem AfI (h0:ilt (ofNat i) (ofNat n) = true) (h10:ile 0 (ofNat i) = true) (h1:As (f i) = true):Ai (Jy L) (NO n f) (Pj n f s i j) = some (.nm,⟨(jsV 21 0 (λ_=>.und) [(1,(.fn 83 [])),(5,(iV (wr .i64 (Ae s 1)))),(8,(.sl 6 n (λi=>eV (f i)))),(9,(nV n)),(10,(iV (wr .i64 (Ae (ofNat i) 1))))]),[]⟩):=Aa [true,true,true] [ilt (ofNat i) (ofNat n),Af (ile 0 (ofNat i)) (ilt (ofNat i) (ofNat n)),As (f i)] (by kernel_rfl) (by simp only [*] <;> rfl)
theorem AfJ (h0:ilt (ofNat i) (ofNat n) = true) (h10:ile 0 (ofNat i) = true) (h1:As (f i) = false):Ai (Jy L) (NO n f) (Pj n f s i j) = some (.nm,⟨(jsV 21 0 (λ_=>.und) [(1,(.fn 83 [])),(5,(iV s)),(8,(.sl 6 n (λi=>eV (f i)))),(9,(nV n)),(10,(iV (wr .i64 (Ae (ofNat i) 1))))]),[]⟩):=Aa [true,true,false] [ilt (ofNat i) (ofNat n),Af (ile 0 (ofNat i)) (ilt (ofNat i) (ofNat n)),As (f i)] (by kernel_rfl) (by simp only [*] <;> rfl)
end
def AcS (n:Nat) (f:Nat->E6) :Nat->V:=lkV AA [(0,(.sl 6 n (λi=>eV (f i)))),(4,(iV 0))]
theorem Ahf (L:LT) (p0:PT) (n:Nat) (f:Nat->E6) (s:Int) (i:Nat)  (hp0:p0 (Jy (onP 0 p0 (Rf n f s i) L)) (Pj n f 0 0 (AcS n f )) = true):(Az (Ak tab ⟨Ap tbY,onP 0 p0 (Rf n f s i) L,Gl⟩ Try.f82 [A4 n f,.fn 83 []] [])).sem = some ((iV s),[]):=Aa [true] [p0 (Jy (onP 0 p0 (Rf n f s i) L)) (Pj n f 0 0 (AcS n f ))] (by kernel_rfl) (by simp only [hp0] <;> rfl)
def NP (n:Nat) (f:Nat->E6):Lp:=⟨(bmK 21 0 [1,5,8,9,10]),0,bmK 21 0 [5],0,n+1⟩
def Pk (n:Nat) (f:Nat->E6) (s:Int) (i:Nat) (j:Nat->V):St:=⟨(jsV 21 0 j [(1,.fn 84 []),(5,iV s),(8,.sl 6 n (λi=>eV (f i))),(9,nV n),(10,nV i)]),[]⟩
def Rg (n:Nat) (f:Nat->E6) (s:Int) (i:Nat):Ex × St:=(.ex 0,⟨(jsV 21 0 (λ_=>.und) [(5,iV s)]),[]⟩)
noncomputable def Jz (L:LT):St->T (Ex × St):=λst=>AF tab ⟨Ap tbY,L,Gl⟩ (A1 Try.f82 0) 0 st
section
variable (L:LT) (n:Nat) (f:Nat->E6) (s:Int) (i:Nat)  (j:Nat->V)
include L n f s i j
theorem AfN (h0:ilt (ofNat i) (ofNat n) = false):Ai (Jz L) (NP n f) (Pk n f s i j) = some ((.ex 0),⟨(jsV 21 0 (λ_=>.und) [(5,(iV s))]),[]⟩):=Aa [false] [ilt (ofNat i) (ofNat n)] (by kernel_rfl) (by simp only [h0] <;> rfl)
theorem AfL (h0:ilt (ofNat i) (ofNat n) = true) (h10:ile 0 (ofNat i) = true) (h1:Ar (f i) = true):Ai (Jz L) (NP n f) (Pk n f s i j) = some (.nm,⟨(jsV 21 0 (λ_=>.und) [(1,(.fn 84 [])),(5,(iV (wr .i64 (Ae s 1)))),(8,(.sl 6 n (λi=>eV (f i)))),(9,(nV n)),(10,(iV (wr .i64 (Ae (ofNat i) 1))))]),[]⟩):=Aa [true,true,true] [ilt (ofNat i) (ofNat n),Af (ile 0 (ofNat i)) (ilt (ofNat i) (ofNat n)),Ar (f i)] (by kernel_rfl) (by simp only [*] <;> rfl)
theorem AfM (h0:ilt (ofNat i) (ofNat n) = true) (h10:ile 0 (ofNat i) = true) (h1:Ar (f i) = false):Ai (Jz L) (NP n f) (Pk n f s i j) = some (.nm,⟨(jsV 21 0 (λ_=>.und) [(1,(.fn 84 [])),(5,(iV s)),(8,(.sl 6 n (λi=>eV (f i)))),(9,(nV n)),(10,(iV (wr .i64 (Ae (ofNat i) 1))))]),[]⟩):=Aa [true,true,false] [ilt (ofNat i) (ofNat n),Af (ile 0 (ofNat i)) (ilt (ofNat i) (ofNat n)),Ar (f i)] (by kernel_rfl) (by simp only [*] <;> rfl)
end
def AcT (n:Nat) (f:Nat->E6) :Nat->V:=lkV AA [(0,(.sl 6 n (λi=>eV (f i)))),(4,(iV 0))]
theorem Ahg (L:LT) (p0:PT) (n:Nat) (f:Nat->E6) (s:Int) (i:Nat)  (hp0:p0 (Jz (onP 0 p0 (Rg n f s i) L)) (Pk n f 0 0 (AcT n f )) = true):(Az (Ak tab ⟨Ap tbY,onP 0 p0 (Rg n f s i) L,Gl⟩ Try.f82 [A4 n f,.fn 84 []] [])).sem = some ((iV s),[]):=Aa [true] [p0 (Jz (onP 0 p0 (Rg n f s i) L)) (Pk n f 0 0 (AcT n f ))] (by kernel_rfl) (by simp only [hp0] <;> rfl)
def Ajk:List V->T (V × List Blk):=Hp λn f=>.br (Ah n) (out (bV (BM n f))) .fail
theorem Ac5 (L:LT) (n:Nat) (f:Nat->E6) (hn:n <= 4611686018427387904):∀ (e i:Nat) (j:Nat->V) (q:Nat),n = i+e->e < q->(∀ k,k < i->ieq (AR (f k)) 0 = true) ->
  (A9 (Gz L) (NL n f) q (LV n f i j)).sem = some (match BM n f with | true=>Re n f 0 | false=>Rd n f 0)
 | 0,i,j,q+1,h,_,hb=>by
  have:n = i:=by omega
  subst this
  rw [show BM n f = true from AJ.2 hb]
  exact Ad (AiA L n f _ j (AD (Nat.le_refl _)))
 | e+1,i,j,q+1,h,h2,hb=>by
  cases hp:ieq (AR (f i)) 0 with
  | true =>
   rw [Ad (Ai9 L n f i j (ofNat_lt (by omega)) (AI _) hp),Ax,Ao (show i < n by omega) hn]
   exact Ac5 L n f hn e (i+1) (λ_=>.und) q (by omega) (by omega) λk hk=>by
    by_cases hki:k = i
    ·subst hki; exact hp
    ·exact hb k (by omega)
  | false =>
   have hm:BM n f = false:=by
    cases hm:BM n f with
    | false=>rfl
    | true =>
     have:=AJ.1 hm i (by omega)
     rw [hp] at this
     cases this
   rw [hm]
   exact Ad (Ai8 L n f i j (ofNat_lt (by omega)) (AI _) hp)
theorem p98:A6 Try.prog Gl 94 Ajk:=by
 refine A5 AO AP Try.func94 (by kernel_rfl) (by kernel_rfl) λvs v h' h=>?_
 obtain ⟨n,f,ha,hq⟩:=CU h
 obtain ⟨hn,hq⟩:=Ag hq
 have:=Ac hq
 simp only [Prod.mk.injEq] at this
 obtain ⟨rfl,rfl⟩:=this
 have hn:n <= 4611686018427387904:=of_decide_eq_true hn
 have hx:=AQ Nd [(0,NL n f)]
 have hL:=AL [(0,NL n f)]
 refine ⟨_,AS Gl tbY [(0,NL n f)],[],ha,rfl,hx.1,hx.2,?_,AC.refl _⟩
 have hr:=λL i=>Ac5 L n f hn n 0 i (n+1) (by omega) (by omega) (λk hk=>by omega)
 cases hm:BM n f with
 | true =>
  rw [hm] at hr
  exact A7 (Ay hL hL) _ (Ahe _ _ n f 0 (Am (hr _ _)))
 | false =>
  rw [hm] at hr
  exact A7 (Ay hL hL) _ (Ahd _ _ n f 0 (Am (hr _ _)))
def Aj (p:Nat->Bool):Nat->Nat
 | 0=>0
 | i+1=>match p i with
  | true=>Aj p i+1
  | false=>Aj p i
theorem AX (p:Nat->Bool):∀ i,Aj p i <= i
 | 0=>Nat.le_refl _
 | i+1=>by
  have:=AX p i
  unfold Aj
  split <;> omega
theorem Ue (L:LT) (n:Nat) (f:Nat->E6) (hn:n <= 4611686018427387904):∀ (e i:Nat) (j:Nat->V) (q:Nat),n = i+e->e < q ->
  (A9 (Jy L) (NO n f) q (Pj n f (ofNat (Aj (λk=>As (f k)) i)) i j)).sem = some (Rf n f (ofNat (Aj (λk=>As (f k)) n)) 0)
 | 0,i,j,q+1,h,_=>by
  have:n = i:=by omega
  subst this
  exact Ad (AfK L n f _ _ j (AD (Nat.le_refl _)))
 | e+1,i,j,q+1,h,h2=>by
  have hc:=AX (λk=>As (f k)) i
  cases hp:As (f i) with
  | true =>
   rw [Ad (AfI L n f _ i j (ofNat_lt (by omega)) (AI _) hp),Ax,Ao (show i < n by omega) hn,Ao (show Aj (λk=>As (f k)) i < n by omega) hn,
    show Aj (λk=>As (f k)) i+1 = Aj (λk=>As (f k)) (i+1) by rw [Aj,hp]]
   exact Ue L n f hn e (i+1) (λ_=>.und) q (by omega) (by omega)
  | false =>
   rw [Ad (AfJ L n f _ i j (ofNat_lt (by omega)) (AI _) hp),Ax,Ao (show i < n by omega) hn,
    show Aj (λk=>As (f k)) i = Aj (λk=>As (f k)) (i+1) by rw [Aj,hp]]
   exact Ue L n f hn e (i+1) (λ_=>.und) q (by omega) (by omega)
theorem Uf (L:LT) (n:Nat) (f:Nat->E6) (hn:n <= 4611686018427387904):∀ (e i:Nat) (j:Nat->V) (q:Nat),n = i+e->e < q ->
  (A9 (Jz L) (NP n f) q (Pk n f (ofNat (Aj (λk=>Ar (f k)) i)) i j)).sem = some (Rg n f (ofNat (Aj (λk=>Ar (f k)) n)) 0)
 | 0,i,j,q+1,h,_=>by
  have:n = i:=by omega
  subst this
  exact Ad (AfN L n f _ _ j (AD (Nat.le_refl _)))
 | e+1,i,j,q+1,h,h2=>by
  have hc:=AX (λk=>Ar (f k)) i
  cases hp:Ar (f i) with
  | true =>
   rw [Ad (AfL L n f _ i j (ofNat_lt (by omega)) (AI _) hp),Ax,Ao (show i < n by omega) hn,Ao (show Aj (λk=>Ar (f k)) i < n by omega) hn,
    show Aj (λk=>Ar (f k)) i+1 = Aj (λk=>Ar (f k)) (i+1) by rw [Aj,hp]]
   exact Uf L n f hn e (i+1) (λ_=>.und) q (by omega) (by omega)
  | false =>
   rw [Ad (AfM L n f _ i j (ofNat_lt (by omega)) (AI _) hp),Ax,Ao (show i < n by omega) hn,
    show Aj (λk=>Ar (f k)) i = Aj (λk=>Ar (f k)) (i+1) by rw [Aj,hp]]
   exact Uf L n f hn e (i+1) (λ_=>.und) q (by omega) (by omega)
def UN:List V->T (V × List Blk)
 | [v,.fn g []]=>apL v λn f=>.br (Ah n) (match Nat.beq g 83,Nat.beq g 84 with
  | true,_=>out (iV (ofNat (Aj (λk=>As (f k)) n)))
  | false,true=>out (iV (ofNat (Aj (λk=>Ar (f k)) n)))
  | false,false=>.fail) .fail
 | _=>.fail
theorem p87:A6 Try.prog Gl 82 UN:=by
 refine A5 AO AP Try.func82 (by kernel_rfl) (by kernel_rfl) λvs v h' h=>?_
 unfold UN at h
 split at h
 ·rename_i u g
  obtain ⟨n,f,ha,h1⟩:=Cj h
  obtain ⟨hn,hq⟩:=Ag h1
  clear h h1
  have hn:n <= 4611686018427387904:=of_decide_eq_true hn
  have hA:BJ [u,.fn g []] [A4 n f,.fn g []]:=λS w cs hv=>by
   obtain ⟨c,l,rfl,q1,q2⟩:=hv
   exact ⟨c,l,rfl,ha S w c q1,q2⟩
  split at hq
  ·rename_i h1
   have h1:=Nat.eq_of_beq_eq_true h1
   subst h1
   have:=Ac hq
   simp only [Prod.mk.injEq] at this
   obtain ⟨rfl,rfl⟩:=this
   have hx:=AQ Nd [(0,NO n f)]
   have hL:=AL [(0,NO n f)]
   exact ⟨_,AS Gl tbY [(0,NO n f)],[],hA,rfl,hx.1,hx.2,A7 (Ay hL hL) _ (Ahf _ _ n f _ 0 (Am (Ue _ n f hn n 0 _ (n+1) (by omega) (by omega)))),AC.refl _⟩
  ·rename_i h2
   have h2:=Nat.eq_of_beq_eq_true h2
   subst h2
   have:=Ac hq
   simp only [Prod.mk.injEq] at this
   obtain ⟨rfl,rfl⟩:=this
   have hx:=AQ Nd [(0,NP n f)]
   have hL:=AL [(0,NP n f)]
   exact ⟨_,AS Gl tbY [(0,NP n f)],[],hA,rfl,hx.1,hx.2,A7 (Ay hL hL) _ (Ahg _ _ n f _ 0 (Am (Uf _ n f hn n 0 _ (n+1) (by omega) (by omega)))),AC.refl _⟩
  ·cases hq
 ·cases h
end Go.Proofs.Ytjhnfomefcngfaa.Ed
