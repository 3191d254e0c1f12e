/-
  Layer 3: the numbers of a list of edges. No conditions.
-/
import Derived.Test.YtjhnfomefcngfaaEdN
namespace Go.Proofs.Ytjhnfomefcngfaa.Ed
open Go.Sy
theorem Ar {n:Nat}:An n (fun _=>true) = true:=AA.2 fun _ _=>rfl
def BJ (g:Nat->V):Nat->Nat->V
  | 0=>fun _=>.und
  | i+1=>AK i (BJ g i) (g i)
theorem Ib (g:Nat->V):∀ n j,j < n->BJ g n j = g j
  | 0,j,h=>by omega
  | n+1,j,h=>by
    rw [show BJ g (n+1) j = AK n (BJ g n) (g n) j from rfl,BH]
    show (bif Nat.beq j n then g n else BJ g n j) = _
    cases hb:Nat.beq j n with
    | true =>
      rw [Nat.eq_of_beq_eq_true hb]
      rfl
    | false =>
      have:=Nat.ne_of_beq_eq_false hb
      exact Ib g n j (by omega)
theorem Rb {i n b c:Nat} (h:i < n) (hb:b <= c) (hn:n * c <= 140737488355328):Bj i 1 b = true:=by
  refine decide_eq_true ?_
  have h1:(i+1) * b <= n * b:=Nat.mul_le_mul_right b (by omega)
  have h2:n * b <= n * c:=Nat.mul_le_mul_left n hb
  omega
theorem IW {n:Nat} (hn:AL n = true):n <= 4611686018427387904:=by
  have hn:n * 40 <= 140737488355328:=of_decide_eq_true hn
  omega
def cdV (f:Nat->E6):Nat->V:=fun i=>iV (Bv (f i))
theorem Su (p:Nat->Bool):∀ n,An n p = false->∃ e,e < n ∧ p e = false ∧ ∀ t,t < e->p t = true
  | 0,h=>by cases h
  | n+1,h=>by
    cases hn:An n p with
    | false =>
      obtain ⟨e,h1,h2,h3⟩:=Su p n hn
      exact ⟨e,by omega,h2,h3⟩
    | true =>
      refine ⟨n,by omega,?_,fun t ht=>AA.1 hn t ht⟩
      cases hp:p n with
      | false=>rfl
      | true =>
        have:An (n+1) p = true:=AA.2 fun i hi=>by
          by_cases hi':i = n
          · rw [hi',hp]
          · exact AA.1 hn i (by omega)
        rw [this] at h; cases h
theorem ZA {e:E6} (h:AM e ≠ 0):AM e = 30:=by
  rcases FZ e with ⟨_,_,h1,_⟩ | ⟨h1,_⟩
  · exact absurd h1 h
  · exact h1
theorem Y3 {n:Nat} {f:Nat->E6} (h:BI n f = false):∃ e,e < n ∧ AM (f e) = 30 ∧ ∀ t,t < e->AM (f t) = 0:=by
  obtain ⟨e,h1,h2,h3⟩:=Su _ n h
  refine ⟨e,h1,ZA fun h0=>?_,fun t ht=>by simpa [ieq] using h3 t ht⟩
  rw [h0] at h2
  cases h2
def Z9:List V->T (V × List Blk):=GS fun n f=>.br (AL n) (.br (BI n f) (.leaf (.tup [.ref 0,iV 0],[.row 3 1 n fun i=>iV (Bv (f i))])) (.leaf (.tup [.ref 0,iV 30],[.row 3 1 0 fun _=>.und]))) .fail
end Go.Proofs.Ytjhnfomefcngfaa.Ed
namespace Go.Proofs.Ytjhnfomefcngfaa.Ed
open Go.Sy
end Go.Proofs.Ytjhnfomefcngfaa.Ed
namespace Go.Proofs.Ytjhnfomefcngfaa.Ed
open Go.Sy
open Int (ofNat)
def B0 (e:E6):Bool:=Af (ile 1 e.kind) (ile e.kind 3)
def Az (e:E6):Bool:=Af (B0 e) e.ext
def Au (e:E6):Bool:=Af (Am (B0 e)) (Am e.same)
theorem Aac (e:E6):(A1 (Al tab (AR Gl [] []) Try.f111 [eV e] [])).sem = (sel (ile 1 (e).kind) (sel (ile 1 (e).kind) (sel (ile 1 (e).kind) (sel (ile 1 (e).kind) (some ((bV (ile (e).kind 3)),[])) (some ((bV false),[]))) (sel (ile 1 (e).kind) (some (A7,[])) (some ((bV false),[])))) (sel (ile 1 (e).kind) none (sel (ile 1 (e).kind) (some (A7,[])) (some ((bV false),[]))))) (sel (ile 1 (e).kind) none (sel (ile 1 (e).kind) none (sel (ile 1 (e).kind) (some (A7,[])) (some ((bV false),[])))))):=by kernel_rfl
theorem Akl:AD Try.prog Gl 111 (BK fun e=>bV (B0 e)):=by
  refine AD.congr (AS AO AP Try.func111 (by kernel_rfl) (by kernel_rfl) (Γ:=AR Gl [] []) (AQ AF.nil _)) fun vs r h=>?_
  obtain ⟨e,rfl,rfl⟩:=BS h
  refine (Aac e).trans ?_
  unfold B0
  cases ile 1 e.kind <;> rfl
theorem AJ (i:Nat):ile 0 (ofNat i) = true:=Vi (by simp)
noncomputable def Xv:List (Nat × (List V->T (V × List Blk))):=(111,BK fun e=>bV (B0 e)) :: []
theorem U5:AF Try.prog Gl Xv:=.cons Akl .nil
theorem Ad6 (e:E6):(A1 (Al tab (AR Gl Xv []) Try.f83 [eV e] [])).sem = (sel (B0 e) (sel (B0 e) (sel (B0 e) (some ((bV (e).ext),[])) (some ((bV false),[]))) (sel (B0 e) (some (A7,[])) (some ((bV false),[])))) (sel (B0 e) none (sel (B0 e) (some (A7,[])) (some ((bV false),[]))))):=by kernel_rfl
theorem p88:AD Try.prog Gl 83 (BK fun e=>bV (Az e)):=by
  refine AD.congr (AS AO AP Try.func83 (by kernel_rfl) (by kernel_rfl) (Γ:=AR Gl Xv []) (AQ U5 _)) fun vs r h=>?_
  obtain ⟨e,rfl,rfl⟩:=BS h
  refine (Ad6 e).trans ?_
  unfold Az
  cases B0 e <;> rfl
theorem Ad5 (e:E6):(A1 (Al tab (AR Gl Xv []) Try.f84 [eV e] [])).sem = (sel (Am (B0 e)) (sel (Am (B0 e)) (sel (Am (B0 e)) (sel (Am (B0 e)) (some ((bV (Am (e).same)),[])) (some ((bV false),[]))) (sel (Am (B0 e)) (some (A7,[])) (some ((bV false),[])))) (sel (Am (B0 e)) none (sel (Am (B0 e)) (some (A7,[])) (some ((bV false),[]))))) (sel (Am (B0 e)) none (sel (Am (B0 e)) none (sel (Am (B0 e)) (some (A7,[])) (some ((bV false),[])))))):=by kernel_rfl
theorem p89:AD Try.prog Gl 84 (BK fun e=>bV (Au e)):=by
  refine AD.congr (AS AO AP Try.func84 (by kernel_rfl) (by kernel_rfl) (Γ:=AR Gl Xv []) (AQ U5 _)) fun vs r h=>?_
  obtain ⟨e,rfl,rfl⟩:=BS h
  refine (Ad5 e).trans ?_
  unfold Au
  cases B0 e <;> rfl
theorem Oh (e:E6):B0 e = bor (ieq e.kind 1) (bor (ieq e.kind 2) (ieq e.kind 3)):=by
  unfold B0
  rw [Bool.eq_iff_iff]
  simp [Af,bor,ile,ieq]
  omega
theorem Ad8 (e:E6):(A1 (Al tab (AR Gl [] []) Try.f22 [eV e] [])).sem = (sel (ieq (e).kind 1) (sel (ieq (e).kind 1) (sel (ieq (e).kind 1) (sel (ieq (e).kind 1) (some ((bV (e).ext),[])) none) none) none) (sel (ieq (e).kind 1) (sel (ieq (e).kind 1) (sel (ieq (e).kind 1) (some ((bV (e).ext),[])) none) none) (sel (ieq (e).kind 1) (sel (ieq (e).kind 1) (some ((bV (e).ext),[])) none) (sel (ieq (e).kind 1) (some ((bV (e).ext),[])) (sel (ieq (e).kind 2) (sel (ieq (e).kind 2) (sel (ieq (e).kind 2) (sel (ieq (e).kind 2) (some ((bV (e).ext),[])) none) none) none) (sel (ieq (e).kind 2) (sel (ieq (e).kind 2) (sel (ieq (e).kind 2) (some ((bV (e).ext),[])) none) none) (sel (ieq (e).kind 2) (sel (ieq (e).kind 2) (some ((bV (e).ext),[])) none) (sel (ieq (e).kind 2) (some ((bV (e).ext),[])) (sel (ieq (e).kind 3) (sel (ieq (e).kind 3) (sel (ieq (e).kind 3) (some ((bV (e).ext),[])) (some ((bV false),[]))) (sel (ieq (e).kind 3) (some (A7,[])) (some ((bV false),[])))) (sel (ieq (e).kind 3) none (sel (ieq (e).kind 3) (some (A7,[])) (some ((bV false),[]))))))))))))):=by kernel_rfl
theorem p60:AD Try.prog Gl 22 (BK fun e=>bV (Az e)):=by
  refine AD.congr (AS AO AP Try.func22 (by kernel_rfl) (by kernel_rfl) (Γ:=AR Gl [] []) (AQ AF.nil _)) fun vs r h=>?_
  obtain ⟨e,rfl,rfl⟩:=BS h
  refine (Ad8 e).trans ?_
  unfold Az
  rw [Oh]
  cases ieq e.kind 1 <;> cases ieq e.kind 2 <;> cases ieq e.kind 3 <;> rfl
theorem Ad7 (e:E6):(A1 (Al tab (AR Gl [] []) Try.f23 [eV e] [])).sem = (sel (Am (ieq (e).kind 1)) (sel (Am (ieq (e).kind 1)) (sel (Am (ieq (e).kind 1)) (sel (Am (ieq (e).kind 1)) (sel (Am (ieq (e).kind 2)) (sel (Am (ieq (e).kind 2)) (sel (Am (ieq (e).kind 2)) (sel (Am (ieq (e).kind 2)) (sel (Am (ieq (e).kind 3)) (sel (Am (ieq (e).kind 3)) (sel (Am (ieq (e).kind 3)) (sel (Am (ieq (e).kind 3)) (some ((bV (Am (e).same)),[])) (some ((bV false),[]))) (sel (Am (ieq (e).kind 3)) (some (A7,[])) (some ((bV false),[])))) (sel (Am (ieq (e).kind 3)) none (sel (Am (ieq (e).kind 3)) (some (A7,[])) (some ((bV false),[]))))) (sel (Am (ieq (e).kind 3)) none (sel (Am (ieq (e).kind 3)) none (sel (Am (ieq (e).kind 3)) (some (A7,[])) (some ((bV false),[])))))) (some ((bV false),[]))) (sel (Am (ieq (e).kind 2)) none (some ((bV false),[])))) (sel (Am (ieq (e).kind 2)) none (sel (Am (ieq (e).kind 2)) none (some ((bV false),[]))))) (sel (Am (ieq (e).kind 2)) none (sel (Am (ieq (e).kind 2)) none (sel (Am (ieq (e).kind 2)) none (some ((bV false),[])))))) (some ((bV false),[]))) (sel (Am (ieq (e).kind 1)) none (some ((bV false),[])))) (sel (Am (ieq (e).kind 1)) none (sel (Am (ieq (e).kind 1)) none (some ((bV false),[]))))) (sel (Am (ieq (e).kind 1)) none (sel (Am (ieq (e).kind 1)) none (sel (Am (ieq (e).kind 1)) none (some ((bV false),[])))))):=by kernel_rfl
theorem p61:AD Try.prog Gl 23 (BK fun e=>bV (Au e)):=by
  refine AD.congr (AS AO AP Try.func23 (by kernel_rfl) (by kernel_rfl) (Γ:=AR Gl [] []) (AQ AF.nil _)) fun vs r h=>?_
  obtain ⟨e,rfl,rfl⟩:=BS h
  refine (Ad7 e).trans ?_
  unfold Au
  rw [Oh]
  cases ieq e.kind 1 <;> cases ieq e.kind 2 <;> cases ieq e.kind 3 <;> rfl
noncomputable def tbY:List (Nat × (List V->T (V × List Blk))):=(64,BK fun e=>iV (AM e)) :: (83,BK fun e=>bV (Az e)) :: (84,BK fun e=>bV (Au e)) :: []
theorem MC:AF Try.prog Gl tbY:=.cons p29 <| .cons p88 <| .cons p89 .nil
def Ns (n:Nat) (f:Nat->E6):Lp:=⟨(bmK 16 0 [0,2,3]),0,bmK 16 0 [2],0,n+1⟩
def LB (n:Nat) (f:Nat->E6) (i:Nat) (j:Nat->V):St:=⟨(jsV 16 0 j [(0,.sl 6 n (fun i=>eV (f i))),(2,bV false),(3,nV i)]),[]⟩
def Q7 (n:Nat) (f:Nat->E6) (i:Nat):Ex × St:=(.ex 0,⟨(jsV 16 0 (fun _=>.und) [(2,bV false)]),[]⟩)
def Q6 (n:Nat) (f:Nat->E6) (i:Nat):Ex × St:=(.rt,⟨(jsV 16 0 (fun _=>.und) [(2,bV false)]),[]⟩)
noncomputable def Gb (L:LT):St->T (Ex × St):=fun st=>A9 tab ⟨Ao tbY,L,Gl⟩ (Av Try.f94 0) 0 st
section
variable (L:LT) (n:Nat) (f:Nat->E6) (i:Nat)  (j:Nat->V)
include L n f i j
theorem AhO (h0:ilt (ofNat i) (ofNat n) = false):Ai (Gb L) (Ns n f) (LB n f i j) = some ((.ex 0),⟨(jsV 16 0 (fun _=>.und) [(2,(bV false))]),[]⟩):=Aa [false] [ilt (ofNat i) (ofNat n)] (by kernel_rfl) (by simp only [h0] <;> rfl)
theorem AhM (h0:ilt (ofNat i) (ofNat n) = true) (h10:ile 0 (ofNat i) = true) (h1:ieq (AM (f i)) 0 = false):Ai (Gb L) (Ns n f) (LB n f i j) = some (.rt,⟨(jsV 16 0 (fun _=>.und) [(2,(bV false))]),[]⟩):=Aa [true,true,true] [ilt (ofNat i) (ofNat n),Af (ile 0 (ofNat i)) (ilt (ofNat i) (ofNat n)),Am (ieq (AM (f i)) 0)] (by kernel_rfl) (by simp only [*] <;> rfl)
theorem AhN (h0:ilt (ofNat i) (ofNat n) = true) (h10:ile 0 (ofNat i) = true) (h1:ieq (AM (f i)) 0 = true):Ai (Gb L) (Ns n f) (LB n f i j) = some (.nm,⟨(jsV 16 0 (fun _=>.und) [(0,(.sl 6 n (fun i=>eV (f i)))),(2,(bV false)),(3,(iV (wr .i64 (Ae (ofNat i) 1))))]),[]⟩):=Aa [true,true,false] [ilt (ofNat i) (ofNat n),Af (ile 0 (ofNat i)) (ilt (ofNat i) (ofNat n)),Am (ieq (AM (f i)) 0)] (by kernel_rfl) (by simp only [*] <;> rfl)
end
def Vl (n:Nat) (f:Nat->E6) :Nat->V:=lkV A7 []
section
variable (L:LT) (p0:PT) (n:Nat) (f:Nat->E6) (i:Nat)
include L p0 n f i
theorem Agu  (hp0:p0 (Gb (onP 0 p0 (Q7 n f i) L)) (LB n f 0 (Vl n f )) = true):(A1 (Al tab ⟨Ao tbY,onP 0 p0 (Q7 n f i) L,Gl⟩ Try.f94 [A2 n f] [])).sem = some ((bV true),[]):=Aa [true] [p0 (Gb (onP 0 p0 (Q7 n f i) L)) (LB n f 0 (Vl n f ))] (by kernel_rfl) (by simp only [hp0] <;> rfl)
theorem Agt  (hp0:p0 (Gb (onP 0 p0 (Q6 n f i) L)) (LB n f 0 (Vl n f )) = true):(A1 (Al tab ⟨Ao tbY,onP 0 p0 (Q6 n f i) L,Gl⟩ Try.f94 [A2 n f] [])).sem = some ((bV false),[]):=Aa [true] [p0 (Gb (onP 0 p0 (Q6 n f i) L)) (LB n f 0 (Vl n f ))] (by kernel_rfl) (by simp only [hp0] <;> rfl)
end
def N1 (n:Nat) (f:Nat->E6):Lp:=⟨(bmK 21 0 [1,5,8,9,10]),0,bmK 21 0 [5],0,n+1⟩
def OL (n:Nat) (f:Nat->E6) (s:Int) (i:Nat) (j:Nat->V):St:=⟨(jsV 21 0 j [(1,.fn 83 []),(5,iV s),(8,.sl 6 n (fun i=>eV (f i))),(9,nV n),(10,nV i)]),[]⟩
def Q8 (n:Nat) (f:Nat->E6) (s:Int) (i:Nat):Ex × St:=(.ex 0,⟨(jsV 21 0 (fun _=>.und) [(5,iV s)]),[]⟩)
noncomputable def Ji (L:LT):St->T (Ex × St):=fun st=>A9 tab ⟨Ao tbY,L,Gl⟩ (Av Try.f82 0) 0 st
section
variable (L:LT) (n:Nat) (f:Nat->E6) (s:Int) (i:Nat)  (j:Nat->V)
include L n f s i j
theorem Afh (h0:ilt (ofNat i) (ofNat n) = false):Ai (Ji L) (N1 n f) (OL n f s i j) = some ((.ex 0),⟨(jsV 21 0 (fun _=>.und) [(5,(iV s))]),[]⟩):=Aa [false] [ilt (ofNat i) (ofNat n)] (by kernel_rfl) (by simp only [h0] <;> rfl)
theorem Aff (h0:ilt (ofNat i) (ofNat n) = true) (h10:ile 0 (ofNat i) = true) (h1:Az (f i) = true):Ai (Ji L) (N1 n f) (OL n f s i j) = some (.nm,⟨(jsV 21 0 (fun _=>.und) [(1,(.fn 83 [])),(5,(iV (wr .i64 (Ae s 1)))),(8,(.sl 6 n (fun i=>eV (f i)))),(9,(nV n)),(10,(iV (wr .i64 (Ae (ofNat i) 1))))]),[]⟩):=Aa [true,true,true] [ilt (ofNat i) (ofNat n),Af (ile 0 (ofNat i)) (ilt (ofNat i) (ofNat n)),Az (f i)] (by kernel_rfl) (by simp only [*] <;> rfl)
theorem Afg (h0:ilt (ofNat i) (ofNat n) = true) (h10:ile 0 (ofNat i) = true) (h1:Az (f i) = false):Ai (Ji L) (N1 n f) (OL n f s i j) = some (.nm,⟨(jsV 21 0 (fun _=>.und) [(1,(.fn 83 [])),(5,(iV s)),(8,(.sl 6 n (fun i=>eV (f i)))),(9,(nV n)),(10,(iV (wr .i64 (Ae (ofNat i) 1))))]),[]⟩):=Aa [true,true,false] [ilt (ofNat i) (ofNat n),Af (ile 0 (ofNat i)) (ilt (ofNat i) (ofNat n)),Az (f i)] (by kernel_rfl) (by simp only [*] <;> rfl)
end
def Ac0 (n:Nat) (f:Nat->E6) :Nat->V:=lkV A7 [(0,(.sl 6 n (fun i=>eV (f i)))),(4,(iV 0))]
theorem Agv (L:LT) (p0:PT) (n:Nat) (f:Nat->E6) (s:Int) (i:Nat)  (hp0:p0 (Ji (onP 0 p0 (Q8 n f s i) L)) (OL n f 0 0 (Ac0 n f )) = true):(A1 (Al tab ⟨Ao tbY,onP 0 p0 (Q8 n f s i) L,Gl⟩ Try.f82 [A2 n f,.fn 83 []] [])).sem = some ((iV s),[]):=Aa [true] [p0 (Ji (onP 0 p0 (Q8 n f s i) L)) (OL n f 0 0 (Ac0 n f ))] (by kernel_rfl) (by simp only [hp0] <;> rfl)
def N2 (n:Nat) (f:Nat->E6):Lp:=⟨(bmK 21 0 [1,5,8,9,10]),0,bmK 21 0 [5],0,n+1⟩
def OM (n:Nat) (f:Nat->E6) (s:Int) (i:Nat) (j:Nat->V):St:=⟨(jsV 21 0 j [(1,.fn 84 []),(5,iV s),(8,.sl 6 n (fun i=>eV (f i))),(9,nV n),(10,nV i)]),[]⟩
def Q9 (n:Nat) (f:Nat->E6) (s:Int) (i:Nat):Ex × St:=(.ex 0,⟨(jsV 21 0 (fun _=>.und) [(5,iV s)]),[]⟩)
noncomputable def Jj (L:LT):St->T (Ex × St):=fun st=>A9 tab ⟨Ao tbY,L,Gl⟩ (Av Try.f82 0) 0 st
section
variable (L:LT) (n:Nat) (f:Nat->E6) (s:Int) (i:Nat)  (j:Nat->V)
include L n f s i j
theorem Afk (h0:ilt (ofNat i) (ofNat n) = false):Ai (Jj L) (N2 n f) (OM n f s i j) = some ((.ex 0),⟨(jsV 21 0 (fun _=>.und) [(5,(iV s))]),[]⟩):=Aa [false] [ilt (ofNat i) (ofNat n)] (by kernel_rfl) (by simp only [h0] <;> rfl)
theorem Afi (h0:ilt (ofNat i) (ofNat n) = true) (h10:ile 0 (ofNat i) = true) (h1:Au (f i) = true):Ai (Jj L) (N2 n f) (OM n f s i j) = some (.nm,⟨(jsV 21 0 (fun _=>.und) [(1,(.fn 84 [])),(5,(iV (wr .i64 (Ae s 1)))),(8,(.sl 6 n (fun i=>eV (f i)))),(9,(nV n)),(10,(iV (wr .i64 (Ae (ofNat i) 1))))]),[]⟩):=Aa [true,true,true] [ilt (ofNat i) (ofNat n),Af (ile 0 (ofNat i)) (ilt (ofNat i) (ofNat n)),Au (f i)] (by kernel_rfl) (by simp only [*] <;> rfl)
theorem Afj (h0:ilt (ofNat i) (ofNat n) = true) (h10:ile 0 (ofNat i) = true) (h1:Au (f i) = false):Ai (Jj L) (N2 n f) (OM n f s i j) = some (.nm,⟨(jsV 21 0 (fun _=>.und) [(1,(.fn 84 [])),(5,(iV s)),(8,(.sl 6 n (fun i=>eV (f i)))),(9,(nV n)),(10,(iV (wr .i64 (Ae (ofNat i) 1))))]),[]⟩):=Aa [true,true,false] [ilt (ofNat i) (ofNat n),Af (ile 0 (ofNat i)) (ilt (ofNat i) (ofNat n)),Au (f i)] (by kernel_rfl) (by simp only [*] <;> rfl)
end
def Ac1 (n:Nat) (f:Nat->E6) :Nat->V:=lkV A7 [(0,(.sl 6 n (fun i=>eV (f i)))),(4,(iV 0))]
theorem Agw (L:LT) (p0:PT) (n:Nat) (f:Nat->E6) (s:Int) (i:Nat)  (hp0:p0 (Jj (onP 0 p0 (Q9 n f s i) L)) (OM n f 0 0 (Ac1 n f )) = true):(A1 (Al tab ⟨Ao tbY,onP 0 p0 (Q9 n f s i) L,Gl⟩ Try.f82 [A2 n f,.fn 84 []] [])).sem = some ((iV s),[]):=Aa [true] [p0 (Jj (onP 0 p0 (Q9 n f s i) L)) (OM n f 0 0 (Ac1 n f ))] (by kernel_rfl) (by simp only [hp0] <;> rfl)
def Ai6:List V->T (V × List Blk):=GS fun n f=>.br (Ah n) (out (bV (BI n f))) .fail
theorem AbZ (L:LT) (n:Nat) (f:Nat->E6) (hn:n <= 4611686018427387904):∀ (e i:Nat) (j:Nat->V) (q:Nat),n = i+e->e < q->(∀ k,k < i->ieq (AM (f k)) 0 = true) ->
    (A3 (Gb L) (Ns n f) q (LB n f i j)).sem = some (match BI n f with | true=>Q7 n f 0 | false=>Q6 n f 0)
  | 0,i,j,q+1,h,_,hb=>by
    have:n = i:=by omega
    subst this
    rw [show BI n f = true from AA.2 hb]
    exact Ab (AhO L n f _ j (A8 (Nat.le_refl _)))
  | e+1,i,j,q+1,h,h2,hb=>by
    cases hp:ieq (AM (f i)) 0 with
    | true =>
      rw [Ab (AhN L n f i j (ofNat_lt (by omega)) (AJ _) hp),Aw,Aq (show i < n by omega) hn]
      exact AbZ L n f hn e (i+1) (fun _=>.und) q (by omega) (by omega) fun k hk=>by
        by_cases hki:k = i
        · subst hki; exact hp
        · exact hb k (by omega)
    | false =>
      have hm:BI n f = false:=by
        cases hm:BI n f with
        | false=>rfl
        | true =>
          have:=AA.1 hm i (by omega)
          rw [hp] at this
          cases this
      rw [hm]
      exact Ab (AhM L n f i j (ofNat_lt (by omega)) (AJ _) hp)
theorem p98:AD Try.prog Gl 94 Ai6:=by
  refine A5 AO AP Try.func94 (by kernel_rfl) (by kernel_rfl) fun vs v h' h=>?_
  obtain ⟨n,f,ha,hq⟩:=CK h
  obtain ⟨hn,hq⟩:=Ag hq
  have:=Ac hq
  simp only [Prod.mk.injEq] at this
  obtain ⟨rfl,rfl⟩:=this
  have hn:n <= 4611686018427387904:=of_decide_eq_true hn
  have hx:=AQ MC [(0,Ns n f)]
  have hL:=AC [(0,Ns n f)]
  refine ⟨_,AR Gl tbY [(0,Ns n f)],[],ha,rfl,hx.1,hx.2,?_,AB.refl _⟩
  have hr:=fun L i=>AbZ L n f hn n 0 i (n+1) (by omega) (by omega) (fun k hk=>by omega)
  cases hm:BI n f with
  | true =>
    rw [hm] at hr
    exact A6 (Ax hL hL) _ (Agu _ _ n f 0 (Ak (hr _ _)))
  | false =>
    rw [hm] at hr
    exact A6 (Ax hL hL) _ (Agt _ _ n f 0 (Ak (hr _ _)))
def Aj (p:Nat->Bool):Nat->Nat
  | 0=>0
  | i+1=>match p i with
    | true=>Aj p i+1
    | false=>Aj p i
theorem Bd (p:Nat->Bool):∀ i,Aj p i <= i
  | 0=>Nat.le_refl _
  | i+1=>by
    have:=Bd p i
    unfold Aj
    split <;> omega
theorem T6 (L:LT) (n:Nat) (f:Nat->E6) (hn:n <= 4611686018427387904):∀ (e i:Nat) (j:Nat->V) (q:Nat),n = i+e->e < q ->
    (A3 (Ji L) (N1 n f) q (OL n f (ofNat (Aj (fun k=>Az (f k)) i)) i j)).sem = some (Q8 n f (ofNat (Aj (fun k=>Az (f k)) n)) 0)
  | 0,i,j,q+1,h,_=>by
    have:n = i:=by omega
    subst this
    exact Ab (Afh L n f _ _ j (A8 (Nat.le_refl _)))
  | e+1,i,j,q+1,h,h2=>by
    have hc:=Bd (fun k=>Az (f k)) i
    cases hp:Az (f i) with
    | true =>
      rw [Ab (Aff L n f _ i j (ofNat_lt (by omega)) (AJ _) hp),Aw,Aq (show i < n by omega) hn,Aq (show Aj (fun k=>Az (f k)) i < n by omega) hn,
        show Aj (fun k=>Az (f k)) i+1 = Aj (fun k=>Az (f k)) (i+1) by rw [Aj,hp]]
      exact T6 L n f hn e (i+1) (fun _=>.und) q (by omega) (by omega)
    | false =>
      rw [Ab (Afg L n f _ i j (ofNat_lt (by omega)) (AJ _) hp),Aw,Aq (show i < n by omega) hn,
        show Aj (fun k=>Az (f k)) i = Aj (fun k=>Az (f k)) (i+1) by rw [Aj,hp]]
      exact T6 L n f hn e (i+1) (fun _=>.und) q (by omega) (by omega)
theorem T7 (L:LT) (n:Nat) (f:Nat->E6) (hn:n <= 4611686018427387904):∀ (e i:Nat) (j:Nat->V) (q:Nat),n = i+e->e < q ->
    (A3 (Jj L) (N2 n f) q (OM n f (ofNat (Aj (fun k=>Au (f k)) i)) i j)).sem = some (Q9 n f (ofNat (Aj (fun k=>Au (f k)) n)) 0)
  | 0,i,j,q+1,h,_=>by
    have:n = i:=by omega
    subst this
    exact Ab (Afk L n f _ _ j (A8 (Nat.le_refl _)))
  | e+1,i,j,q+1,h,h2=>by
    have hc:=Bd (fun k=>Au (f k)) i
    cases hp:Au (f i) with
    | true =>
      rw [Ab (Afi L n f _ i j (ofNat_lt (by omega)) (AJ _) hp),Aw,Aq (show i < n by omega) hn,Aq (show Aj (fun k=>Au (f k)) i < n by omega) hn,
        show Aj (fun k=>Au (f k)) i+1 = Aj (fun k=>Au (f k)) (i+1) by rw [Aj,hp]]
      exact T7 L n f hn e (i+1) (fun _=>.und) q (by omega) (by omega)
    | false =>
      rw [Ab (Afj L n f _ i j (ofNat_lt (by omega)) (AJ _) hp),Aw,Aq (show i < n by omega) hn,
        show Aj (fun k=>Au (f k)) i = Aj (fun k=>Au (f k)) (i+1) by rw [Aj,hp]]
      exact T7 L n f hn e (i+1) (fun _=>.und) q (by omega) (by omega)
def Uo:List V->T (V × List Blk)
  | [v,.fn g []]=>apL v fun n f=>.br (Ah n) (match Nat.beq g 83,Nat.beq g 84 with
    | true,_=>out (iV (ofNat (Aj (fun k=>Az (f k)) n)))
    | false,true=>out (iV (ofNat (Aj (fun k=>Au (f k)) n)))
    | false,false=>.fail) .fail
  | _=>.fail
theorem p87:AD Try.prog Gl 82 Uo:=by
  refine A5 AO AP Try.func82 (by kernel_rfl) (by kernel_rfl) fun vs v h' h=>?_
  unfold Uo at h
  split at h
  · rename_i u g
    obtain ⟨n,f,ha,h1⟩:=BU h
    obtain ⟨hn,hq⟩:=Ag h1
    clear h h1
    have hn:n <= 4611686018427387904:=of_decide_eq_true hn
    have hA:BA [u,.fn g []] [A2 n f,.fn g []]:=fun S w cs hv=>by
      obtain ⟨c,l,rfl,q1,q2⟩:=hv
      exact ⟨c,l,rfl,ha S w c q1,q2⟩
    split at hq
    · rename_i h1
      have h1:=Nat.eq_of_beq_eq_true h1
      subst h1
      have:=Ac hq
      simp only [Prod.mk.injEq] at this
      obtain ⟨rfl,rfl⟩:=this
      have hx:=AQ MC [(0,N1 n f)]
      have hL:=AC [(0,N1 n f)]
      exact ⟨_,AR Gl tbY [(0,N1 n f)],[],hA,rfl,hx.1,hx.2,A6 (Ax hL hL) _ (Agv _ _ n f _ 0 (Ak (T6 _ n f hn n 0 _ (n+1) (by omega) (by omega)))),AB.refl _⟩
    · rename_i h2
      have h2:=Nat.eq_of_beq_eq_true h2
      subst h2
      have:=Ac hq
      simp only [Prod.mk.injEq] at this
      obtain ⟨rfl,rfl⟩:=this
      have hx:=AQ MC [(0,N2 n f)]
      have hL:=AC [(0,N2 n f)]
      exact ⟨_,AR Gl tbY [(0,N2 n f)],[],hA,rfl,hx.1,hx.2,A6 (Ax hL hL) _ (Agw _ _ n f _ 0 (Ak (T7 _ n f hn n 0 _ (n+1) (by omega) (by omega)))),AB.refl _⟩
    · cases hq
  · cases h
end Go.Proofs.Ytjhnfomefcngfaa.Ed
