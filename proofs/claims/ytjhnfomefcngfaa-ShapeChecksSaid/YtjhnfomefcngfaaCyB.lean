/-
  Layer 3: the numbers of a list of edges. No conditions.
-/
import Derived.Test.YtjhnfomefcngfaaEdN
namespace Go.Proofs.Ytjhnfomefcngfaa.Ed
open Go.Sy
theorem Ar {n:Nat}:Ai n (fun _=>true) = true:=A4.2 fun _ _=>rfl
def BM (g:Nat->V):Nat->Nat->V
  | 0=>fun _=>.und
  | i+1=>AO i (BM g i) (g i)
theorem Ij (g:Nat->V):∀ n j,j < n->BM g n j = g j
  | 0,j,h=>by omega
  | n+1,j,h=>by
    rw [show BM g (n+1) j = AO n (BM g n) (g n) j from rfl,B4]
    show (bif Nat.beq j n then g n else BM g n j) = _
    cases hb:Nat.beq j n with
    | true =>
      rw [Nat.eq_of_beq_eq_true hb]
      rfl
    | false =>
      have:=Nat.ne_of_beq_eq_false hb
      exact Ij g n j (by omega)
theorem Rc {i n b c:Nat} (h:i < n) (hb:b <= c) (hn:n * c <= 140737488355328):AN i 1 b = true:=by
  refine decide_eq_true ?_
  have h1:(i+1) * b <= n * b:=Nat.mul_le_mul_right b (by omega)
  have h2:n * b <= n * c:=Nat.mul_le_mul_left n hb
  omega
theorem Jf {n:Nat} (hn:AL n = true):n <= 4611686018427387904:=by
  have hn:n * 40 <= 140737488355328:=of_decide_eq_true hn
  omega
def cdV (f:Nat->E6):Nat->V:=fun i=>iV (B8 (f i))
theorem Sx (p:Nat->Bool):∀ n,Ai n p = false->∃ e,e < n ∧ p e = false ∧ ∀ t,t < e->p t = true
  | 0,h=>by cases h
  | n+1,h=>by
    cases hn:Ai n p with
    | false =>
      obtain ⟨e,h1,h2,h3⟩:=Sx p n hn
      exact ⟨e,by omega,h2,h3⟩
    | true =>
      refine ⟨n,by omega,?_,fun t ht=>A4.1 hn t ht⟩
      cases hp:p n with
      | false=>rfl
      | true =>
        have:Ai (n+1) p = true:=A4.2 fun i hi=>by
          by_cases hi':i = n
          · rw [hi',hp]
          · exact A4.1 hn i (by omega)
        rw [this] at h; cases h
theorem Zp {e:E6} (h:AT e ≠ 0):AT e = 30:=by
  rcases Gg e with ⟨_,_,h1,_⟩ | ⟨h1,_⟩
  · exact absurd h1 h
  · exact h1
theorem Yl {n:Nat} {f:Nat->E6} (h:BW n f = false):∃ e,e < n ∧ AT (f e) = 30 ∧ ∀ t,t < e->AT (f t) = 0:=by
  obtain ⟨e,h1,h2,h3⟩:=Sx _ n h
  refine ⟨e,h1,Zp fun h0=>?_,fun t ht=>by simpa [ieq] using h3 t ht⟩
  rw [h0] at h2
  cases h2
def Zo:List V->T (V × List Blk):=Ha fun n f=>.br (AL n) (.br (BW n f) (.leaf (.tup [.ref 0,iV 0],[.row 3 1 n fun i=>iV (B8 (f i))])) (.leaf (.tup [.ref 0,iV 30],[.row 3 1 0 fun _=>.und]))) .fail
end Go.Proofs.Ytjhnfomefcngfaa.Ed
namespace Go.Proofs.Ytjhnfomefcngfaa.Ed
open Go.Sy
end Go.Proofs.Ytjhnfomefcngfaa.Ed
namespace Go.Proofs.Ytjhnfomefcngfaa.Ed
open Go.Sy
open Int (ofNat)
def B0 (e:E6):Bool:=Ag (ile 1 e.kind) (ile e.kind 3)
def Ay (e:E6):Bool:=Ag (B0 e) e.ext
def Au (e:E6):Bool:=Ag (Am (B0 e)) (Am e.same)
theorem ZF (e:E6):(As (Aj tab (AI Gl [] []) Try.f111 [eV e] [])).sem = (sel (ile 1 (e).kind) (sel (ile 1 (e).kind) (sel (ile 1 (e).kind) (sel (ile 1 (e).kind) (some ((bV (ile (e).kind 3)),[])) (some ((bV false),[]))) (sel (ile 1 (e).kind) (some (A8,[])) (some ((bV false),[])))) (sel (ile 1 (e).kind) none (sel (ile 1 (e).kind) (some (A8,[])) (some ((bV false),[]))))) (sel (ile 1 (e).kind) none (sel (ile 1 (e).kind) none (sel (ile 1 (e).kind) (some (A8,[])) (some ((bV false),[])))))):=by kernel_rfl
theorem Aky:AB Try.prog Gl 111 (BN fun e=>bV (B0 e)):=by
  refine AB.congr (AS AQ AR Try.func111 (by kernel_rfl) (by kernel_rfl) (Γ:=AI Gl [] []) (AP AC.nil _)) fun vs r h=>?_
  obtain ⟨e,rfl,rfl⟩:=BU h
  refine (ZF e).trans ?_
  unfold B0
  cases ile 1 e.kind <;> rfl
theorem AH (i:Nat):ile 0 (ofNat i) = true:=UW (by simp)
noncomputable def Xi:List (Nat × (List V->T (V × List Blk))):=(111,BN fun e=>bV (B0 e)) :: []
theorem Ux:AC Try.prog Gl Xi:=.cons Aky .nil
theorem Ad3 (e:E6):(As (Aj tab (AI Gl Xi []) Try.f83 [eV e] [])).sem = (sel (B0 e) (sel (B0 e) (sel (B0 e) (some ((bV (e).ext),[])) (some ((bV false),[]))) (sel (B0 e) (some (A8,[])) (some ((bV false),[])))) (sel (B0 e) none (sel (B0 e) (some (A8,[])) (some ((bV false),[]))))):=by kernel_rfl
theorem p88:AB Try.prog Gl 83 (BN fun e=>bV (Ay e)):=by
  refine AB.congr (AS AQ AR Try.func83 (by kernel_rfl) (by kernel_rfl) (Γ:=AI Gl Xi []) (AP Ux _)) fun vs r h=>?_
  obtain ⟨e,rfl,rfl⟩:=BU h
  refine (Ad3 e).trans ?_
  unfold Ay
  cases B0 e <;> rfl
theorem Ad2 (e:E6):(As (Aj tab (AI Gl Xi []) Try.f84 [eV e] [])).sem = (sel (Am (B0 e)) (sel (Am (B0 e)) (sel (Am (B0 e)) (sel (Am (B0 e)) (some ((bV (Am (e).same)),[])) (some ((bV false),[]))) (sel (Am (B0 e)) (some (A8,[])) (some ((bV false),[])))) (sel (Am (B0 e)) none (sel (Am (B0 e)) (some (A8,[])) (some ((bV false),[]))))) (sel (Am (B0 e)) none (sel (Am (B0 e)) none (sel (Am (B0 e)) (some (A8,[])) (some ((bV false),[])))))):=by kernel_rfl
theorem p89:AB Try.prog Gl 84 (BN fun e=>bV (Au e)):=by
  refine AB.congr (AS AQ AR Try.func84 (by kernel_rfl) (by kernel_rfl) (Γ:=AI Gl Xi []) (AP Ux _)) fun vs r h=>?_
  obtain ⟨e,rfl,rfl⟩:=BU h
  refine (Ad2 e).trans ?_
  unfold Au
  cases B0 e <;> rfl
theorem Of (e:E6):B0 e = bor (ieq e.kind 1) (bor (ieq e.kind 2) (ieq e.kind 3)):=by
  unfold B0
  rw [Bool.eq_iff_iff]
  simp [Ag,bor,ile,ieq]
  omega
theorem Ad5 (e:E6):(As (Aj tab (AI Gl [] []) Try.f22 [eV e] [])).sem = (sel (ieq (e).kind 1) (sel (ieq (e).kind 1) (sel (ieq (e).kind 1) (sel (ieq (e).kind 1) (some ((bV (e).ext),[])) none) none) none) (sel (ieq (e).kind 1) (sel (ieq (e).kind 1) (sel (ieq (e).kind 1) (some ((bV (e).ext),[])) none) none) (sel (ieq (e).kind 1) (sel (ieq (e).kind 1) (some ((bV (e).ext),[])) none) (sel (ieq (e).kind 1) (some ((bV (e).ext),[])) (sel (ieq (e).kind 2) (sel (ieq (e).kind 2) (sel (ieq (e).kind 2) (sel (ieq (e).kind 2) (some ((bV (e).ext),[])) none) none) none) (sel (ieq (e).kind 2) (sel (ieq (e).kind 2) (sel (ieq (e).kind 2) (some ((bV (e).ext),[])) none) none) (sel (ieq (e).kind 2) (sel (ieq (e).kind 2) (some ((bV (e).ext),[])) none) (sel (ieq (e).kind 2) (some ((bV (e).ext),[])) (sel (ieq (e).kind 3) (sel (ieq (e).kind 3) (sel (ieq (e).kind 3) (some ((bV (e).ext),[])) (some ((bV false),[]))) (sel (ieq (e).kind 3) (some (A8,[])) (some ((bV false),[])))) (sel (ieq (e).kind 3) none (sel (ieq (e).kind 3) (some (A8,[])) (some ((bV false),[]))))))))))))):=by kernel_rfl
theorem p60:AB Try.prog Gl 22 (BN fun e=>bV (Ay e)):=by
  refine AB.congr (AS AQ AR Try.func22 (by kernel_rfl) (by kernel_rfl) (Γ:=AI Gl [] []) (AP AC.nil _)) fun vs r h=>?_
  obtain ⟨e,rfl,rfl⟩:=BU h
  refine (Ad5 e).trans ?_
  unfold Ay
  rw [Of]
  cases ieq e.kind 1 <;> cases ieq e.kind 2 <;> cases ieq e.kind 3 <;> rfl
theorem Ad4 (e:E6):(As (Aj tab (AI Gl [] []) Try.f23 [eV e] [])).sem = (sel (Am (ieq (e).kind 1)) (sel (Am (ieq (e).kind 1)) (sel (Am (ieq (e).kind 1)) (sel (Am (ieq (e).kind 1)) (sel (Am (ieq (e).kind 2)) (sel (Am (ieq (e).kind 2)) (sel (Am (ieq (e).kind 2)) (sel (Am (ieq (e).kind 2)) (sel (Am (ieq (e).kind 3)) (sel (Am (ieq (e).kind 3)) (sel (Am (ieq (e).kind 3)) (sel (Am (ieq (e).kind 3)) (some ((bV (Am (e).same)),[])) (some ((bV false),[]))) (sel (Am (ieq (e).kind 3)) (some (A8,[])) (some ((bV false),[])))) (sel (Am (ieq (e).kind 3)) none (sel (Am (ieq (e).kind 3)) (some (A8,[])) (some ((bV false),[]))))) (sel (Am (ieq (e).kind 3)) none (sel (Am (ieq (e).kind 3)) none (sel (Am (ieq (e).kind 3)) (some (A8,[])) (some ((bV false),[])))))) (some ((bV false),[]))) (sel (Am (ieq (e).kind 2)) none (some ((bV false),[])))) (sel (Am (ieq (e).kind 2)) none (sel (Am (ieq (e).kind 2)) none (some ((bV false),[]))))) (sel (Am (ieq (e).kind 2)) none (sel (Am (ieq (e).kind 2)) none (sel (Am (ieq (e).kind 2)) none (some ((bV false),[])))))) (some ((bV false),[]))) (sel (Am (ieq (e).kind 1)) none (some ((bV false),[])))) (sel (Am (ieq (e).kind 1)) none (sel (Am (ieq (e).kind 1)) none (some ((bV false),[]))))) (sel (Am (ieq (e).kind 1)) none (sel (Am (ieq (e).kind 1)) none (sel (Am (ieq (e).kind 1)) none (some ((bV false),[])))))):=by kernel_rfl
theorem p61:AB Try.prog Gl 23 (BN fun e=>bV (Au e)):=by
  refine AB.congr (AS AQ AR Try.func23 (by kernel_rfl) (by kernel_rfl) (Γ:=AI Gl [] []) (AP AC.nil _)) fun vs r h=>?_
  obtain ⟨e,rfl,rfl⟩:=BU h
  refine (Ad4 e).trans ?_
  unfold Au
  rw [Of]
  cases ieq e.kind 1 <;> cases ieq e.kind 2 <;> cases ieq e.kind 3 <;> rfl
noncomputable def tbY:List (Nat × (List V->T (V × List Blk))):=(64,BN fun e=>iV (AT e)) :: (83,BN fun e=>bV (Ay e)) :: (84,BN fun e=>bV (Au e)) :: []
theorem MI:AC Try.prog Gl tbY:=.cons p29 <| .cons p88 <| .cons p89 .nil
def Ny (n:Nat) (f:Nat->E6):Lp:=⟨(bmK 16 0 [0,2,3]),0,bmK 16 0 [2],0,n+1⟩
def LH (n:Nat) (f:Nat->E6) (i:Nat) (j:Nat->V):St:=⟨(jsV 16 0 j [(0,.sl 6 n (fun i=>eV (f i))),(2,bV false),(3,nV i)]),[]⟩
def Q7 (n:Nat) (f:Nat->E6) (i:Nat):Ex × St:=(.ex 0,⟨(jsV 16 0 (fun _=>.und) [(2,bV false)]),[]⟩)
def Q6 (n:Nat) (f:Nat->E6) (i:Nat):Ex × St:=(.rt,⟨(jsV 16 0 (fun _=>.und) [(2,bV false)]),[]⟩)
noncomputable def Gj (L:LT):St->T (Ex × St):=fun st=>AE tab ⟨Ao tbY,L,Gl⟩ (Az Try.f94 0) 0 st
section
variable (L:LT) (n:Nat) (f:Nat->E6) (i:Nat)  (j:Nat->V)
include L n f i j
theorem AhM (h0:ilt (ofNat i) (ofNat n) = false):Al (Gj L) (Ny n f) (LH n f i j) = some ((.ex 0),⟨(jsV 16 0 (fun _=>.und) [(2,(bV false))]),[]⟩):=Aa [false] [ilt (ofNat i) (ofNat n)] (by kernel_rfl) (by simp only [h0] <;> rfl)
theorem AhK (h0:ilt (ofNat i) (ofNat n) = true) (h10:ile 0 (ofNat i) = true) (h1:ieq (AT (f i)) 0 = false):Al (Gj L) (Ny n f) (LH n f i j) = some (.rt,⟨(jsV 16 0 (fun _=>.und) [(2,(bV false))]),[]⟩):=Aa [true,true,true] [ilt (ofNat i) (ofNat n),Ag (ile 0 (ofNat i)) (ilt (ofNat i) (ofNat n)),Am (ieq (AT (f i)) 0)] (by kernel_rfl) (by simp only [*] <;> rfl)
theorem AhL (h0:ilt (ofNat i) (ofNat n) = true) (h10:ile 0 (ofNat i) = true) (h1:ieq (AT (f i)) 0 = true):Al (Gj L) (Ny n f) (LH n f i j) = some (.nm,⟨(jsV 16 0 (fun _=>.und) [(0,(.sl 6 n (fun i=>eV (f i)))),(2,(bV false)),(3,(iV (wr .i64 (Af (ofNat i) 1))))]),[]⟩):=Aa [true,true,false] [ilt (ofNat i) (ofNat n),Ag (ile 0 (ofNat i)) (ilt (ofNat i) (ofNat n)),Am (ieq (AT (f i)) 0)] (by kernel_rfl) (by simp only [*] <;> rfl)
end
def Va (n:Nat) (f:Nat->E6) :Nat->V:=lkV A8 []
section
variable (L:LT) (p0:PT) (n:Nat) (f:Nat->E6) (i:Nat)
include L p0 n f i
theorem Agn  (hp0:p0 (Gj (onP 0 p0 (Q7 n f i) L)) (LH n f 0 (Va n f )) = true):(As (Aj tab ⟨Ao tbY,onP 0 p0 (Q7 n f i) L,Gl⟩ Try.f94 [A2 n f] [])).sem = some ((bV true),[]):=Aa [true] [p0 (Gj (onP 0 p0 (Q7 n f i) L)) (LH n f 0 (Va n f ))] (by kernel_rfl) (by simp only [hp0] <;> rfl)
theorem Agm  (hp0:p0 (Gj (onP 0 p0 (Q6 n f i) L)) (LH n f 0 (Va n f )) = true):(As (Aj tab ⟨Ao tbY,onP 0 p0 (Q6 n f i) L,Gl⟩ Try.f94 [A2 n f] [])).sem = some ((bV false),[]):=Aa [true] [p0 (Gj (onP 0 p0 (Q6 n f i) L)) (LH n f 0 (Va n f ))] (by kernel_rfl) (by simp only [hp0] <;> rfl)
end
def N1 (n:Nat) (f:Nat->E6):Lp:=⟨(bmK 21 0 [1,5,8,9,10]),0,bmK 21 0 [5],0,n+1⟩
def OJ (n:Nat) (f:Nat->E6) (s:Int) (i:Nat) (j:Nat->V):St:=⟨(jsV 21 0 j [(1,.fn 83 []),(5,iV s),(8,.sl 6 n (fun i=>eV (f i))),(9,nV n),(10,nV i)]),[]⟩
def Q8 (n:Nat) (f:Nat->E6) (s:Int) (i:Nat):Ex × St:=(.ex 0,⟨(jsV 21 0 (fun _=>.und) [(5,iV s)]),[]⟩)
noncomputable def Jl (L:LT):St->T (Ex × St):=fun st=>AE tab ⟨Ao tbY,L,Gl⟩ (Az Try.f82 0) 0 st
section
variable (L:LT) (n:Nat) (f:Nat->E6) (s:Int) (i:Nat)  (j:Nat->V)
include L n f s i j
theorem AeY (h0:ilt (ofNat i) (ofNat n) = false):Al (Jl L) (N1 n f) (OJ n f s i j) = some ((.ex 0),⟨(jsV 21 0 (fun _=>.und) [(5,(iV s))]),[]⟩):=Aa [false] [ilt (ofNat i) (ofNat n)] (by kernel_rfl) (by simp only [h0] <;> rfl)
theorem AeW (h0:ilt (ofNat i) (ofNat n) = true) (h10:ile 0 (ofNat i) = true) (h1:Ay (f i) = true):Al (Jl L) (N1 n f) (OJ n f s i j) = some (.nm,⟨(jsV 21 0 (fun _=>.und) [(1,(.fn 83 [])),(5,(iV (wr .i64 (Af s 1)))),(8,(.sl 6 n (fun i=>eV (f i)))),(9,(nV n)),(10,(iV (wr .i64 (Af (ofNat i) 1))))]),[]⟩):=Aa [true,true,true] [ilt (ofNat i) (ofNat n),Ag (ile 0 (ofNat i)) (ilt (ofNat i) (ofNat n)),Ay (f i)] (by kernel_rfl) (by simp only [*] <;> rfl)
theorem AeX (h0:ilt (ofNat i) (ofNat n) = true) (h10:ile 0 (ofNat i) = true) (h1:Ay (f i) = false):Al (Jl L) (N1 n f) (OJ n f s i j) = some (.nm,⟨(jsV 21 0 (fun _=>.und) [(1,(.fn 83 [])),(5,(iV s)),(8,(.sl 6 n (fun i=>eV (f i)))),(9,(nV n)),(10,(iV (wr .i64 (Af (ofNat i) 1))))]),[]⟩):=Aa [true,true,false] [ilt (ofNat i) (ofNat n),Ag (ile 0 (ofNat i)) (ilt (ofNat i) (ofNat n)),Ay (f i)] (by kernel_rfl) (by simp only [*] <;> rfl)
end
def Acu (n:Nat) (f:Nat->E6) :Nat->V:=lkV A8 [(0,(.sl 6 n (fun i=>eV (f i)))),(4,(iV 0))]
theorem Ago (L:LT) (p0:PT) (n:Nat) (f:Nat->E6) (s:Int) (i:Nat)  (hp0:p0 (Jl (onP 0 p0 (Q8 n f s i) L)) (OJ n f 0 0 (Acu n f )) = true):(As (Aj tab ⟨Ao tbY,onP 0 p0 (Q8 n f s i) L,Gl⟩ Try.f82 [A2 n f,.fn 83 []] [])).sem = some ((iV s),[]):=Aa [true] [p0 (Jl (onP 0 p0 (Q8 n f s i) L)) (OJ n f 0 0 (Acu n f ))] (by kernel_rfl) (by simp only [hp0] <;> rfl)
def N2 (n:Nat) (f:Nat->E6):Lp:=⟨(bmK 21 0 [1,5,8,9,10]),0,bmK 21 0 [5],0,n+1⟩
def OK (n:Nat) (f:Nat->E6) (s:Int) (i:Nat) (j:Nat->V):St:=⟨(jsV 21 0 j [(1,.fn 84 []),(5,iV s),(8,.sl 6 n (fun i=>eV (f i))),(9,nV n),(10,nV i)]),[]⟩
def Q9 (n:Nat) (f:Nat->E6) (s:Int) (i:Nat):Ex × St:=(.ex 0,⟨(jsV 21 0 (fun _=>.und) [(5,iV s)]),[]⟩)
noncomputable def Jm (L:LT):St->T (Ex × St):=fun st=>AE tab ⟨Ao tbY,L,Gl⟩ (Az Try.f82 0) 0 st
section
variable (L:LT) (n:Nat) (f:Nat->E6) (s:Int) (i:Nat)  (j:Nat->V)
include L n f s i j
theorem Afb (h0:ilt (ofNat i) (ofNat n) = false):Al (Jm L) (N2 n f) (OK n f s i j) = some ((.ex 0),⟨(jsV 21 0 (fun _=>.und) [(5,(iV s))]),[]⟩):=Aa [false] [ilt (ofNat i) (ofNat n)] (by kernel_rfl) (by simp only [h0] <;> rfl)
theorem AeZ (h0:ilt (ofNat i) (ofNat n) = true) (h10:ile 0 (ofNat i) = true) (h1:Au (f i) = true):Al (Jm L) (N2 n f) (OK n f s i j) = some (.nm,⟨(jsV 21 0 (fun _=>.und) [(1,(.fn 84 [])),(5,(iV (wr .i64 (Af s 1)))),(8,(.sl 6 n (fun i=>eV (f i)))),(9,(nV n)),(10,(iV (wr .i64 (Af (ofNat i) 1))))]),[]⟩):=Aa [true,true,true] [ilt (ofNat i) (ofNat n),Ag (ile 0 (ofNat i)) (ilt (ofNat i) (ofNat n)),Au (f i)] (by kernel_rfl) (by simp only [*] <;> rfl)
theorem Afa (h0:ilt (ofNat i) (ofNat n) = true) (h10:ile 0 (ofNat i) = true) (h1:Au (f i) = false):Al (Jm L) (N2 n f) (OK n f s i j) = some (.nm,⟨(jsV 21 0 (fun _=>.und) [(1,(.fn 84 [])),(5,(iV s)),(8,(.sl 6 n (fun i=>eV (f i)))),(9,(nV n)),(10,(iV (wr .i64 (Af (ofNat i) 1))))]),[]⟩):=Aa [true,true,false] [ilt (ofNat i) (ofNat n),Ag (ile 0 (ofNat i)) (ilt (ofNat i) (ofNat n)),Au (f i)] (by kernel_rfl) (by simp only [*] <;> rfl)
end
def Acv (n:Nat) (f:Nat->E6) :Nat->V:=lkV A8 [(0,(.sl 6 n (fun i=>eV (f i)))),(4,(iV 0))]
theorem Agp (L:LT) (p0:PT) (n:Nat) (f:Nat->E6) (s:Int) (i:Nat)  (hp0:p0 (Jm (onP 0 p0 (Q9 n f s i) L)) (OK n f 0 0 (Acv n f )) = true):(As (Aj tab ⟨Ao tbY,onP 0 p0 (Q9 n f s i) L,Gl⟩ Try.f82 [A2 n f,.fn 84 []] [])).sem = some ((iV s),[]):=Aa [true] [p0 (Jm (onP 0 p0 (Q9 n f s i) L)) (OK n f 0 0 (Acv n f ))] (by kernel_rfl) (by simp only [hp0] <;> rfl)
def Aiv:List V->T (V × List Blk):=Ha fun n f=>.br (Ab n) (out (bV (BW n f))) .fail
theorem AbQ (L:LT) (n:Nat) (f:Nat->E6) (hn:n <= 4611686018427387904):∀ (e i:Nat) (j:Nat->V) (q:Nat),n = i+e->e < q->(∀ k,k < i->ieq (AT (f k)) 0 = true) ->
    (A7 (Gj L) (Ny n f) q (LH n f i j)).sem = some (match BW n f with | true=>Q7 n f 0 | false=>Q6 n f 0)
  | 0,i,j,q+1,h,_,hb=>by
    have:n = i:=by omega
    subst this
    rw [show BW n f = true from A4.2 hb]
    exact Ac (AhM L n f _ j (AA (Nat.le_refl _)))
  | e+1,i,j,q+1,h,h2,hb=>by
    cases hp:ieq (AT (f i)) 0 with
    | true =>
      rw [Ac (AhL L n f i j (ofNat_lt (by omega)) (AH _) hp),Av,Aq (show i < n by omega) hn]
      exact AbQ L n f hn e (i+1) (fun _=>.und) q (by omega) (by omega) fun k hk=>by
        by_cases hki:k = i
        · subst hki; exact hp
        · exact hb k (by omega)
    | false =>
      have hm:BW n f = false:=by
        cases hm:BW n f with
        | false=>rfl
        | true =>
          have:=A4.1 hm i (by omega)
          rw [hp] at this
          cases this
      rw [hm]
      exact Ac (AhK L n f i j (ofNat_lt (by omega)) (AH _) hp)
theorem p98:AB Try.prog Gl 94 Aiv:=by
  refine A1 AQ AR Try.func94 (by kernel_rfl) (by kernel_rfl) fun vs v h' h=>?_
  obtain ⟨n,f,ha,hq⟩:=CV h
  obtain ⟨hn,hq⟩:=Ah hq
  have:=Ad hq
  simp only [Prod.mk.injEq] at this
  obtain ⟨rfl,rfl⟩:=this
  have hn:n <= 4611686018427387904:=of_decide_eq_true hn
  have hx:=AP MI [(0,Ny n f)]
  have hL:=AD [(0,Ny n f)]
  refine ⟨_,AI Gl tbY [(0,Ny n f)],[],ha,rfl,hx.1,hx.2,?_,A6.refl _⟩
  have hr:=fun L i=>AbQ L n f hn n 0 i (n+1) (by omega) (by omega) (fun k hk=>by omega)
  cases hm:BW n f with
  | true =>
    rw [hm] at hr
    exact A3 (Aw hL hL) _ (Agn _ _ n f 0 (An (hr _ _)))
  | false =>
    rw [hm] at hr
    exact A3 (Aw hL hL) _ (Agm _ _ n f 0 (An (hr _ _)))
def Ak (p:Nat->Bool):Nat->Nat
  | 0=>0
  | i+1=>match p i with
    | true=>Ak p i+1
    | false=>Ak p i
theorem Be (p:Nat->Bool):∀ i,Ak p i <= i
  | 0=>Nat.le_refl _
  | i+1=>by
    have:=Be p i
    unfold Ak
    split <;> omega
theorem T3 (L:LT) (n:Nat) (f:Nat->E6) (hn:n <= 4611686018427387904):∀ (e i:Nat) (j:Nat->V) (q:Nat),n = i+e->e < q ->
    (A7 (Jl L) (N1 n f) q (OJ n f (ofNat (Ak (fun k=>Ay (f k)) i)) i j)).sem = some (Q8 n f (ofNat (Ak (fun k=>Ay (f k)) n)) 0)
  | 0,i,j,q+1,h,_=>by
    have:n = i:=by omega
    subst this
    exact Ac (AeY L n f _ _ j (AA (Nat.le_refl _)))
  | e+1,i,j,q+1,h,h2=>by
    have hc:=Be (fun k=>Ay (f k)) i
    cases hp:Ay (f i) with
    | true =>
      rw [Ac (AeW L n f _ i j (ofNat_lt (by omega)) (AH _) hp),Av,Aq (show i < n by omega) hn,Aq (show Ak (fun k=>Ay (f k)) i < n by omega) hn,
        show Ak (fun k=>Ay (f k)) i+1 = Ak (fun k=>Ay (f k)) (i+1) by rw [Ak,hp]]
      exact T3 L n f hn e (i+1) (fun _=>.und) q (by omega) (by omega)
    | false =>
      rw [Ac (AeX L n f _ i j (ofNat_lt (by omega)) (AH _) hp),Av,Aq (show i < n by omega) hn,
        show Ak (fun k=>Ay (f k)) i = Ak (fun k=>Ay (f k)) (i+1) by rw [Ak,hp]]
      exact T3 L n f hn e (i+1) (fun _=>.und) q (by omega) (by omega)
theorem T4 (L:LT) (n:Nat) (f:Nat->E6) (hn:n <= 4611686018427387904):∀ (e i:Nat) (j:Nat->V) (q:Nat),n = i+e->e < q ->
    (A7 (Jm L) (N2 n f) q (OK n f (ofNat (Ak (fun k=>Au (f k)) i)) i j)).sem = some (Q9 n f (ofNat (Ak (fun k=>Au (f k)) n)) 0)
  | 0,i,j,q+1,h,_=>by
    have:n = i:=by omega
    subst this
    exact Ac (Afb L n f _ _ j (AA (Nat.le_refl _)))
  | e+1,i,j,q+1,h,h2=>by
    have hc:=Be (fun k=>Au (f k)) i
    cases hp:Au (f i) with
    | true =>
      rw [Ac (AeZ L n f _ i j (ofNat_lt (by omega)) (AH _) hp),Av,Aq (show i < n by omega) hn,Aq (show Ak (fun k=>Au (f k)) i < n by omega) hn,
        show Ak (fun k=>Au (f k)) i+1 = Ak (fun k=>Au (f k)) (i+1) by rw [Ak,hp]]
      exact T4 L n f hn e (i+1) (fun _=>.und) q (by omega) (by omega)
    | false =>
      rw [Ac (Afa L n f _ i j (ofNat_lt (by omega)) (AH _) hp),Av,Aq (show i < n by omega) hn,
        show Ak (fun k=>Au (f k)) i = Ak (fun k=>Au (f k)) (i+1) by rw [Ak,hp]]
      exact T4 L n f hn e (i+1) (fun _=>.und) q (by omega) (by omega)
def Ug:List V->T (V × List Blk)
  | [v,.fn g []]=>apL v fun n f=>.br (Ab n) (match Nat.beq g 83,Nat.beq g 84 with
    | true,_=>out (iV (ofNat (Ak (fun k=>Ay (f k)) n)))
    | false,true=>out (iV (ofNat (Ak (fun k=>Au (f k)) n)))
    | false,false=>.fail) .fail
  | _=>.fail
theorem p87:AB Try.prog Gl 82 Ug:=by
  refine A1 AQ AR Try.func82 (by kernel_rfl) (by kernel_rfl) fun vs v h' h=>?_
  unfold Ug at h
  split at h
  · rename_i u g
    obtain ⟨n,f,ha,h1⟩:=Cj h
    obtain ⟨hn,hq⟩:=Ah h1
    clear h h1
    have hn:n <= 4611686018427387904:=of_decide_eq_true hn
    have hA:Bw [u,.fn g []] [A2 n f,.fn g []]:=fun S w cs hv=>by
      obtain ⟨c,l,rfl,q1,q2⟩:=hv
      exact ⟨c,l,rfl,ha S w c q1,q2⟩
    split at hq
    · rename_i h1
      have h1:=Nat.eq_of_beq_eq_true h1
      subst h1
      have:=Ad hq
      simp only [Prod.mk.injEq] at this
      obtain ⟨rfl,rfl⟩:=this
      have hx:=AP MI [(0,N1 n f)]
      have hL:=AD [(0,N1 n f)]
      exact ⟨_,AI Gl tbY [(0,N1 n f)],[],hA,rfl,hx.1,hx.2,A3 (Aw hL hL) _ (Ago _ _ n f _ 0 (An (T3 _ n f hn n 0 _ (n+1) (by omega) (by omega)))),A6.refl _⟩
    · rename_i h2
      have h2:=Nat.eq_of_beq_eq_true h2
      subst h2
      have:=Ad hq
      simp only [Prod.mk.injEq] at this
      obtain ⟨rfl,rfl⟩:=this
      have hx:=AP MI [(0,N2 n f)]
      have hL:=AD [(0,N2 n f)]
      exact ⟨_,AI Gl tbY [(0,N2 n f)],[],hA,rfl,hx.1,hx.2,A3 (Aw hL hL) _ (Agp _ _ n f _ 0 (An (T4 _ n f hn n 0 _ (n+1) (by omega) (by omega)))),A6.refl _⟩
    · cases hq
  · cases h
end Go.Proofs.Ytjhnfomefcngfaa.Ed
