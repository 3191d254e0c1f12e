/-
  Layer 4: which edges lead to other threads and locations, how many; whether all edges may be. No conditions.
-/
import Derived.Test.YtjhnfomefcngfaaCyA
namespace Go.Proofs.Ytjhnfomefcngfaa.Ed
open Go.Sy
open Int (ofNat)
def Bx (e:E6):Bool:=Ak (ile 1 e.kind) (ile e.kind 3)
def Ax (e:E6):Bool:=Ak (Bx e) e.ext
def Aw (e:E6):Bool:=Ak (AG (Bx e)) (AG e.same)
theorem Ab8 (e:E6):(Ar (Ai tab (AI Gl [] []) Try.f111 [eV e] [])).sem = (sel (ile 1 (e).kind) (sel (ile 1 (e).kind) (sel (ile 1 (e).kind) (sel (ile 1 (e).kind) (some ((bV (ile (e).kind 3)),[])) (some ((bV false),[]))) (sel (ile 1 (e).kind) (some (A9,[])) (some ((bV false),[])))) (sel (ile 1 (e).kind) none (sel (ile 1 (e).kind) (some (A9,[])) (some ((bV false),[]))))) (sel (ile 1 (e).kind) none (sel (ile 1 (e).kind) none (sel (ile 1 (e).kind) (some (A9,[])) (some ((bV false),[])))))):=by kernel_rfl
theorem Anr:A7 Try.prog Gl 111 (BO λe=>bV (Bx e)):=by
 refine A7.congr (AP AL AN Try.func111 (by kernel_rfl) (by kernel_rfl) (Γ:=AI Gl [] []) (AO AA.nil _)) λvs r h=>?_
 obtain ⟨e,rfl,rfl⟩:=BU h
 refine (Ab8 e).trans ?_
 unfold Bx
 cases ile 1 e.kind <;> rfl
theorem AF (i:Nat):ile 0 (ofNat i) = true:=Ww (by simp)
noncomputable def Y9:List (Nat × (List V->T (V × List Blk))):=(111,BO λe=>bV (Bx e)) :: []
theorem VJ:AA Try.prog Gl Y9:=.cons Anr .nil
theorem AfH (e:E6):(Ar (Ai tab (AI Gl Y9 []) Try.f83 [eV e] [])).sem = (sel (Bx e) (sel (Bx e) (sel (Bx e) (some ((bV (e).ext),[])) (some ((bV false),[]))) (sel (Bx e) (some (A9,[])) (some ((bV false),[])))) (sel (Bx e) none (sel (Bx e) (some (A9,[])) (some ((bV false),[]))))):=by kernel_rfl
theorem p88:A7 Try.prog Gl 83 (BO λe=>bV (Ax e)):=by
 refine A7.congr (AP AL AN Try.func83 (by kernel_rfl) (by kernel_rfl) (Γ:=AI Gl Y9 []) (AO VJ _)) λvs r h=>?_
 obtain ⟨e,rfl,rfl⟩:=BU h
 refine (AfH e).trans ?_
 unfold Ax
 cases Bx e <;> rfl
theorem AfG (e:E6):(Ar (Ai tab (AI Gl Y9 []) Try.f84 [eV e] [])).sem = (sel (AG (Bx e)) (sel (AG (Bx e)) (sel (AG (Bx e)) (sel (AG (Bx e)) (some ((bV (AG (e).same)),[])) (some ((bV false),[]))) (sel (AG (Bx e)) (some (A9,[])) (some ((bV false),[])))) (sel (AG (Bx e)) none (sel (AG (Bx e)) (some (A9,[])) (some ((bV false),[]))))) (sel (AG (Bx e)) none (sel (AG (Bx e)) none (sel (AG (Bx e)) (some (A9,[])) (some ((bV false),[])))))):=by kernel_rfl
theorem p89:A7 Try.prog Gl 84 (BO λe=>bV (Aw e)):=by
 refine A7.congr (AP AL AN Try.func84 (by kernel_rfl) (by kernel_rfl) (Γ:=AI Gl Y9 []) (AO VJ _)) λvs r h=>?_
 obtain ⟨e,rfl,rfl⟩:=BU h
 refine (AfG e).trans ?_
 unfold Aw
 cases Bx e <;> rfl
theorem OC (e:E6):Bx e = bor (ieq e.kind 1) (bor (ieq e.kind 2) (ieq e.kind 3)):=by
 unfold Bx
 rw [Bool.eq_iff_iff]
 simp [Ak,bor,ile,ieq]
 omega
theorem AfJ (e:E6):(Ar (Ai tab (AI Gl [] []) Try.f22 [eV e] [])).sem = (sel (ieq (e).kind 1) (sel (ieq (e).kind 1) (sel (ieq (e).kind 1) (sel (ieq (e).kind 1) (some ((bV (e).ext),[])) none) none) none) (sel (ieq (e).kind 1) (sel (ieq (e).kind 1) (sel (ieq (e).kind 1) (some ((bV (e).ext),[])) none) none) (sel (ieq (e).kind 1) (sel (ieq (e).kind 1) (some ((bV (e).ext),[])) none) (sel (ieq (e).kind 1) (some ((bV (e).ext),[])) (sel (ieq (e).kind 2) (sel (ieq (e).kind 2) (sel (ieq (e).kind 2) (sel (ieq (e).kind 2) (some ((bV (e).ext),[])) none) none) none) (sel (ieq (e).kind 2) (sel (ieq (e).kind 2) (sel (ieq (e).kind 2) (some ((bV (e).ext),[])) none) none) (sel (ieq (e).kind 2) (sel (ieq (e).kind 2) (some ((bV (e).ext),[])) none) (sel (ieq (e).kind 2) (some ((bV (e).ext),[])) (sel (ieq (e).kind 3) (sel (ieq (e).kind 3) (sel (ieq (e).kind 3) (some ((bV (e).ext),[])) (some ((bV false),[]))) (sel (ieq (e).kind 3) (some (A9,[])) (some ((bV false),[])))) (sel (ieq (e).kind 3) none (sel (ieq (e).kind 3) (some (A9,[])) (some ((bV false),[]))))))))))))):=by kernel_rfl
theorem p60:A7 Try.prog Gl 22 (BO λe=>bV (Ax e)):=by
 refine A7.congr (AP AL AN Try.func22 (by kernel_rfl) (by kernel_rfl) (Γ:=AI Gl [] []) (AO AA.nil _)) λvs r h=>?_
 obtain ⟨e,rfl,rfl⟩:=BU h
 refine (AfJ e).trans ?_
 unfold Ax
 rw [OC]
 cases ieq e.kind 1 <;> cases ieq e.kind 2 <;> cases ieq e.kind 3 <;> rfl
theorem AfI (e:E6):(Ar (Ai tab (AI Gl [] []) Try.f23 [eV e] [])).sem = (sel (AG (ieq (e).kind 1)) (sel (AG (ieq (e).kind 1)) (sel (AG (ieq (e).kind 1)) (sel (AG (ieq (e).kind 1)) (sel (AG (ieq (e).kind 2)) (sel (AG (ieq (e).kind 2)) (sel (AG (ieq (e).kind 2)) (sel (AG (ieq (e).kind 2)) (sel (AG (ieq (e).kind 3)) (sel (AG (ieq (e).kind 3)) (sel (AG (ieq (e).kind 3)) (sel (AG (ieq (e).kind 3)) (some ((bV (AG (e).same)),[])) (some ((bV false),[]))) (sel (AG (ieq (e).kind 3)) (some (A9,[])) (some ((bV false),[])))) (sel (AG (ieq (e).kind 3)) none (sel (AG (ieq (e).kind 3)) (some (A9,[])) (some ((bV false),[]))))) (sel (AG (ieq (e).kind 3)) none (sel (AG (ieq (e).kind 3)) none (sel (AG (ieq (e).kind 3)) (some (A9,[])) (some ((bV false),[])))))) (some ((bV false),[]))) (sel (AG (ieq (e).kind 2)) none (some ((bV false),[])))) (sel (AG (ieq (e).kind 2)) none (sel (AG (ieq (e).kind 2)) none (some ((bV false),[]))))) (sel (AG (ieq (e).kind 2)) none (sel (AG (ieq (e).kind 2)) none (sel (AG (ieq (e).kind 2)) none (some ((bV false),[])))))) (some ((bV false),[]))) (sel (AG (ieq (e).kind 1)) none (some ((bV false),[])))) (sel (AG (ieq (e).kind 1)) none (sel (AG (ieq (e).kind 1)) none (some ((bV false),[]))))) (sel (AG (ieq (e).kind 1)) none (sel (AG (ieq (e).kind 1)) none (sel (AG (ieq (e).kind 1)) none (some ((bV false),[])))))):=by kernel_rfl
theorem p61:A7 Try.prog Gl 23 (BO λe=>bV (Aw e)):=by
 refine A7.congr (AP AL AN Try.func23 (by kernel_rfl) (by kernel_rfl) (Γ:=AI Gl [] []) (AO AA.nil _)) λvs r h=>?_
 obtain ⟨e,rfl,rfl⟩:=BU h
 refine (AfI e).trans ?_
 unfold Aw
 rw [OC]
 cases ieq e.kind 1 <;> cases ieq e.kind 2 <;> cases ieq e.kind 3 <;> rfl
noncomputable def tbY:List (Nat × (List V->T (V × List Blk))):=(64,BO λe=>iV (Bb e)) :: (83,BO λe=>bV (Ax e)) :: (84,BO λe=>bV (Aw e)) :: []
theorem Np:AA Try.prog Gl tbY:=.cons p29 <| .cons p88 <| .cons p89 .nil
def NU (n:Nat) (f:Nat->E6):Lp:=⟨(bmK 16 0 [0,2,3]),0,bmK 16 0 [2],0,n+1⟩
def Pp (n:Nat) (f:Nat->E6) (i:Nat) (j:Nat->V):St:=⟨(jsV 16 0 j [(0,.sl 6 n (λi=>eV (f i))),(2,bV false),(3,nV i)]),[]⟩
def Vj (n:Nat) (f:Nat->E6) (i:Nat):Ex × St:=(.ex 0,⟨(jsV 16 0 (λ_=>.und) [(2,bV false)]),[]⟩)
def Vi (n:Nat) (f:Nat->E6) (i:Nat):Ex × St:=(.rt,⟨(jsV 16 0 (λ_=>.und) [(2,bV false)]),[]⟩)
noncomputable def IX (L:LT):St->T (Ex × St):=λst=>AC tab ⟨Am tbY,L,Gl⟩ (Au Try.f94 0) 0 st
section
variable (L:LT) (n:Nat) (f:Nat->E6) (i:Nat)  (j:Nat->V)
include L n f i j
theorem AkE (h0:ilt (ofNat i) (ofNat n) = false):Ah (IX L) (NU n f) (Pp n f i j) = some ((.ex 0),⟨(jsV 16 0 (λ_=>.und) [(2,(bV false))]),[]⟩):=by
 exact Aa (ks:=[kn h0]) (by kernel_rfl)
theorem AkC (h0:ilt (ofNat i) (ofNat n) = true) (h10:ile 0 (ofNat i) = true) (h1:ieq (Bb (f i)) 0 = false):Ah (IX L) (NU n f) (Pp n f i j) = some (.rt,⟨(jsV 16 0 (λ_=>.und) [(2,(bV false))]),[]⟩):=by
 exact Aa (ks:=[kn h0,kA (kn h10) (kn h0),kN (kn h1)]) (by kernel_rfl)
theorem AkD (h0:ilt (ofNat i) (ofNat n) = true) (h10:ile 0 (ofNat i) = true) (h1:ieq (Bb (f i)) 0 = true):Ah (IX L) (NU n f) (Pp n f i j) = some (.nm,⟨(jsV 16 0 (λ_=>.und) [(0,(.sl 6 n (λi=>(eV (f i))))),(2,(bV false)),(3,(iV (wr .i64 (Af (ofNat i) 1))))]),[]⟩):=by
 exact Aa (ks:=[kn h0,kA (kn h10) (kn h0),kN (kn h1)]) (by kernel_rfl)
end
def Ae1 (n:Nat) (f:Nat->E6) :Nat->V:=lkV A9 []
section
variable (L:LT) (p0:PT) (n:Nat) (f:Nat->E6) (i:Nat)
include L p0 n f i
theorem AiG  (hp0:p0 (IX (onP 0 p0 (Vj n f i) L)) (Pp n f 0 (Ae1 n f )) = true):(Ar (Ai tab ⟨Am tbY,(onP 0 p0 (Vj n f i) L),Gl⟩ Try.f94 [Az n f] [])).sem = some ((bV true),[]):=by
 exact Aa (ks:=[kn hp0]) (by kernel_rfl)
theorem AiF  (hp0:p0 (IX (onP 0 p0 (Vi n f i) L)) (Pp n f 0 (Ae1 n f )) = true):(Ar (Ai tab ⟨Am tbY,(onP 0 p0 (Vi n f i) L),Gl⟩ Try.f94 [Az n f] [])).sem = some ((bV false),[]):=by
 exact Aa (ks:=[kn hp0]) (by kernel_rfl)
end
def NX (n:Nat) (f:Nat->E6):Lp:=⟨(bmK 21 0 [1,5,8,9,10]),0,bmK 21 0 [5],0,n+1⟩
def Se (n:Nat) (f:Nat->E6) (s:Int) (i:Nat) (j:Nat->V):St:=⟨(jsV 21 0 j [(1,.fn 83 []),(5,iV s),(8,.sl 6 n (λi=>eV (f i))),(9,nV n),(10,nV i)]),[]⟩
def Vk (n:Nat) (f:Nat->E6) (s:Int) (i:Nat):Ex × St:=(.ex 0,⟨(jsV 21 0 (λ_=>.und) [(5,iV s)]),[]⟩)
noncomputable def KU (L:LT):St->T (Ex × St):=λst=>AC tab ⟨Am tbY,L,Gl⟩ (Au Try.f82 0) 0 st
section
variable (L:LT) (n:Nat) (f:Nat->E6) (s:Int) (i:Nat)  (j:Nat->V)
include L n f s i j
theorem Ahp (h0:ilt (ofNat i) (ofNat n) = false):Ah (KU L) (NX n f) (Se n f s i j) = some ((.ex 0),⟨(jsV 21 0 (λ_=>.und) [(5,(iV s))]),[]⟩):=by
 exact Aa (ks:=[kn h0]) (by kernel_rfl)
theorem Ahn (h0:ilt (ofNat i) (ofNat n) = true) (h10:ile 0 (ofNat i) = true) (h1:Ax (f i) = true):Ah (KU L) (NX n f) (Se n f s i j) = some (.nm,⟨(jsV 21 0 (λ_=>.und) [(1,(.fn 83 [])),(5,(iV (wr .i64 (Af s 1)))),(8,(.sl 6 n (λi=>(eV (f i))))),(9,(nV n)),(10,(iV (wr .i64 (Af (ofNat i) 1))))]),[]⟩):=by
 exact Aa (ks:=[kn h0,kA (kn h10) (kn h0),kn h1]) (by kernel_rfl)
theorem Aho (h0:ilt (ofNat i) (ofNat n) = true) (h10:ile 0 (ofNat i) = true) (h1:Ax (f i) = false):Ah (KU L) (NX n f) (Se n f s i j) = some (.nm,⟨(jsV 21 0 (λ_=>.und) [(1,(.fn 83 [])),(5,(iV s)),(8,(.sl 6 n (λi=>(eV (f i))))),(9,(nV n)),(10,(iV (wr .i64 (Af (ofNat i) 1))))]),[]⟩):=by
 exact Aa (ks:=[kn h0,kA (kn h10) (kn h0),kn h1]) (by kernel_rfl)
end
def Alt (n:Nat) (f:Nat->E6) :Nat->V:=lkV A9 [(0,(.sl 6 n (λi=>eV (f i)))),(4,(iV 0))]
theorem AiH (L:LT) (p0:PT) (n:Nat) (f:Nat->E6) (s:Int) (i:Nat)  (hp0:p0 (KU (onP 0 p0 (Vk n f s i) L)) (Se n f 0 0 (Alt n f )) = true):(Ar (Ai tab ⟨Am tbY,(onP 0 p0 (Vk n f s i) L),Gl⟩ Try.f82 [Az n f,.fn 83 []] [])).sem = some ((iV s),[]):=by
 exact Aa (ks:=[kn hp0]) (by kernel_rfl)
def NY (n:Nat) (f:Nat->E6):Lp:=⟨(bmK 21 0 [1,5,8,9,10]),0,bmK 21 0 [5],0,n+1⟩
def Sf (n:Nat) (f:Nat->E6) (s:Int) (i:Nat) (j:Nat->V):St:=⟨(jsV 21 0 j [(1,.fn 84 []),(5,iV s),(8,.sl 6 n (λi=>eV (f i))),(9,nV n),(10,nV i)]),[]⟩
def Vl (n:Nat) (f:Nat->E6) (s:Int) (i:Nat):Ex × St:=(.ex 0,⟨(jsV 21 0 (λ_=>.und) [(5,iV s)]),[]⟩)
noncomputable def KV (L:LT):St->T (Ex × St):=λst=>AC tab ⟨Am tbY,L,Gl⟩ (Au Try.f82 0) 0 st
section
variable (L:LT) (n:Nat) (f:Nat->E6) (s:Int) (i:Nat)  (j:Nat->V)
include L n f s i j
theorem Ahs (h0:ilt (ofNat i) (ofNat n) = false):Ah (KV L) (NY n f) (Sf n f s i j) = some ((.ex 0),⟨(jsV 21 0 (λ_=>.und) [(5,(iV s))]),[]⟩):=by
 exact Aa (ks:=[kn h0]) (by kernel_rfl)
theorem Ahq (h0:ilt (ofNat i) (ofNat n) = true) (h10:ile 0 (ofNat i) = true) (h1:Aw (f i) = true):Ah (KV L) (NY n f) (Sf n f s i j) = some (.nm,⟨(jsV 21 0 (λ_=>.und) [(1,(.fn 84 [])),(5,(iV (wr .i64 (Af s 1)))),(8,(.sl 6 n (λi=>(eV (f i))))),(9,(nV n)),(10,(iV (wr .i64 (Af (ofNat i) 1))))]),[]⟩):=by
 exact Aa (ks:=[kn h0,kA (kn h10) (kn h0),kn h1]) (by kernel_rfl)
theorem Ahr (h0:ilt (ofNat i) (ofNat n) = true) (h10:ile 0 (ofNat i) = true) (h1:Aw (f i) = false):Ah (KV L) (NY n f) (Sf n f s i j) = some (.nm,⟨(jsV 21 0 (λ_=>.und) [(1,(.fn 84 [])),(5,(iV s)),(8,(.sl 6 n (λi=>(eV (f i))))),(9,(nV n)),(10,(iV (wr .i64 (Af (ofNat i) 1))))]),[]⟩):=by
 exact Aa (ks:=[kn h0,kA (kn h10) (kn h0),kn h1]) (by kernel_rfl)
end
def Alu (n:Nat) (f:Nat->E6) :Nat->V:=lkV A9 [(0,(.sl 6 n (λi=>eV (f i)))),(4,(iV 0))]
theorem AiI (L:LT) (p0:PT) (n:Nat) (f:Nat->E6) (s:Int) (i:Nat)  (hp0:p0 (KV (onP 0 p0 (Vl n f s i) L)) (Sf n f 0 0 (Alu n f )) = true):(Ar (Ai tab ⟨Am tbY,(onP 0 p0 (Vl n f s i) L),Gl⟩ Try.f82 [Az n f,.fn 84 []] [])).sem = some ((iV s),[]):=by
 exact Aa (ks:=[kn hp0]) (by kernel_rfl)
def Alo:List V->T (V × List Blk):=GS λn f=>.br (Ag n) (out (bV (CJ n f))) .fail
theorem AdW (L:LT) (n:Nat) (f:Nat->E6) (hn:n <= 4611686018427387904):∀ (e i:Nat) (j:Nat->V) (q:Nat),n = i+e->e < q->(∀ k,k < i->ieq (Bb (f k)) 0 = true) ->
  (A4 (IX L) (NU n f) q (Pp n f i j)).sem = some (match CJ n f with | true=>Vj n f 0 | false=>Vi n f 0)
 | 0,i,j,q+1,h,_,hb=>by
  have:n = i:=by omega
  subst this
  rw [show CJ n f = true from A3.2 hb]
  exact Ab (AkE L n f _ j (A6 (Nat.le_refl _)))
 | e+1,i,j,q+1,h,h2,hb=>by
  cases hp:ieq (Bb (f i)) 0 with
  | true =>
   rw [Ab (AkD L n f i j (ofNat_lt (by omega)) (AF _) hp),Aq,Ao (show i < n by omega) hn]
   exact AdW L n f hn e (i+1) (λ_=>.und) q (by omega) (by omega) λk hk=>by
    by_cases hki:k = i
    ·subst hki; exact hp
    ·exact hb k (by omega)
  | false =>
   have hm:CJ n f = false:=by
    cases hm:CJ n f with
    | false=>rfl
    | true =>
     have:=A3.1 hm i (by omega)
     rw [hp] at this
     cases this
   rw [hm]
   exact Ab (AkC L n f i j (ofNat_lt (by omega)) (AF _) hp)
theorem p98:A7 Try.prog Gl 94 Alo:=by
 refine Av AL AN Try.func94 (by kernel_rfl) (by kernel_rfl) λvs v h' h=>?_
 obtain ⟨n,f,ha,hq⟩:=CZ h
 obtain ⟨hn,hq⟩:=Ad hq
 have:=Ac hq
 simp only [Prod.mk.injEq] at this
 obtain ⟨rfl,rfl⟩:=this
 have hn:n <= 4611686018427387904:=of_decide_eq_true hn
 have hx:=AO Np [(0,NU n f)]
 have hL:=AE [(0,NU n f)]
 refine ⟨_,AI Gl tbY [(0,NU n f)],[],ha,rfl,hx.1,hx.2,?_,A8.refl _⟩
 have hr:=λL i=>AdW L n f hn n 0 i (n+1) (by omega) (by omega) (λk hk=>by omega)
 cases hm:CJ n f with
 | true =>
  rw [hm] at hr
  exact A2 (As hL hL) _ (AiG _ _ n f 0 (Aj (hr _ _)))
 | false =>
  rw [hm] at hr
  exact A2 (As hL hL) _ (AiF _ _ n f 0 (Aj (hr _ _)))
def Al (p:Nat->Bool):Nat->Nat
 | 0=>0
 | i+1=>match p i with
  | true=>Al p i+1
  | false=>Al p i
theorem Be (p:Nat->Bool):∀ i,Al p i <= i
 | 0=>Nat.le_refl _
 | i+1=>by
  have:=Be p i
  unfold Al
  split <;> omega
theorem U1 (L:LT) (n:Nat) (f:Nat->E6) (hn:n <= 4611686018427387904):∀ (e i:Nat) (j:Nat->V) (q:Nat),n = i+e->e < q ->
  (A4 (KU L) (NX n f) q (Se n f (ofNat (Al (λk=>Ax (f k)) i)) i j)).sem = some (Vk n f (ofNat (Al (λk=>Ax (f k)) n)) 0)
 | 0,i,j,q+1,h,_=>by
  have:n = i:=by omega
  subst this
  exact Ab (Ahp L n f _ _ j (A6 (Nat.le_refl _)))
 | e+1,i,j,q+1,h,h2=>by
  have hc:=Be (λk=>Ax (f k)) i
  cases hp:Ax (f i) with
  | true =>
   rw [Ab (Ahn L n f _ i j (ofNat_lt (by omega)) (AF _) hp),Aq,Ao (show i < n by omega) hn,Ao (show Al (λk=>Ax (f k)) i < n by omega) hn,
    show Al (λk=>Ax (f k)) i+1 = Al (λk=>Ax (f k)) (i+1) by rw [Al,hp]]
   exact U1 L n f hn e (i+1) (λ_=>.und) q (by omega) (by omega)
  | false =>
   rw [Ab (Aho L n f _ i j (ofNat_lt (by omega)) (AF _) hp),Aq,Ao (show i < n by omega) hn,
    show Al (λk=>Ax (f k)) i = Al (λk=>Ax (f k)) (i+1) by rw [Al,hp]]
   exact U1 L n f hn e (i+1) (λ_=>.und) q (by omega) (by omega)
theorem U2 (L:LT) (n:Nat) (f:Nat->E6) (hn:n <= 4611686018427387904):∀ (e i:Nat) (j:Nat->V) (q:Nat),n = i+e->e < q ->
  (A4 (KV L) (NY n f) q (Sf n f (ofNat (Al (λk=>Aw (f k)) i)) i j)).sem = some (Vl n f (ofNat (Al (λk=>Aw (f k)) n)) 0)
 | 0,i,j,q+1,h,_=>by
  have:n = i:=by omega
  subst this
  exact Ab (Ahs L n f _ _ j (A6 (Nat.le_refl _)))
 | e+1,i,j,q+1,h,h2=>by
  have hc:=Be (λk=>Aw (f k)) i
  cases hp:Aw (f i) with
  | true =>
   rw [Ab (Ahq L n f _ i j (ofNat_lt (by omega)) (AF _) hp),Aq,Ao (show i < n by omega) hn,Ao (show Al (λk=>Aw (f k)) i < n by omega) hn,
    show Al (λk=>Aw (f k)) i+1 = Al (λk=>Aw (f k)) (i+1) by rw [Al,hp]]
   exact U2 L n f hn e (i+1) (λ_=>.und) q (by omega) (by omega)
  | false =>
   rw [Ab (Ahr L n f _ i j (ofNat_lt (by omega)) (AF _) hp),Aq,Ao (show i < n by omega) hn,
    show Al (λk=>Aw (f k)) i = Al (λk=>Aw (f k)) (i+1) by rw [Al,hp]]
   exact U2 L n f hn e (i+1) (λ_=>.und) q (by omega) (by omega)
def V1:List V->T (V × List Blk)
 | [v,.fn g []]=>apL v λn f=>.br (Ag n) (match Nat.beq g 83,Nat.beq g 84 with
  | true,_=>out (iV (ofNat (Al (λk=>Ax (f k)) n)))
  | false,true=>out (iV (ofNat (Al (λk=>Aw (f k)) n)))
  | false,false=>.fail) .fail
 | _=>.fail
theorem p87:A7 Try.prog Gl 82 V1:=by
 refine Av AL AN Try.func82 (by kernel_rfl) (by kernel_rfl) λvs v h' h=>?_
 unfold V1 at h
 split at h
 ·rename_i u g
  obtain ⟨n,f,ha,h1⟩:=Ci h
  obtain ⟨hn,hq⟩:=Ad h1
  clear h h1
  have hn:n <= 4611686018427387904:=of_decide_eq_true hn
  have hA:Bp [u,.fn g []] [Az n f,.fn g []]:=λS w cs hv=>by
   obtain ⟨c,l,rfl,q1,q2⟩:=hv
   exact ⟨c,l,rfl,ha S w c q1,q2⟩
  split at hq
  ·rename_i h1
   have h1:=Nat.eq_of_beq_eq_true h1
   subst h1
   have:=Ac hq
   simp only [Prod.mk.injEq] at this
   obtain ⟨rfl,rfl⟩:=this
   have hx:=AO Np [(0,NX n f)]
   have hL:=AE [(0,NX n f)]
   exact ⟨_,AI Gl tbY [(0,NX n f)],[],hA,rfl,hx.1,hx.2,A2 (As hL hL) _ (AiH _ _ n f _ 0 (Aj (U1 _ n f hn n 0 _ (n+1) (by omega) (by omega)))),A8.refl _⟩
  ·rename_i h2
   have h2:=Nat.eq_of_beq_eq_true h2
   subst h2
   have:=Ac hq
   simp only [Prod.mk.injEq] at this
   obtain ⟨rfl,rfl⟩:=this
   have hx:=AO Np [(0,NY n f)]
   have hL:=AE [(0,NY n f)]
   exact ⟨_,AI Gl tbY [(0,NY n f)],[],hA,rfl,hx.1,hx.2,A2 (As hL hL) _ (AiI _ _ n f _ 0 (Aj (U2 _ n f hn n 0 _ (n+1) (by omega) (by omega)))),A8.refl _⟩
  ·cases hq
 ·cases h
end Go.Proofs.Ytjhnfomefcngfaa.Ed
