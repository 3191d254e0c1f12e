/-
  Layer 4: which edges lead to other threads and locations, how many; whether all edges may be. No conditions.
-/
import Derived.Test.YthlojajaenfidaaGreatDoorCyA
namespace Go.Proofs.YthlojajaenfidaaGreatDoor.Ed
open Go.Sy
open Int (ofNat)
def Bz (e:E6):Bool:=Al (ile 1 e.kind) (ile e.kind 3)
def Ax (e:E6):Bool:=Al (Bz e) e.ext
def Aw (e:E6):Bool:=Al (AG (Bz e)) (AG e.same)
theorem Ace (e:E6):(Au (Ah tab (AN Gl [] []) Tryz.f55 [eV e] [])).sem = (sel (ile 1 (e).kind) (sel (ile 1 (e).kind) (sel (ile 1 (e).kind) (sel (ile 1 (e).kind) (some ((bV (ile (e).kind 3)),[])) (some ((bV false),[]))) (sel (ile 1 (e).kind) (some (A7,[])) (some ((bV false),[])))) (sel (ile 1 (e).kind) none (sel (ile 1 (e).kind) (some (A7,[])) (some ((bV false),[]))))) (sel (ile 1 (e).kind) none (sel (ile 1 (e).kind) none (sel (ile 1 (e).kind) (some (A7,[])) (some ((bV false),[])))))):=by kernel_rfl
theorem AmX:A6 Tryz.prog Gl 55 (BE λe=>bV (Bz e)):=by
 refine A6.congr (AL AI mixed Tryz.func55 (by kernel_rfl) (by kernel_rfl) (Γ:=AN Gl [] []) (AK A8.nil _)) λvs r h=>?_
 obtain ⟨e,rfl,rfl⟩:=BJ h
 refine (Ace e).trans ?_
 unfold Bz
 cases ile 1 e.kind <;> rfl
theorem AE (i:Nat):ile 0 (ofNat i) = true:=WI (by simp)
noncomputable def Zc:List (Nat × (List V->T (V × List Blk))):=(55,BE λe=>bV (Bz e)) :: []
theorem Wc:A8 Tryz.prog Gl Zc:=.cons AmX .nil
theorem AfY (e:E6):(Au (Ah tab (AN Gl Zc []) Tryz.f30 [eV e] [])).sem = (sel (Bz e) (sel (Bz e) (sel (Bz e) (some ((bV (e).ext),[])) (some ((bV false),[]))) (sel (Bz e) (some (A7,[])) (some ((bV false),[])))) (sel (Bz e) none (sel (Bz e) (some (A7,[])) (some ((bV false),[]))))):=by kernel_rfl
theorem p88:A6 Tryz.prog Gl 30 (BE λe=>bV (Ax e)):=by
 refine A6.congr (AL AI mixed Tryz.func30 (by kernel_rfl) (by kernel_rfl) (Γ:=AN Gl Zc []) (AK Wc _)) λvs r h=>?_
 obtain ⟨e,rfl,rfl⟩:=BJ h
 refine (AfY e).trans ?_
 unfold Ax
 cases Bz e <;> rfl
theorem AfX (e:E6):(Au (Ah tab (AN Gl Zc []) Tryz.f31 [eV e] [])).sem = (sel (AG (Bz e)) (sel (AG (Bz e)) (sel (AG (Bz e)) (sel (AG (Bz e)) (some ((bV (AG (e).same)),[])) (some ((bV false),[]))) (sel (AG (Bz e)) (some (A7,[])) (some ((bV false),[])))) (sel (AG (Bz e)) none (sel (AG (Bz e)) (some (A7,[])) (some ((bV false),[]))))) (sel (AG (Bz e)) none (sel (AG (Bz e)) none (sel (AG (Bz e)) (some (A7,[])) (some ((bV false),[])))))):=by kernel_rfl
theorem p89:A6 Tryz.prog Gl 31 (BE λe=>bV (Aw e)):=by
 refine A6.congr (AL AI mixed Tryz.func31 (by kernel_rfl) (by kernel_rfl) (Γ:=AN Gl Zc []) (AK Wc _)) λvs r h=>?_
 obtain ⟨e,rfl,rfl⟩:=BJ h
 refine (AfX e).trans ?_
 unfold Aw
 cases Bz e <;> rfl
theorem O8 (e:E6):Bz e = bor (ieq e.kind 1) (bor (ieq e.kind 2) (ieq e.kind 3)):=by
 unfold Bz
 rw [Bool.eq_iff_iff]
 simp [Al,bor,ile,ieq]
 omega
theorem Aga (e:E6):(Au (Ah tab (AN Gl [] []) Tryz.f67 [eV e] [])).sem = (sel (ieq (e).kind 1) (sel (ieq (e).kind 1) (sel (ieq (e).kind 1) (sel (ieq (e).kind 1) (some ((bV (e).ext),[])) none) none) none) (sel (ieq (e).kind 1) (sel (ieq (e).kind 1) (sel (ieq (e).kind 1) (some ((bV (e).ext),[])) none) none) (sel (ieq (e).kind 1) (sel (ieq (e).kind 1) (some ((bV (e).ext),[])) none) (sel (ieq (e).kind 1) (some ((bV (e).ext),[])) (sel (ieq (e).kind 2) (sel (ieq (e).kind 2) (sel (ieq (e).kind 2) (sel (ieq (e).kind 2) (some ((bV (e).ext),[])) none) none) none) (sel (ieq (e).kind 2) (sel (ieq (e).kind 2) (sel (ieq (e).kind 2) (some ((bV (e).ext),[])) none) none) (sel (ieq (e).kind 2) (sel (ieq (e).kind 2) (some ((bV (e).ext),[])) none) (sel (ieq (e).kind 2) (some ((bV (e).ext),[])) (sel (ieq (e).kind 3) (sel (ieq (e).kind 3) (sel (ieq (e).kind 3) (some ((bV (e).ext),[])) (some ((bV false),[]))) (sel (ieq (e).kind 3) (some (A7,[])) (some ((bV false),[])))) (sel (ieq (e).kind 3) none (sel (ieq (e).kind 3) (some (A7,[])) (some ((bV false),[]))))))))))))):=by kernel_rfl
theorem p60:A6 Tryz.prog Gl 67 (BE λe=>bV (Ax e)):=by
 refine A6.congr (AL AI mixed Tryz.func67 (by kernel_rfl) (by kernel_rfl) (Γ:=AN Gl [] []) (AK A8.nil _)) λvs r h=>?_
 obtain ⟨e,rfl,rfl⟩:=BJ h
 refine (Aga e).trans ?_
 unfold Ax
 rw [O8]
 cases ieq e.kind 1 <;> cases ieq e.kind 2 <;> cases ieq e.kind 3 <;> rfl
theorem AfZ (e:E6):(Au (Ah tab (AN Gl [] []) Tryz.f68 [eV e] [])).sem = (sel (AG (ieq (e).kind 1)) (sel (AG (ieq (e).kind 1)) (sel (AG (ieq (e).kind 1)) (sel (AG (ieq (e).kind 1)) (sel (AG (ieq (e).kind 2)) (sel (AG (ieq (e).kind 2)) (sel (AG (ieq (e).kind 2)) (sel (AG (ieq (e).kind 2)) (sel (AG (ieq (e).kind 3)) (sel (AG (ieq (e).kind 3)) (sel (AG (ieq (e).kind 3)) (sel (AG (ieq (e).kind 3)) (some ((bV (AG (e).same)),[])) (some ((bV false),[]))) (sel (AG (ieq (e).kind 3)) (some (A7,[])) (some ((bV false),[])))) (sel (AG (ieq (e).kind 3)) none (sel (AG (ieq (e).kind 3)) (some (A7,[])) (some ((bV false),[]))))) (sel (AG (ieq (e).kind 3)) none (sel (AG (ieq (e).kind 3)) none (sel (AG (ieq (e).kind 3)) (some (A7,[])) (some ((bV false),[])))))) (some ((bV false),[]))) (sel (AG (ieq (e).kind 2)) none (some ((bV false),[])))) (sel (AG (ieq (e).kind 2)) none (sel (AG (ieq (e).kind 2)) none (some ((bV false),[]))))) (sel (AG (ieq (e).kind 2)) none (sel (AG (ieq (e).kind 2)) none (sel (AG (ieq (e).kind 2)) none (some ((bV false),[])))))) (some ((bV false),[]))) (sel (AG (ieq (e).kind 1)) none (some ((bV false),[])))) (sel (AG (ieq (e).kind 1)) none (sel (AG (ieq (e).kind 1)) none (some ((bV false),[]))))) (sel (AG (ieq (e).kind 1)) none (sel (AG (ieq (e).kind 1)) none (sel (AG (ieq (e).kind 1)) none (some ((bV false),[])))))):=by kernel_rfl
theorem p61:A6 Tryz.prog Gl 68 (BE λe=>bV (Aw e)):=by
 refine A6.congr (AL AI mixed Tryz.func68 (by kernel_rfl) (by kernel_rfl) (Γ:=AN Gl [] []) (AK A8.nil _)) λvs r h=>?_
 obtain ⟨e,rfl,rfl⟩:=BJ h
 refine (AfZ e).trans ?_
 unfold Aw
 rw [O8]
 cases ieq e.kind 1 <;> cases ieq e.kind 2 <;> cases ieq e.kind 3 <;> rfl
noncomputable def tbY:List (Nat × (List V->T (V × List Blk))):=(65,BE λe=>iV (AQ e)) :: (30,BE λe=>bV (Ax e)) :: (31,BE λe=>bV (Aw e)) :: []
theorem Nh:A8 Tryz.prog Gl tbY:=.cons p29 <| .cons p88 <| .cons p89 .nil
def NS (n:Nat) (f:Nat->E6):Lp:=⟨(bmK 16 0 [0,2,3]),0,bmK 16 0 [2],0,n+1⟩
def Po (n:Nat) (f:Nat->E6) (i:Nat) (j:Nat->V):St:=⟨(jsV 16 0 j [(0,.sl 6 n (λi=>eV (f i))),(2,bV false),(3,nV i)]),[]⟩
def V0 (n:Nat) (f:Nat->E6) (i:Nat):Ex × St:=(.ex 0,⟨(jsV 16 0 (λ_=>.und) [(2,bV false)]),[]⟩)
def Vz (n:Nat) (f:Nat->E6) (i:Nat):Ex × St:=(.rt,⟨(jsV 16 0 (λ_=>.und) [(2,bV false)]),[]⟩)
noncomputable def IV (L:LT):St->T (Ex × St):=λst=>AD tab ⟨Ak tbY,L,Gl⟩ (As Tryz.f73 0) 0 st
section
variable (L:LT) (n:Nat) (f:Nat->E6) (i:Nat)  (j:Nat->V)
include L n f i j
theorem Ak2 (h0:ilt (ofNat i) (ofNat n) = false):Ag (IV L) (NS n f) (Po n f i j) = some ((.ex 0),⟨(jsV 16 0 (λ_=>.und) [(2,(bV false))]),[]⟩):=by
 exact Aa (ks:=[kn h0]) (by kernel_rfl)
theorem Ak0 (h0:ilt (ofNat i) (ofNat n) = true) (h10:ile 0 (ofNat i) = true) (h1:ieq (AQ (f i)) 0 = false):Ag (IV L) (NS n f) (Po n f i j) = some (.rt,⟨(jsV 16 0 (λ_=>.und) [(2,(bV false))]),[]⟩):=by
 exact Aa (ks:=[kn h0,kA (kn h10) (kn h0),kN (kn h1)]) (by kernel_rfl)
theorem Ak1 (h0:ilt (ofNat i) (ofNat n) = true) (h10:ile 0 (ofNat i) = true) (h1:ieq (AQ (f i)) 0 = true):Ag (IV L) (NS n f) (Po n f i j) = some (.nm,⟨(jsV 16 0 (λ_=>.und) [(0,(.sl 6 n (λi=>(eV (f i))))),(2,(bV false)),(3,(iV (wr .i64 (Af (ofNat i) 1))))]),[]⟩):=by
 exact Aa (ks:=[kn h0,kA (kn h10) (kn h0),kN (kn h1)]) (by kernel_rfl)
end
def AeK (n:Nat) (f:Nat->E6) :Nat->V:=lkV A7 []
section
variable (L:LT) (p0:PT) (n:Nat) (f:Nat->E6) (i:Nat)
include L p0 n f i
theorem AiS  (hp0:p0 (IV (onP 0 p0 (V0 n f i) L)) (Po n f 0 (AeK n f )) = true):(Au (Ah tab ⟨Ak tbY,(onP 0 p0 (V0 n f i) L),Gl⟩ Tryz.f73 [A5 n f] [])).sem = some ((bV true),[]):=by
 exact Aa (ks:=[kn hp0]) (by kernel_rfl)
theorem AiR  (hp0:p0 (IV (onP 0 p0 (Vz n f i) L)) (Po n f 0 (AeK n f )) = true):(Au (Ah tab ⟨Ak tbY,(onP 0 p0 (Vz n f i) L),Gl⟩ Tryz.f73 [A5 n f] [])).sem = some ((bV false),[]):=by
 exact Aa (ks:=[kn hp0]) (by kernel_rfl)
end
def NV (n:Nat) (f:Nat->E6):Lp:=⟨(bmK 21 0 [1,5,8,9,10]),0,bmK 21 0 [5],0,n+1⟩
def Sf (n:Nat) (f:Nat->E6) (s:Int) (i:Nat) (j:Nat->V):St:=⟨(jsV 21 0 j [(1,.fn 30 []),(5,iV s),(8,.sl 6 n (λi=>eV (f i))),(9,nV n),(10,nV i)]),[]⟩
def V1 (n:Nat) (f:Nat->E6) (s:Int) (i:Nat):Ex × St:=(.ex 0,⟨(jsV 21 0 (λ_=>.und) [(5,iV s)]),[]⟩)
noncomputable def KZ (L:LT):St->T (Ex × St):=λst=>AD tab ⟨Ak tbY,L,Gl⟩ (As Tryz.f29 0) 0 st
section
variable (L:LT) (n:Nat) (f:Nat->E6) (s:Int) (i:Nat)  (j:Nat->V)
include L n f s i j
theorem Ah4 (h0:ilt (ofNat i) (ofNat n) = false):Ag (KZ L) (NV n f) (Sf n f s i j) = some ((.ex 0),⟨(jsV 21 0 (λ_=>.und) [(5,(iV s))]),[]⟩):=by
 exact Aa (ks:=[kn h0]) (by kernel_rfl)
theorem Ah2 (h0:ilt (ofNat i) (ofNat n) = true) (h10:ile 0 (ofNat i) = true) (h1:Ax (f i) = true):Ag (KZ L) (NV n f) (Sf n f s i j) = some (.nm,⟨(jsV 21 0 (λ_=>.und) [(1,(.fn 30 [])),(5,(iV (wr .i64 (Af s 1)))),(8,(.sl 6 n (λi=>(eV (f i))))),(9,(nV n)),(10,(iV (wr .i64 (Af (ofNat i) 1))))]),[]⟩):=by
 exact Aa (ks:=[kn h0,kA (kn h10) (kn h0),kn h1]) (by kernel_rfl)
theorem Ah3 (h0:ilt (ofNat i) (ofNat n) = true) (h10:ile 0 (ofNat i) = true) (h1:Ax (f i) = false):Ag (KZ L) (NV n f) (Sf n f s i j) = some (.nm,⟨(jsV 21 0 (λ_=>.und) [(1,(.fn 30 [])),(5,(iV s)),(8,(.sl 6 n (λi=>(eV (f i))))),(9,(nV n)),(10,(iV (wr .i64 (Af (ofNat i) 1))))]),[]⟩):=by
 exact Aa (ks:=[kn h0,kA (kn h10) (kn h0),kn h1]) (by kernel_rfl)
end
def Alm (n:Nat) (f:Nat->E6) :Nat->V:=lkV A7 [(0,(.sl 6 n (λi=>eV (f i)))),(4,(iV 0))]
theorem AiT (L:LT) (p0:PT) (n:Nat) (f:Nat->E6) (s:Int) (i:Nat)  (hp0:p0 (KZ (onP 0 p0 (V1 n f s i) L)) (Sf n f 0 0 (Alm n f )) = true):(Au (Ah tab ⟨Ak tbY,(onP 0 p0 (V1 n f s i) L),Gl⟩ Tryz.f29 [A5 n f,.fn 30 []] [])).sem = some ((iV s),[]):=by
 exact Aa (ks:=[kn hp0]) (by kernel_rfl)
def NW (n:Nat) (f:Nat->E6):Lp:=⟨(bmK 21 0 [1,5,8,9,10]),0,bmK 21 0 [5],0,n+1⟩
def Sg (n:Nat) (f:Nat->E6) (s:Int) (i:Nat) (j:Nat->V):St:=⟨(jsV 21 0 j [(1,.fn 31 []),(5,iV s),(8,.sl 6 n (λi=>eV (f i))),(9,nV n),(10,nV i)]),[]⟩
def V2 (n:Nat) (f:Nat->E6) (s:Int) (i:Nat):Ex × St:=(.ex 0,⟨(jsV 21 0 (λ_=>.und) [(5,iV s)]),[]⟩)
noncomputable def La (L:LT):St->T (Ex × St):=λst=>AD tab ⟨Ak tbY,L,Gl⟩ (As Tryz.f29 0) 0 st
section
variable (L:LT) (n:Nat) (f:Nat->E6) (s:Int) (i:Nat)  (j:Nat->V)
include L n f s i j
theorem Ah7 (h0:ilt (ofNat i) (ofNat n) = false):Ag (La L) (NW n f) (Sg n f s i j) = some ((.ex 0),⟨(jsV 21 0 (λ_=>.und) [(5,(iV s))]),[]⟩):=by
 exact Aa (ks:=[kn h0]) (by kernel_rfl)
theorem Ah5 (h0:ilt (ofNat i) (ofNat n) = true) (h10:ile 0 (ofNat i) = true) (h1:Aw (f i) = true):Ag (La L) (NW n f) (Sg n f s i j) = some (.nm,⟨(jsV 21 0 (λ_=>.und) [(1,(.fn 31 [])),(5,(iV (wr .i64 (Af s 1)))),(8,(.sl 6 n (λi=>(eV (f i))))),(9,(nV n)),(10,(iV (wr .i64 (Af (ofNat i) 1))))]),[]⟩):=by
 exact Aa (ks:=[kn h0,kA (kn h10) (kn h0),kn h1]) (by kernel_rfl)
theorem Ah6 (h0:ilt (ofNat i) (ofNat n) = true) (h10:ile 0 (ofNat i) = true) (h1:Aw (f i) = false):Ag (La L) (NW n f) (Sg n f s i j) = some (.nm,⟨(jsV 21 0 (λ_=>.und) [(1,(.fn 31 [])),(5,(iV s)),(8,(.sl 6 n (λi=>(eV (f i))))),(9,(nV n)),(10,(iV (wr .i64 (Af (ofNat i) 1))))]),[]⟩):=by
 exact Aa (ks:=[kn h0,kA (kn h10) (kn h0),kn h1]) (by kernel_rfl)
end
def Aln (n:Nat) (f:Nat->E6) :Nat->V:=lkV A7 [(0,(.sl 6 n (λi=>eV (f i)))),(4,(iV 0))]
theorem AiU (L:LT) (p0:PT) (n:Nat) (f:Nat->E6) (s:Int) (i:Nat)  (hp0:p0 (La (onP 0 p0 (V2 n f s i) L)) (Sg n f 0 0 (Aln n f )) = true):(Au (Ah tab ⟨Ak tbY,(onP 0 p0 (V2 n f s i) L),Gl⟩ Tryz.f29 [A5 n f,.fn 31 []] [])).sem = some ((iV s),[]):=by
 exact Aa (ks:=[kn hp0]) (by kernel_rfl)
def Ale:List V->T (V × List Blk):=Gt λn f=>.br (Ao n) (out (bV (BR n f))) .fail
theorem Aeo (L:LT) (n:Nat) (f:Nat->E6) (hn:n <= 4611686018427387904):∀ (e i:Nat) (j:Nat->V) (q:Nat),n = i+e->e < q->(∀ k,k < i->ieq (AQ (f k)) 0 = true) ->
  (AA (IV L) (NS n f) q (Po n f i j)).sem = some (match BR n f with | true=>V0 n f 0 | false=>Vz n f 0)
 | 0,i,j,q+1,h,_,hb=>by
  have:n = i:=by omega
  subst this
  rw [show BR n f = true from A4.2 hb]
  exact Ab (Ak2 L n f _ j (A9 (Nat.le_refl _)))
 | e+1,i,j,q+1,h,h2,hb=>by
  cases hp:ieq (AQ (f i)) 0 with
  | true =>
   rw [Ab (Ak1 L n f i j (ofNat_lt (by omega)) (AE _) hp),Aq,An (show i < n by omega) hn]
   exact Aeo L n f hn e (i+1) (λ_=>.und) q (by omega) (by omega) λk hk=>by
    by_cases hki:k = i
    ·subst hki; exact hp
    ·exact hb k (by omega)
  | false =>
   have hm:BR n f = false:=by
    cases hm:BR n f with
    | false=>rfl
    | true =>
     have:=A4.1 hm i (by omega)
     rw [hp] at this
     cases this
   rw [hm]
   exact Ab (Ak0 L n f i j (ofNat_lt (by omega)) (AE _) hp)
theorem p98:A6 Tryz.prog Gl 73 Ale:=by
 refine Av AI mixed Tryz.func73 (by kernel_rfl) (by kernel_rfl) λvs v h' h=>?_
 obtain ⟨n,f,ha,hq⟩:=C2 h
 obtain ⟨hn,hq⟩:=Ad hq
 have:=Ac hq
 simp only [Prod.mk.injEq] at this
 obtain ⟨rfl,rfl⟩:=this
 have hn:n <= 4611686018427387904:=of_decide_eq_true hn
 have hx:=AK Nh [(0,NS n f)]
 have hL:=AF [(0,NS n f)]
 refine ⟨_,AN Gl tbY [(0,NS n f)],[],ha,rfl,hx.1,hx.2,?_,A0.refl _⟩
 have hr:=λL i=>Aeo L n f hn n 0 i (n+1) (by omega) (by omega) (λk hk=>by omega)
 cases hm:BR n f with
 | true =>
  rw [hm] at hr
  exact A1 (Ar hL hL) _ (AiS _ _ n f 0 (Ai (hr _ _)))
 | false =>
  rw [hm] at hr
  exact A1 (Ar hL hL) _ (AiR _ _ n f 0 (Ai (hr _ _)))
def Aj (p:Nat->Bool):Nat->Nat
 | 0=>0
 | i+1=>match p i with
  | true=>Aj p i+1
  | false=>Aj p i
theorem AV (p:Nat->Bool):∀ i,Aj p i <= i
 | 0=>Nat.le_refl _
 | i+1=>by
  have:=AV p i
  unfold Aj
  split <;> omega
theorem U9 (L:LT) (n:Nat) (f:Nat->E6) (hn:n <= 4611686018427387904):∀ (e i:Nat) (j:Nat->V) (q:Nat),n = i+e->e < q ->
  (AA (KZ L) (NV n f) q (Sf n f (ofNat (Aj (λk=>Ax (f k)) i)) i j)).sem = some (V1 n f (ofNat (Aj (λk=>Ax (f k)) n)) 0)
 | 0,i,j,q+1,h,_=>by
  have:n = i:=by omega
  subst this
  exact Ab (Ah4 L n f _ _ j (A9 (Nat.le_refl _)))
 | e+1,i,j,q+1,h,h2=>by
  have hc:=AV (λk=>Ax (f k)) i
  cases hp:Ax (f i) with
  | true =>
   rw [Ab (Ah2 L n f _ i j (ofNat_lt (by omega)) (AE _) hp),Aq,An (show i < n by omega) hn,An (show Aj (λk=>Ax (f k)) i < n by omega) hn,
    show Aj (λk=>Ax (f k)) i+1 = Aj (λk=>Ax (f k)) (i+1) by rw [Aj,hp]]
   exact U9 L n f hn e (i+1) (λ_=>.und) q (by omega) (by omega)
  | false =>
   rw [Ab (Ah3 L n f _ i j (ofNat_lt (by omega)) (AE _) hp),Aq,An (show i < n by omega) hn,
    show Aj (λk=>Ax (f k)) i = Aj (λk=>Ax (f k)) (i+1) by rw [Aj,hp]]
   exact U9 L n f hn e (i+1) (λ_=>.und) q (by omega) (by omega)
theorem UA (L:LT) (n:Nat) (f:Nat->E6) (hn:n <= 4611686018427387904):∀ (e i:Nat) (j:Nat->V) (q:Nat),n = i+e->e < q ->
  (AA (La L) (NW n f) q (Sg n f (ofNat (Aj (λk=>Aw (f k)) i)) i j)).sem = some (V2 n f (ofNat (Aj (λk=>Aw (f k)) n)) 0)
 | 0,i,j,q+1,h,_=>by
  have:n = i:=by omega
  subst this
  exact Ab (Ah7 L n f _ _ j (A9 (Nat.le_refl _)))
 | e+1,i,j,q+1,h,h2=>by
  have hc:=AV (λk=>Aw (f k)) i
  cases hp:Aw (f i) with
  | true =>
   rw [Ab (Ah5 L n f _ i j (ofNat_lt (by omega)) (AE _) hp),Aq,An (show i < n by omega) hn,An (show Aj (λk=>Aw (f k)) i < n by omega) hn,
    show Aj (λk=>Aw (f k)) i+1 = Aj (λk=>Aw (f k)) (i+1) by rw [Aj,hp]]
   exact UA L n f hn e (i+1) (λ_=>.und) q (by omega) (by omega)
  | false =>
   rw [Ab (Ah6 L n f _ i j (ofNat_lt (by omega)) (AE _) hp),Aq,An (show i < n by omega) hn,
    show Aj (λk=>Aw (f k)) i = Aj (λk=>Aw (f k)) (i+1) by rw [Aj,hp]]
   exact UA L n f hn e (i+1) (λ_=>.und) q (by omega) (by omega)
def VJ:List V->T (V × List Blk)
 | [v,.fn g []]=>apL v λn f=>.br (Ao n) (match Nat.beq g 30,Nat.beq g 31 with
  | true,_=>out (iV (ofNat (Aj (λk=>Ax (f k)) n)))
  | false,true=>out (iV (ofNat (Aj (λk=>Aw (f k)) n)))
  | false,false=>.fail) .fail
 | _=>.fail
theorem p87:A6 Tryz.prog Gl 29 VJ:=by
 refine Av AI mixed Tryz.func29 (by kernel_rfl) (by kernel_rfl) λvs v h' h=>?_
 unfold VJ at h
 split at h
 ·rename_i u g
  obtain ⟨n,f,ha,h1⟩:=Cc h
  obtain ⟨hn,hq⟩:=Ad h1
  clear h h1
  have hn:n <= 4611686018427387904:=of_decide_eq_true hn
  have hA:Bm [u,.fn g []] [A5 n f,.fn g []]:=λS w cs hv=>by
   obtain ⟨c,l,rfl,q1,q2⟩:=hv
   exact ⟨c,l,rfl,ha S w c q1,q2⟩
  split at hq
  ·rename_i h1
   have h1:=Nat.eq_of_beq_eq_true h1
   subst h1
   have:=Ac hq
   simp only [Prod.mk.injEq] at this
   obtain ⟨rfl,rfl⟩:=this
   have hx:=AK Nh [(0,NV n f)]
   have hL:=AF [(0,NV n f)]
   exact ⟨_,AN Gl tbY [(0,NV n f)],[],hA,rfl,hx.1,hx.2,A1 (Ar hL hL) _ (AiT _ _ n f _ 0 (Ai (U9 _ n f hn n 0 _ (n+1) (by omega) (by omega)))),A0.refl _⟩
  ·rename_i h2
   have h2:=Nat.eq_of_beq_eq_true h2
   subst h2
   have:=Ac hq
   simp only [Prod.mk.injEq] at this
   obtain ⟨rfl,rfl⟩:=this
   have hx:=AK Nh [(0,NW n f)]
   have hL:=AF [(0,NW n f)]
   exact ⟨_,AN Gl tbY [(0,NW n f)],[],hA,rfl,hx.1,hx.2,A1 (Ar hL hL) _ (AiU _ _ n f _ 0 (Ai (UA _ n f hn n 0 _ (n+1) (by omega) (by omega)))),A0.refl _⟩
  ·cases hq
 ·cases h
end Go.Proofs.YthlojajaenfidaaGreatDoor.Ed
