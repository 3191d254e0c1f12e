/-
  Layer 11: the law EmitxRegs, as a function (12): each instruction may be; no register is written twice in a thread; each read's register is told. No conditions.
-/
import Derived.Test.YthlojajaenfidaaGreatDoorShYa
import Derived.Test.YthlojajaenfidaaGreatDoorShS
import Derived.Test.YthlojajaenfidaaGreatDoorShW
import Derived.Test.YthlojajaenfidaaGreatDoorShA
import Derived.Test.YthlojajaenfidaaGreatDoorShT
namespace Go.Proofs.YthlojajaenfidaaGreatDoor.Sh
open Go.Sy Ed
set_option maxHeartbeats 1000000
set_option maxRecDepth 4000
end Go.Proofs.YthlojajaenfidaaGreatDoor.Sh
namespace Go.Proofs.YthlojajaenfidaaGreatDoor.Sh
open Go.Sy Ed
set_option maxHeartbeats 1000000
set_option maxRecDepth 4000
end Go.Proofs.YthlojajaenfidaaGreatDoor.Sh
namespace Go.Proofs.YthlojajaenfidaaGreatDoor.Sh
open Go.Sy Ed
set_option maxHeartbeats 1000000
set_option maxRecDepth 4000
end Go.Proofs.YthlojajaenfidaaGreatDoor.Sh
namespace Go.Proofs.YthlojajaenfidaaGreatDoor.Ed
open Go.Sy Go
end Go.Proofs.YthlojajaenfidaaGreatDoor.Ed
namespace Go.Proofs.YthlojajaenfidaaGreatDoor.Sh
open Go.Sy Ed
set_option maxHeartbeats 1000000
set_option maxRecDepth 4000
end Go.Proofs.YthlojajaenfidaaGreatDoor.Sh
namespace Go.Proofs.YthlojajaenfidaaGreatDoor.Sh
open Go.Sy Ed
open Int (ofNat)
set_option maxHeartbeats 1000000
set_option maxRecDepth 4000
def Aic:V->Bool
 | .agg [.val (.int .i64 _),.val (.int .i64 _),.val (.int .i64 c),.val (.int .i64 d),.val (.int .i64 _),.str _,.str m,.val (.int .i64 f)]=>Al (ieq c 0) (Al (ieq d 0) (Al (seq m []) (ieq f 0)))
 | _=>false
def Al3:V->In4
 | .agg [.val (.int .i64 a),.val (.int .i64 b),.val (.int .i64 _),.val (.int .i64 _),.val (.int .i64 e),.str l,.str _,.val (.int .i64 _)]=>⟨a,b,e,l⟩
 | _=>⟨0,0,0,[]⟩
theorem XX {v:V} (h:Aic v = true):v = inV (Al3 v):=by
 unfold Aic at h
 split at h
 ·obtain ⟨h1,h⟩:=Bj h
  obtain ⟨h2,h⟩:=Bj h
  obtain ⟨h3,h4⟩:=Bj h
  have h1:=CC h1
  have h2:=CC h2
  have h3:=eq_of_beq h3
  have h4:=CC h4
  subst h1 h2 h3 h4
  rfl
 ·cases h
def okK (v:V):Bool:=match Vm 8 v with
 | some (n,g)=>AJ n λi=>Aic (g i)
 | none=>false
def edK (v:V):Nat × (Nat->In4):=match Vm 8 v with
 | some (n,g)=>(n,λi=>Al3 (g i))
 | none=>(0,λ_=>⟨0,0,0,[]⟩)
def Ai9:Cod (Nat × (Nat->In4)):=⟨1,λp=>.sl 8 p.1 λi=>inV (p.2 i),okK,edK,λv h S w c hv=>by
 unfold okK at h
 unfold edK
 split at h
 ·rename_i n g hg
  have h:=A4.1 h
  exact Om hg (λi hi S w cc hc=>by rw [<- XX (h i hi)]; exact hc) hv
 ·cases h⟩
def Yr (a b:In4):Bool:=Al (ieq a.op b.op) (Al (ieq a.d b.d) (Al (ieq a.imm b.imm) (seq a.loc b.loc)))
def QE (n:Nat) (ln:Nat->Nat) (c:Nat->Nat->In4) (m:Nat) (ln':Nat->Nat) (c':Nat->Nat->In4):Bool:=Al (ieq (ofNat n) (ofNat m)) (AJ n λk=>Al (ieq (ofNat (ln k)) (ofNat (ln' k))) (AJ (ln k) λj=>Yr (c k j) (c' k j)))
def QH:List V->T (V × List Blk)
 | [v,u]=>apG Ai9 v λn C=>apG Ai9 u λm D=>.br (Ao n) (.br (AJ n λi=>nlt (C i).1 40) (.br (QE n (λi=>(C i).1) (λi=>(C i).2) m (λi=>(D i).1) (λi=>(D i).2)) (.leaf (bV true,[])) .fail) .fail) .fail
 | _=>.fail
def Xa (n:Nat) (ln:Nat->Nat) (c:Nat->Nat->In4) (m:Nat) (ln':Nat->Nat) (c':Nat->Nat->In4) :St:=⟨(jsV 53 0 (λ_=>A7) [(0,(.sl 1 n (λu=>.sl 8 (ln u) (λi=>.agg [iV ((c u i)).op,iV ((c u i)).d,iV 0,iV 0,iV ((c u i)).imm,.str ((c u i)).loc,.str [],iV 0])))),(1,(.sl 1 m (λu=>.sl 8 (ln' u) (λi=>.agg [iV ((c' u i)).op,iV ((c' u i)).d,iV 0,iV 0,iV ((c' u i)).imm,.str ((c' u i)).loc,.str [],iV 0])))),(4,(bV false)),(5,(iV 0)),(7,(.sl 1 n (λu=>.sl 8 (ln u) (λi=>.agg [iV ((c u i)).op,iV ((c u i)).d,iV 0,iV 0,iV ((c u i)).imm,.str ((c u i)).loc,.str [],iV 0])))),(8,(nV n)),(9,(.sl 1 m (λu=>.sl 8 (ln' u) (λi=>.agg [iV ((c' u i)).op,iV ((c' u i)).d,iV 0,iV 0,iV ((c' u i)).imm,.str ((c' u i)).loc,.str [],iV 0])))),(10,(nV m)),(11,(bV (AG (ieq (ofNat n) (ofNat m)))))]),[]⟩
def Rk (n:Nat) (ln:Nat->Nat) (c:Nat->Nat->In4) (m:Nat) (ln':Nat->Nat) (c':Nat->Nat->In4):Lp:=⟨(bmK 53 0 [0,1,5]),0,bmK 53 0 [0,1],0,n+1⟩
def XA (n:Nat) (ln:Nat->Nat) (c:Nat->Nat->In4) (m:Nat) (ln':Nat->Nat) (c':Nat->Nat->In4) (b:Nat) (j:Nat->V):St:=⟨(jsV 53 0 j [(0,.sl 1 n (λu=>.sl 8 (ln u) (λi=>inV (c u i)))),(1,.sl 1 m (λu=>.sl 8 (ln' u) (λi=>inV (c' u i)))),(5,nV b)]),[]⟩
def Xl (n:Nat) (ln:Nat->Nat) (c:Nat->Nat->In4) (m:Nat) (ln':Nat->Nat) (c':Nat->Nat->In4) (b:Nat):Ex × St:=(.ex 0,⟨(jsV 53 0 (λ_=>.und) [(0,.sl 1 n (λu=>.sl 8 (ln u) (λi=>inV (c u i)))),(1,.sl 1 m (λu=>.sl 8 (ln' u) (λi=>inV (c' u i))))]),[]⟩)
noncomputable def OE (L:LT):St->T (Ex × St):=λst=>AD tab ⟨Ak tb0,L,Gl⟩ (As Tryz.f26 0) 0 st
theorem AjV (L:LT) (n:Nat) (ln:Nat->Nat) (c:Nat->Nat->In4) (m:Nat) (ln':Nat->Nat) (c':Nat->Nat->In4) (b:Nat)  (j:Nat->V) (h0:ilt (ofNat b) (ofNat n) = false):Ag (OE L) (Rk n ln c m ln' c') (XA n ln c m ln' c' b j) = some ((.ex 0),⟨(jsV 53 0 (λ_=>.und) [(0,(.sl 1 n (λu=>(.sl 8 (ln u) (λi=>(.agg [(iV ((c u i)).op),(iV ((c u i)).d),(iV 0),(iV 0),(iV ((c u i)).imm),(.str ((c u i)).loc),(.str []),(iV 0)])))))),(1,(.sl 1 m (λu=>(.sl 8 (ln' u) (λi=>(.agg [(iV ((c' u i)).op),(iV ((c' u i)).d),(iV 0),(iV 0),(iV ((c' u i)).imm),(.str ((c' u i)).loc),(.str []),(iV 0)]))))))]),[]⟩):=by
 exact Aa (ks:=[kn h0]) (by kernel_rfl)
def J5 (n:Nat) (ln:Nat->Nat) (c:Nat->Nat->In4) (m:Nat) (ln':Nat->Nat) (c':Nat->Nat->In4):Lp:=⟨(bmK 53 0 [0,1,5,6]),0,bmK 53 0 [0,1,5],0,40⟩
def Q5 (n:Nat) (ln:Nat->Nat) (c:Nat->Nat->In4) (m:Nat) (ln':Nat->Nat) (c':Nat->Nat->In4) (b d:Nat) (j:Nat->V):St:=⟨(jsV 53 0 j [(0,.sl 1 n (λu=>.sl 8 (ln u) (λi=>inV (c u i)))),(1,.sl 1 m (λu=>.sl 8 (ln' u) (λi=>inV (c' u i)))),(5,nV b),(6,nV d)]),[]⟩
def MU (n:Nat) (ln:Nat->Nat) (c:Nat->Nat->In4) (m:Nat) (ln':Nat->Nat) (c':Nat->Nat->In4) (b d:Nat):Ex × St:=(.ex 2,⟨(jsV 53 0 (λ_=>.und) [(0,.sl 1 n (λu=>.sl 8 (ln u) (λi=>inV (c u i)))),(1,.sl 1 m (λu=>.sl 8 (ln' u) (λi=>inV (c' u i)))),(5,nV b)]),[]⟩)
noncomputable def Im (L:LT):St->T (Ex × St):=λst=>AD tab ⟨Ak tb0,L,Gl⟩ (As Tryz.f26 2) 2 st
section
variable (L:LT) (n:Nat) (ln:Nat->Nat) (c:Nat->Nat->In4) (m:Nat) (ln':Nat->Nat) (c':Nat->Nat->In4) (b d:Nat)  (j:Nat->V)
include L n ln c m ln' c' b d j
theorem AjN (h24:Al (ile 0 (ofNat b)) (ilt (ofNat b) (ofNat n)) = true) (h0:ilt (ofNat d) (ofNat (ln b)) = false):Ag (Im L) (J5 n ln c m ln' c') (Q5 n ln c m ln' c' b d j) = some ((.ex 2),⟨(jsV 53 0 (λ_=>.und) [(0,(.sl 1 n (λu=>(.sl 8 (ln u) (λi=>(.agg [(iV ((c u i)).op),(iV ((c u i)).d),(iV 0),(iV 0),(iV ((c u i)).imm),(.str ((c u i)).loc),(.str []),(iV 0)])))))),(1,(.sl 1 m (λu=>(.sl 8 (ln' u) (λi=>(.agg [(iV ((c' u i)).op),(iV ((c' u i)).d),(iV 0),(iV 0),(iV ((c' u i)).imm),(.str ((c' u i)).loc),(.str []),(iV 0)])))))),(5,(nV b))]),[]⟩):=by
 exact Aa (ks:=[kn h24,kn h0]) (by kernel_rfl)
theorem AjM (h24:Al (ile 0 (ofNat b)) (ilt (ofNat b) (ofNat n)) = true) (h0:ilt (ofNat d) (ofNat (ln b)) = true) (h25:ile 0 (ofNat d) = true) (h26:Al (ile 0 (ofNat b)) (ilt (ofNat b) (ofNat m)) = true) (h27:Al (ile 0 (ofNat d)) (ilt (ofNat d) (ofNat (ln' b))) = true) (h30:Al (ieq ((c b d)).op ((c' b d)).op) (Al (ieq ((c b d)).d ((c' b d)).d) (Al (ieq 0 0) (Al (ieq 0 0) (Al (ieq ((c b d)).imm ((c' b d)).imm) (Al (seq ((c b d)).loc ((c' b d)).loc) (Al (seq [] []) (Al (ieq 0 0) true))))))) = true):Ag (Im L) (J5 n ln c m ln' c') (Q5 n ln c m ln' c' b d j) = some (.nm,⟨(jsV 53 0 (λ_=>.und) [(0,(.sl 1 n (λu=>(.sl 8 (ln u) (λi=>(.agg [(iV ((c u i)).op),(iV ((c u i)).d),(iV 0),(iV 0),(iV ((c u i)).imm),(.str ((c u i)).loc),(.str []),(iV 0)])))))),(1,(.sl 1 m (λu=>(.sl 8 (ln' u) (λi=>(.agg [(iV ((c' u i)).op),(iV ((c' u i)).d),(iV 0),(iV 0),(iV ((c' u i)).imm),(.str ((c' u i)).loc),(.str []),(iV 0)])))))),(5,(nV b)),(6,(iV (wr .i64 (Af (ofNat d) 1))))]),[]⟩):=by
 exact Aa (ks:=[kn h24,kn h0,kn h24,kA (kn h25) (kn h0),kn h26,kn h27,kN (kn h30)]) (by kernel_rfl)
end
def MR (n:Nat) (ln:Nat->Nat) (c:Nat->Nat->In4) (m:Nat) (ln':Nat->Nat) (c':Nat->Nat->In4) (b:Nat) (j:Nat->V):St:=⟨(jsV 53 0 j [(0,(.sl 1 n (λu=>.sl 8 (ln u) (λi=>.agg [iV ((c u i)).op,iV ((c u i)).d,iV 0,iV 0,iV ((c u i)).imm,.str ((c u i)).loc,.str [],iV 0])))),(1,(.sl 1 m (λu=>.sl 8 (ln' u) (λi=>.agg [iV ((c' u i)).op,iV ((c' u i)).d,iV 0,iV 0,iV ((c' u i)).imm,.str ((c' u i)).loc,.str [],iV 0])))),(5,(nV b)),(6,(iV 0)),(12,(nV b)),(13,(.sl 1 n (λu=>.sl 8 (ln u) (λi=>.agg [iV ((c u i)).op,iV ((c u i)).d,iV 0,iV 0,iV ((c u i)).imm,.str ((c u i)).loc,.str [],iV 0])))),(14,(nV n)),(15,(bV (ilt (ofNat b) (ofNat n)))),(18,(.sl 1 n (λu=>.sl 8 (ln u) (λi=>.agg [iV ((c u i)).op,iV ((c u i)).d,iV 0,iV 0,iV ((c u i)).imm,.str ((c u i)).loc,.str [],iV 0])))),(19,(nV b)),(20,(.pp (.sl 8 (ln b) (λi=>.agg [iV ((c b i)).op,iV ((c b i)).d,iV 0,iV 0,iV ((c b i)).imm,.str ((c b i)).loc,.str [],iV 0])))),(21,(.sl 8 (ln b) (λi=>.agg [iV ((c b i)).op,iV ((c b i)).d,iV 0,iV 0,iV ((c b i)).imm,.str ((c b i)).loc,.str [],iV 0]))),(22,(iV (ofNat (ln b)))),(23,(.sl 1 m (λu=>.sl 8 (ln' u) (λi=>.agg [iV ((c' u i)).op,iV ((c' u i)).d,iV 0,iV 0,iV ((c' u i)).imm,.str ((c' u i)).loc,.str [],iV 0])))),(24,(nV b)),(25,(.pp (.sl 8 (ln' b) (λi=>.agg [iV ((c' b i)).op,iV ((c' b i)).d,iV 0,iV 0,iV ((c' b i)).imm,.str ((c' b i)).loc,.str [],iV 0])))),(26,(.sl 8 (ln' b) (λi=>.agg [iV ((c' b i)).op,iV ((c' b i)).d,iV 0,iV 0,iV ((c' b i)).imm,.str ((c' b i)).loc,.str [],iV 0]))),(27,(iV (ofNat (ln' b)))),(28,(bV (AG (ieq (ofNat (ln b)) (ofNat (ln' b))))))]),[]⟩
theorem AjU (L:LT) (p2:PT) (n:Nat) (ln:Nat->Nat) (c:Nat->Nat->In4) (m:Nat) (ln':Nat->Nat) (c':Nat->Nat->In4) (b:Nat) (j:Nat->V) (h0:ilt (ofNat b) (ofNat n) = true) (h24:ile 0 (ofNat b) = true) (h25:Al (ile 0 (ofNat b)) (ilt (ofNat b) (ofNat m)) = true) (h1:ieq (ofNat (ln b)) (ofNat (ln' b)) = true) (hp2:p2 (Im (onP 2 p2 (MU n ln c m ln' c' b 0) L)) (MR n ln c m ln' c' b j) = true):Ag (OE (onP 2 p2 (MU n ln c m ln' c' b 0) L)) (Rk n ln c m ln' c') (XA n ln c m ln' c' b j) = some (.nm,⟨(jsV 53 0 (λ_=>.und) [(0,(.sl 1 n (λu=>(.sl 8 (ln u) (λi=>(.agg [(iV ((c u i)).op),(iV ((c u i)).d),(iV 0),(iV 0),(iV ((c u i)).imm),(.str ((c u i)).loc),(.str []),(iV 0)])))))),(1,(.sl 1 m (λu=>(.sl 8 (ln' u) (λi=>(.agg [(iV ((c' u i)).op),(iV ((c' u i)).d),(iV 0),(iV 0),(iV ((c' u i)).imm),(.str ((c' u i)).loc),(.str []),(iV 0)])))))),(5,(iV (wr .i64 (Af (ofNat b) 1))))]),[]⟩):=by
 exact Aa (ks:=[kn h0,kA (kn h24) (kn h0),kn h25,kN (kn h1),kn hp2]) (by kernel_rfl)
theorem Ama (L:LT) (p0:PT) (n:Nat) (ln:Nat->Nat) (c:Nat->Nat->In4) (m:Nat) (ln':Nat->Nat) (c':Nat->Nat->In4) (h0:ieq (ofNat n) (ofNat m) = true) (hp0:p0 (OE (onP 0 p0 (Xl n ln c m ln' c' 0) L)) (Xa n ln c m ln' c') = true):(Au (Ah tab ⟨Ak tb0,(onP 0 p0 (Xl n ln c m ln' c' 0) L),Gl⟩ Tryz.f26 [.sl 1 n (λu=>.sl 8 (ln u) (λi=>inV (c u i))),.sl 1 m (λu=>.sl 8 (ln' u) (λi=>inV (c' u i)))] [])).sem = some ((bV true),[]):=by
 exact Aa (ks:=[kN (kn h0),kn hp0]) (by kernel_rfl)
theorem Vv (n:Nat) (ln:Nat->Nat) (c:Nat->Nat->In4) (m:Nat) (ln':Nat->Nat) (c':Nat->Nat->In4) (b:Nat) (j:Nat->V):MR n ln c m ln' c' b j = Q5 n ln c m ln' c' b 0 (λi=>nth (MR n ln c m ln' c' b j).t i):=by kernel_rfl
theorem Abk (n:Nat) (ln:Nat->Nat) (c:Nat->Nat->In4) (m:Nat) (ln':Nat->Nat) (c':Nat->Nat->In4):Xa n ln c m ln' c' = XA n ln c m ln' c' 0 (λi=>nth (Xa n ln c m ln' c').t i):=by kernel_rfl
theorem Z9 (L:LT) (n:Nat) (ln:Nat->Nat) (c:Nat->Nat->In4) (m:Nat) (ln':Nat->Nat) (c':Nat->Nat->In4) {b:Nat} (hb:b < n) (hbm:b < m) (h40:ln b < 40) (hl:ln b = ln' b) (he:∀ j,j < ln b->Yr (c b j) (c' b j) = true):∀ (e d:Nat) (j:Nat->V) (u:Nat),ln b = d+e->e < u ->
  (AA (Im L) (J5 n ln c m ln' c') u (Q5 n ln c m ln' c' b d j)).sem = some (MU n ln c m ln' c' b 0)
 | 0,d,j,u+1,h,_=>by
  have:d = ln b:=by omega
  subst this
  exact Ab (AjN L n ln c m ln' c' b (ln b) j (Ap hb) (A9 (Nat.le_refl _)))
 | e+1,d,j,u+1,h,h2=>by
  have hd:d < ln b:=by omega
  have next:=Z9 L n ln c m ln' c' hb hbm h40 hl he e (d+1) (λ_=>.und) u (by omega) (by omega)
  have hx:=he d hd
  have hq:Al (ieq (c b d).op (c' b d).op) (Al (ieq (c b d).d (c' b d).d) (Al (ieq 0 0) (Al (ieq 0 0) (Al (ieq (c b d).imm (c' b d).imm) (Al (seq (c b d).loc (c' b d).loc) (Al (seq [] []) (Al (ieq 0 0) true))))))) = true:=by
   unfold Yr at hx
   obtain ⟨q1,hx⟩:=Bj hx
   obtain ⟨q2,hx⟩:=Bj hx
   obtain ⟨q3,q4⟩:=Bj hx
   rw [q1,q2,q3,q4]
   rfl
  rw [Ab (AjM L n ln c m ln' c' b d j (Ap hb) (ofNat_lt hd) (AE _) (Ap hbm) (by rw [<- hl]; exact Ap hd) hq),Aq,An hd (by omega)]
  exact next
theorem Aev (M:LT) (hMM:LLe M M) (n:Nat) (ln:Nat->Nat) (c:Nat->Nat->In4) (m:Nat) (ln':Nat->Nat) (c':Nat->Nat->In4) (m2:∀ g' st,M 2 g' st = AA g' (J5 n ln c m ln' c') 40 st) (hn:n <= 4611686018427387904) (hnm:n = m) (hs:∀ b,b < n->ln b < 40 ∧ ln b = ln' b ∧ ∀ j,j < ln b->Yr (c b j) (c' b j) = true):∀ (e b:Nat) (j:Nat->V) (u:Nat),n = b+e->e < u ->
  (AA (OE M) (Rk n ln c m ln' c') u (XA n ln c m ln' c' b j)).sem = some (Xl n ln c m ln' c' 0)
 | 0,b,j,u+1,h,_=>by
  have:b = n:=by omega
  subst this
  exact Ab (AjV M b ln c m ln' c' b j (A9 (Nat.le_refl _)))
 | e+1,b,j,u+1,h,h2=>by
  have hb:b < n:=by omega
  obtain ⟨h40,hl,he⟩:=hs b hb
  have next:=Aev M hMM n ln c m ln' c' m2 hn hnm hs e (b+1) (λ_=>.und) u (by omega) (by omega)
  have hi:∀ M',(M 2 (Im M') (MR n ln c m ln' c' b j)).sem = some (MU n ln c m ln' c' b 0):=λM'=>by
   rw [m2,Vv]
   exact Z9 M' n ln c m ln' c' hb (by omega) h40 hl he (ln b) 0 _ 40 (by omega) (by omega)
  have h3:=AjU M _ n ln c m ln' c' b j (ofNat_lt hb) (AE _) (Ap (by omega)) (Ait (congrArg ofNat hl)) (Ai (hi _))
  have h4:Ag (OE M) (Rk n ln c m ln' c') (XA n ln c m ln' c' b j) = _:=Db (l:=Rk n ln c m ln' c') (E5 (Γ:=⟨Ak tb0,M,Gl⟩) (Ar hMM hMM) (As Tryz.f26 0) 0 (XA n ln c m ln' c' b j)) h3
  rw [Ab h4,Aq,An hb hn]
  exact next
theorem AmQ:A6 Tryz.prog Gl 26 QH:=by
 refine Av AI mixed Tryz.func26 (by kernel_rfl) (by kernel_rfl) λvs v h' h=>?_
 unfold QH at h
 split at h
 ·rename_i v1 u1
  obtain ⟨n,C,a1,h⟩:=B7 h
  obtain ⟨m,D,a2,h⟩:=B7 h
  obtain ⟨hn,h⟩:=Ad h
  obtain ⟨h40,h⟩:=Ad h
  obtain ⟨hsm,h⟩:=Ad h
  have:=Ac h
  simp only [Prod.mk.injEq] at this
  obtain ⟨rfl,rfl⟩:=this
  obtain ⟨ln,c,hC⟩:∃ (ln:Nat->Nat) (c:Nat->Nat->In4),C = λu=>(ln u,c u):=⟨λu=>(C u).1,λu=>(C u).2,rfl⟩
  subst hC
  obtain ⟨ln',c',hD⟩:∃ (ln:Nat->Nat) (c:Nat->Nat->In4),D = λu=>(ln u,c u):=⟨λu=>(D u).1,λu=>(D u).2,rfl⟩
  subst hD
  have hA:Bm [v1,u1] [.sl 1 n (λu=>.sl 8 (ln u) (λi=>inV (c u i))),.sl 1 m (λu=>.sl 8 (ln' u) (λi=>inV (c' u i)))]:=λS w cs hv=>by
   obtain ⟨c1,l,rfl,q1,c2,l2,rfl,q2,q3⟩:=hv
   exact ⟨c1,_,rfl,a1 S w c1 q1,c2,_,rfl,a2 S w c2 q2,q3⟩
  obtain ⟨e1,e2⟩:=Bj hsm
  have hnm:n = m:=Int.ofNat.inj (CC e1)
  have hs:∀ b,b < n->ln b < 40 ∧ ln b = ln' b ∧ ∀ j,j < ln b->Yr (c b j) (c' b j) = true:=λb hb=>by
   obtain ⟨f1,f2⟩:=Bj (A4.1 e2 b hb)
   exact ⟨of_decide_eq_true (A4.1 h40 b hb),Int.ofNat.inj (CC f1),λj hj=>A4.1 f2 j hj⟩
  have hx:=AK Dn [(0,Rk n ln c m ln' c'),(2,J5 n ln c m ln' c')] (G:=Gl)
  have hL:=AF [(0,Rk n ln c m ln' c'),(2,J5 n ln c m ln' c')]
  refine ⟨_,AN Gl tb0 [(0,Rk n ln c m ln' c'),(2,J5 n ln c m ln' c')],_,hA,rfl,hx.1,hx.2,?_,A0.refl _⟩
  have hQ:=Ar (k:=0) (r:=Xl n ln c m ln' c' 0) hL hL
  refine A1 hQ _ (Ama _ _ n ln c m ln' c' e1 (Ai ?_))
  show (AA _ (Rk n ln c m ln' c') (n+1) (Xa n ln c m ln' c')).sem = _
  rw [Abk]
  exact Aev _ (Vh hL hL 0 _) n ln c m ln' c' (λg st=>rfl) (of_decide_eq_true hn) hnm hs n 0 _ (n+1) (by omega) (by omega)
 ·cases h
end Go.Proofs.YthlojajaenfidaaGreatDoor.Sh
namespace Go.Proofs.YthlojajaenfidaaGreatDoor.Em
open Go.Sy Go Go.Proofs.YthlojajaenfidaaGreatDoor.Ed Go.Proofs.YthlojajaenfidaaGreatDoor.Sh
open Int (ofNat)
set_option maxRecDepth 100000
set_option maxHeartbeats 1000000
structure In5 where
 th:Int
 rg:Int
 lc:List UInt8
 vl:List UInt8
 vn:Int
def Oj (e:In5):V:=.agg [iV e.th,iV e.rg,.str e.lc,.str e.vl,iV e.vn]
def YW:V->Option In5
 | .agg [.val (.int .i64 a),.val (.int .i64 b),.str c,.str d,.val (.int .i64 e)]=>some ⟨a,b,c,d,e⟩
 | _=>none
def Aam (v:V):Bool:=match YW v with
 | some _=>true
 | none=>false
def Ab0 (v:V):In5:=match YW v with
 | some e=>e
 | none=>⟨0,0,[],[],0⟩
theorem UV {v:V} (h:Aam v = true):v = Oj (Ab0 v):=by
 unfold Aam at h
 unfold Ab0
 split at h
 ·rename_i e he
  unfold YW at he
  split at he
  ·cases he
   rfl
  ·cases he
 ·cases h
def AiA:Cod In5:=⟨5,Oj,Aam,Ab0,λv h S w c hv=>by rw [<- UV h]; exact hv⟩
structure Te where
 a:Int
 nm:List UInt8
 cy:List UInt8
 k:Nat
 I:Nat->In5
 t:Nat
 lw:Nat->Nat
 cw:Nat->Nat->In4
 qt:Int
 nd:Nd
def teV (z:Te):V:=.agg [iV z.a,.str z.nm,.str z.cy,.sl 5 z.k (λi=>Oj (z.I i)),.sl 1 z.t (λu=>.sl 8 (z.lw u) (λi=>inV (z.cw u i))),iV z.qt,iV z.nd.kd,iV z.nd.th,iV z.nd.rg,.str z.nd.lc,iV z.nd.v,.sl 6 z.nd.n (BY z.nd.X z.nd.f)]
def AdY {β:Type} (v:V) (F:Te->T β):T β:=match v with
 | .agg [.val (.int .i64 a),.str nm,.str cy,i,c,.val (.int .i64 qt),.val (.int .i64 kd),.val (.int .i64 th),.val (.int .i64 rg),.str lc,.val (.int .i64 v),ks] =>
  apG AiA i λk I=>apG Ai9 c λt C=>apG AbD ks λn g=>F ⟨a,nm,cy,k,I,t,λu=>(C u).1,λu=>(C u).2,qt,⟨kd,th,rg,lc,v,n,λi=>(g i).1,λi=>(g i).2⟩⟩
 | _=>.fail
theorem Qm {β:Type} {v:V} {F:Te->T β} {r:β} (h:(AdY v F).sem = some r) :
  ∃ z,(∀ (S:Nat->Prop) (w:World) (u:Value),VR S w v noK u->VR S w (teV z) noK u) ∧ (F z).sem = some r:=by
 unfold AdY at h
 split at h
 ·obtain ⟨k,I,h1,h⟩:=B7 h
  obtain ⟨t,C,h2,h⟩:=B7 h
  obtain ⟨n,g,h3,h⟩:=B7 h
  refine ⟨_,λS w u hv=>?_,h⟩
  obtain ⟨ca,e,c1,l1,e1,q1,c2,l2,e2,q2,c3,l3,e3,q3,c4,l4,e4,q4,c5,l5,e5,q5,c6,l6,e6,q6,c7,l7,e7,q7,c8,l8,e8,q8,c9,l9,e9,q9,c10,l10,e10,q10,c11,l11,e11,q11,c12,l12,e12,q12,q13⟩:=hv
  exact ⟨ca,e,c1,l1,e1,q1,c2,l2,e2,q2,c3,l3,e3,q3,c4,l4,e4,h1 S w c4 q4,c5,l5,e5,h2 S w c5 q5,c6,l6,e6,q6,c7,l7,e7,q7,c8,l8,e8,q8,c9,l9,e9,q9,c10,l10,e10,q10,c11,l11,e11,q11,c12,l12,e12,h3 S w c12 q12,q13⟩
 ·cases h
def YZ (z:Te):Bool:=Ao z.t && ((AJ z.t λi=>nlt (z.lw i) 40) && (Ao z.k && Bx 0 z.nd.n 72))
noncomputable def U1:List V->T (V × List Blk)
 | [u,v]=>AdY u λz=>AdY v λy=>.br (HB z y) (.br (YZ z) (.leaf (bV true,[])) .fail) .fail
 | _=>.fail
noncomputable def Nk:List (Nat × (List V->T (V × List Blk))):=[(26,QH),(27,Aaq)]
theorem Zn:A8 Tryz.prog Gl Nk:=.cons AmQ <| .cons AmS .nil
theorem Sw (n:Nat) (ln:Nat->Nat) (c:Nat->Nat->In4):QE n ln c n ln c = true:=by
 simp [QE,Yr,Al,ieq,seq,AJ]
def Xc (a:Int) (nm cy:List UInt8) (k:Nat) (I:Nat->In5) (t:Nat) (lw:Nat->Nat) (cw:Nat->Nat->In4) (qt kd th rg:Int) (lc:List UInt8) (v:Int) (n:Nat) (X:Nat->Tg) (f:Nat->Int) :St:=⟨(jsV 76 0 (λ_=>A7) [(0,(.agg [(iV a),(.str nm),(.str cy),(.sl 5 k (λi=>(.agg [(iV ((I i)).th),(iV ((I i)).rg),(.str ((I i)).lc),(.str ((I i)).vl),(iV ((I i)).vn)]))),(.sl 1 t (λu=>(.sl 8 (lw u) (λi=>(.agg [(iV ((cw u i)).op),(iV ((cw u i)).d),(iV 0),(iV 0),(iV ((cw u i)).imm),(.str ((cw u i)).loc),(.str []),(iV 0)]))))),(iV qt),(iV kd),(iV th),(iV rg),(.str lc),(iV v),(.sl 6 n (λi=>(.agg [(iV 2),(iV ((X i)).th),(iV ((X i)).rg),(.str ((X i)).lc),(iV (f i)),.nilS])))])),(1,(.agg [(iV a),(.str nm),(.str cy),(.sl 5 k (λi=>(.agg [(iV ((I i)).th),(iV ((I i)).rg),(.str ((I i)).lc),(.str ((I i)).vl),(iV ((I i)).vn)]))),(.sl 1 t (λu=>(.sl 8 (lw u) (λi=>(.agg [(iV ((cw u i)).op),(iV ((cw u i)).d),(iV 0),(iV 0),(iV ((cw u i)).imm),(.str ((cw u i)).loc),(.str []),(iV 0)]))))),(iV qt),(iV kd),(iV th),(iV rg),(.str lc),(iV v),(.sl 6 n (λi=>(.agg [(iV 2),(iV ((X i)).th),(iV ((X i)).rg),(.str ((X i)).lc),(iV (f i)),.nilS])))])),(2,(.ptr 0 0)),(3,(.ptr 1 0)),(4,(bV false)),(5,(iV 0)),(6,(.ptr 0 0)),(7,(iV a)),(8,(.ptr 1 0)),(9,(iV a)),(10,(bV (AG (ieq a a)))),(11,(bV (AG (ieq a a)))),(12,(.ptr 0 1)),(13,(.str nm)),(14,(.ptr 1 1)),(15,(.str nm)),(16,(bV (AG (seq nm nm)))),(17,(bV (AG (seq nm nm)))),(18,(bV (AG (seq nm nm)))),(19,(.ptr 0 2)),(20,(.str cy)),(21,(.ptr 1 2)),(22,(.str cy)),(23,(bV (AG (seq cy cy)))),(24,(bV (AG (seq cy cy)))),(25,(bV (AG (seq cy cy)))),(26,(.ptr 0 3)),(27,(.sl 5 k (λi=>(.agg [(iV ((I i)).th),(iV ((I i)).rg),(.str ((I i)).lc),(.str ((I i)).vl),(iV ((I i)).vn)])))),(28,(nV k)),(29,(.ptr 1 3)),(30,(.sl 5 k (λi=>(.agg [(iV ((I i)).th),(iV ((I i)).rg),(.str ((I i)).lc),(.str ((I i)).vl),(iV ((I i)).vn)])))),(31,(nV k)),(32,(bV (AG (ieq (ofNat k) (ofNat k))))),(33,(bV (AG (ieq (ofNat k) (ofNat k))))),(34,(bV (AG (ieq (ofNat k) (ofNat k))))),(35,(.ptr 0 4)),(36,(.sl 1 t (λu=>(.sl 8 (lw u) (λi=>(.agg [(iV ((cw u i)).op),(iV ((cw u i)).d),(iV 0),(iV 0),(iV ((cw u i)).imm),(.str ((cw u i)).loc),(.str []),(iV 0)])))))),(37,(.ptr 1 4)),(38,(.sl 1 t (λu=>(.sl 8 (lw u) (λi=>(.agg [(iV ((cw u i)).op),(iV ((cw u i)).d),(iV 0),(iV 0),(iV ((cw u i)).imm),(.str ((cw u i)).loc),(.str []),(iV 0)])))))),(39,(bV true)),(40,(bV (AG true))),(41,(bV (AG true))),(42,(bV (AG true))),(43,(.ptr 0 5)),(44,(.ptr 0 5)),(45,(iV qt)),(46,(.ptr 1 5)),(47,(.ptr 1 5)),(48,(iV qt)),(49,(bV (AG (ieq qt qt)))),(50,(bV (AG (ieq qt qt))))]),[(.cells [(iV a),(.str nm),(.str cy),(.sl 5 k (λi=>(.agg [(iV ((I i)).th),(iV ((I i)).rg),(.str ((I i)).lc),(.str ((I i)).vl),(iV ((I i)).vn)]))),(.sl 1 t (λu=>(.sl 8 (lw u) (λi=>(.agg [(iV ((cw u i)).op),(iV ((cw u i)).d),(iV 0),(iV 0),(iV ((cw u i)).imm),(.str ((cw u i)).loc),(.str []),(iV 0)]))))),(iV qt),(iV kd),(iV th),(iV rg),(.str lc),(iV v),(.sl 6 n (λi=>(.agg [(iV 2),(iV ((X i)).th),(iV ((X i)).rg),(.str ((X i)).lc),(iV (f i)),.nilS])))]),(.cells [(iV a),(.str nm),(.str cy),(.sl 5 k (λi=>(.agg [(iV ((I i)).th),(iV ((I i)).rg),(.str ((I i)).lc),(.str ((I i)).vl),(iV ((I i)).vn)]))),(.sl 1 t (λu=>(.sl 8 (lw u) (λi=>(.agg [(iV ((cw u i)).op),(iV ((cw u i)).d),(iV 0),(iV 0),(iV ((cw u i)).imm),(.str ((cw u i)).loc),(.str []),(iV 0)]))))),(iV qt),(iV kd),(iV th),(iV rg),(.str lc),(iV v),(.sl 6 n (λi=>(.agg [(iV 2),(iV ((X i)).th),(iV ((X i)).rg),(.str ((X i)).lc),(iV (f i)),.nilS])))])]⟩
def Alf (a:Int) (nm cy:List UInt8) (k:Nat) (I:Nat->In5) (t:Nat) (lw:Nat->Nat) (cw:Nat->Nat->In4) (qt kd th rg:Int) (lc:List UInt8) (v:Int) (n:Nat) (X:Nat->Tg) (f:Nat->Int):Lp:=⟨(bmK 76 0 [2,3,4,5]),2,(bmK 76 0 [2,3,4]),2,0⟩
def AcD (a:Int) (nm cy:List UInt8) (k:Nat) (I:Nat->In5) (t:Nat) (lw:Nat->Nat) (cw:Nat->Nat->In4) (qt kd th rg:Int) (lc:List UInt8) (v:Int) (n:Nat) (X:Nat->Tg) (f:Nat->Int) (b:Nat) (j:Nat->V):St:=⟨(jsV 76 0 j [(2,.ptr 0 0),(3,.ptr 1 0),(4,bV false),(5,nV b)]),[.cells [iV a,.str nm,.str cy,.sl 5 k (λi=>Oj (I i)),.sl 1 t (λu=>.sl 8 (lw u) (λi=>inV (cw u i))),iV qt,iV kd,iV th,iV rg,.str lc,iV v,.sl 6 n (λi=>BY X f i)],.cells [iV a,.str nm,.str cy,.sl 5 k (λi=>Oj (I i)),.sl 1 t (λu=>.sl 8 (lw u) (λi=>inV (cw u i))),iV qt,iV kd,iV th,iV rg,.str lc,iV v,.sl 6 n (λi=>BY X f i)]]⟩
def T5 (a:Int) (nm cy:List UInt8) (k:Nat) (I:Nat->In5) (t:Nat) (lw:Nat->Nat) (cw:Nat->Nat->In4) (qt kd th rg:Int) (lc:List UInt8) (v:Int) (n:Nat) (X:Nat->Tg) (f:Nat->Int) (b:Nat):Ex × St:=(.ex 0,⟨(jsV 76 0 (λ_=>.und) [(2,.ptr 0 0),(3,.ptr 1 0),(4,bV false)]),[.cells [iV a,.str nm,.str cy,.sl 5 k (λi=>Oj (I i)),.sl 1 t (λu=>.sl 8 (lw u) (λi=>inV (cw u i))),iV qt,iV kd,iV th,iV rg,.str lc,iV v,.sl 6 n (λi=>BY X f i)],.cells [iV a,.str nm,.str cy,.sl 5 k (λi=>Oj (I i)),.sl 1 t (λu=>.sl 8 (lw u) (λi=>inV (cw u i))),iV qt,iV kd,iV th,iV rg,.str lc,iV v,.sl 6 n (λi=>BY X f i)]]⟩)
noncomputable def OG (L:LT):St->T (Ex × St):=λst=>AD tab ⟨Ak Nk,L,Gl⟩ (As Tryz.f10 0) 0 st
section
variable (L:LT) (a:Int) (nm cy:List UInt8) (k:Nat) (I:Nat->In5) (t:Nat) (lw:Nat->Nat) (cw:Nat->Nat->In4) (qt kd th rg:Int) (lc:List UInt8) (v:Int) (n:Nat) (X:Nat->Tg) (f:Nat->Int) (b:Nat)  (j:Nat->V)
include L a nm cy k I t lw cw qt kd th rg lc v n X f b j
theorem AmM (h0:ilt (ofNat b) (ofNat k) = false):Ag (OG L) (Alf a nm cy k I t lw cw qt kd th rg lc v n X f) (AcD a nm cy k I t lw cw qt kd th rg lc v n X f b j) = some ((.ex 0),⟨(jsV 76 0 (λ_=>.und) [(2,(.ptr 0 0)),(3,(.ptr 1 0)),(4,(bV false))]),[(.cells [(iV a),(.str nm),(.str cy),(.sl 5 k (λi=>(.agg [(iV ((I i)).th),(iV ((I i)).rg),(.str ((I i)).lc),(.str ((I i)).vl),(iV ((I i)).vn)]))),(.sl 1 t (λu=>(.sl 8 (lw u) (λi=>(.agg [(iV ((cw u i)).op),(iV ((cw u i)).d),(iV 0),(iV 0),(iV ((cw u i)).imm),(.str ((cw u i)).loc),(.str []),(iV 0)]))))),(iV qt),(iV kd),(iV th),(iV rg),(.str lc),(iV v),(.sl 6 n (λi=>(.agg [(iV 2),(iV ((X i)).th),(iV ((X i)).rg),(.str ((X i)).lc),(iV (f i)),.nilS])))]),(.cells [(iV a),(.str nm),(.str cy),(.sl 5 k (λi=>(.agg [(iV ((I i)).th),(iV ((I i)).rg),(.str ((I i)).lc),(.str ((I i)).vl),(iV ((I i)).vn)]))),(.sl 1 t (λu=>(.sl 8 (lw u) (λi=>(.agg [(iV ((cw u i)).op),(iV ((cw u i)).d),(iV 0),(iV 0),(iV ((cw u i)).imm),(.str ((cw u i)).loc),(.str []),(iV 0)]))))),(iV qt),(iV kd),(iV th),(iV rg),(.str lc),(iV v),(.sl 6 n (λi=>(.agg [(iV 2),(iV ((X i)).th),(iV ((X i)).rg),(.str ((X i)).lc),(iV (f i)),.nilS])))])]⟩):=by
 exact Aa (ks:=[kn h0]) (by kernel_rfl)
theorem AmL (h0:ilt (ofNat b) (ofNat k) = true) (h31:ile 0 (ofNat b) = true) (h32:seq ((I b)).lc ((I b)).lc = true) (h33:seq ((I b)).vl ((I b)).vl = true):Ag (OG L) (Alf a nm cy k I t lw cw qt kd th rg lc v n X f) (AcD a nm cy k I t lw cw qt kd th rg lc v n X f b j) = some (.nm,⟨(jsV 76 0 (λ_=>.und) [(2,(.ptr 0 0)),(3,(.ptr 1 0)),(4,(bV false)),(5,(iV (wr .i64 (Af (ofNat b) 1))))]),[(.cells [(iV a),(.str nm),(.str cy),(.sl 5 k (λi=>(.agg [(iV ((I i)).th),(iV ((I i)).rg),(.str ((I i)).lc),(.str ((I i)).vl),(iV ((I i)).vn)]))),(.sl 1 t (λu=>(.sl 8 (lw u) (λi=>(.agg [(iV ((cw u i)).op),(iV ((cw u i)).d),(iV 0),(iV 0),(iV ((cw u i)).imm),(.str ((cw u i)).loc),(.str []),(iV 0)]))))),(iV qt),(iV kd),(iV th),(iV rg),(.str lc),(iV v),(.sl 6 n (λi=>(.agg [(iV 2),(iV ((X i)).th),(iV ((X i)).rg),(.str ((X i)).lc),(iV (f i)),.nilS])))]),(.cells [(iV a),(.str nm),(.str cy),(.sl 5 k (λi=>(.agg [(iV ((I i)).th),(iV ((I i)).rg),(.str ((I i)).lc),(.str ((I i)).vl),(iV ((I i)).vn)]))),(.sl 1 t (λu=>(.sl 8 (lw u) (λi=>(.agg [(iV ((cw u i)).op),(iV ((cw u i)).d),(iV 0),(iV 0),(iV ((cw u i)).imm),(.str ((cw u i)).loc),(.str []),(iV 0)]))))),(iV qt),(iV kd),(iV th),(iV rg),(.str lc),(iV v),(.sl 6 n (λi=>(.agg [(iV 2),(iV ((X i)).th),(iV ((X i)).rg),(.str ((X i)).lc),(iV (f i)),.nilS])))])]⟩):=by
 exact Aa (ks:=[kn h0,kA (kn h31) (kn h0),kA (kn h31) (kn h0),kN (kA (kI ((I b)).th) (kA (kI ((I b)).rg) (kA (kn h32) (kA (kA (kn h33) (kA (kI ((I b)).vn) kT)) kT))))]) (by kernel_rfl)
end
theorem w10 (L:LT) (p0:PT) (a:Int) (nm cy:List UInt8) (k:Nat) (I:Nat->In5) (t:Nat) (lw:Nat->Nat) (cw:Nat->Nat->In4) (qt kd th rg:Int) (lc:List UInt8) (v:Int) (n:Nat) (X:Nat->Tg) (f:Nat->Int) (h30:seq nm nm = true) (h31:seq cy cy = true) (h32:AJ t (λi=>(AJ (lw i) (λ_=>(Al (ieq 0 0) (Al (ieq 0 0) (Al (seq [] []) (ieq 0 0))))))) = true) (h33:Ao t = true) (h34:AJ t (λi=>(nlt (lw i) 40)) = true) (h35:QE t lw (λi i_1=>(cw i i_1)) t lw (λi i_1=>(cw i i_1)) = true) (h36:AJ n (λ_=>(ieq 2 2)) = true) (h37:HB (Nd.mk kd th rg lc v n X f) (Nd.mk kd th rg lc v n X f) = true) (h38:Bx 0 n 72 = true) (hp0:p0 (OG (onP 0 p0 (T5 a nm cy k I t lw cw qt kd th rg lc v n X f k) L)) (Xc a nm cy k I t lw cw qt kd th rg lc v n X f) = true):(Au (Ah tab ⟨Ak Nk,(onP 0 p0 (T5 a nm cy k I t lw cw qt kd th rg lc v n X f k) L),Gl⟩ Tryz.f10 [.agg [iV a,.str nm,.str cy,.sl 5 k (λi=>Oj (I i)),.sl 1 t (λu=>.sl 8 (lw u) (λi=>inV (cw u i))),iV qt,iV kd,iV th,iV rg,.str lc,iV v,.sl 6 n (λi=>BY X f i)],.agg [iV a,.str nm,.str cy,.sl 5 k (λi=>Oj (I i)),.sl 1 t (λu=>.sl 8 (lw u) (λi=>inV (cw u i))),iV qt,iV kd,iV th,iV rg,.str lc,iV v,.sl 6 n (λi=>BY X f i)]] [])).sem = some ((bV true),[]):=by
 exact Aa (ks:=[kN (kI a),kN (kI a),kN (kI a),kN (kI a),kN (kI a),kN (kI a),kN (kn h30),kN (kn h30),kN (kn h30),kN (kn h30),kN (kn h30),kN (kn h30),kN (kn h31),kN (kn h31),kN (kn h31),kN (kn h31),kN (kn h31),kN (kn h31),kN (kn h31),kN (kn h31),kN (kI (ofNat k)),kN (kI (ofNat k)),kN (kI (ofNat k)),kN (kI (ofNat k)),kN (kI (ofNat k)),kn h32,kn h32,kn h33,kn h34,kn h35,kN (kI (ofNat k)),kN (kI (ofNat k)),kN kT,kN kT,kN kT,kN kT,kN kT,kN kT,kN kT,kN kT,kN (kI qt),kn hp0,kn h36,kn h36,kn h37,kn h38]) (by kernel_rfl)
section
variable (a:Int) (nm cy:List UInt8) (k:Nat) (I:Nat->In5) (t:Nat) (lw:Nat->Nat) (cw:Nat->Nat->In4) (qt kd th rg:Int) (lc:List UInt8) (v:Int) (n:Nat) (X:Nat->Tg) (f:Nat->Int)
theorem Ae2 (M:LT) (hk:k <= 4611686018427387904):∀ (d b:Nat) (j:Nat->V),k = b+d->LRun ⟨Ak Nk,Gl⟩ (OG M) (AcD a nm cy k I t lw cw qt kd th rg lc v n X f b j) (T5 a nm cy k I t lw cw qt kd th rg lc v n X f k)
 | 0,b,j,h=>by
  have:k = b:=by omega
  subst this
  exact LRun.exit (AmM M a nm cy k I t lw cw qt kd th rg lc v n X f k j (A9 (Nat.le_refl _))) (by simp)
 | d+1,b,j,h=>by
  have hb:b < k:=by omega
  have h1:=AmL M a nm cy k I t lw cw qt kd th rg lc v n X f b j (ofNat_lt hb) (AE b) (DI _) (DI _)
  rw [An hb hk] at h1
  exact LRun.round h1 (LE.refl _) (Ae2 M hk d (b+1) (λ_=>.und) (by omega))
theorem Abo:Xc a nm cy k I t lw cw qt kd th rg lc v n X f = AcD a nm cy k I t lw cw qt kd th rg lc v n X f 0 (λi=>nth (Xc a nm cy k I t lw cw qt kd th rg lc v n X f).t i):=by kernel_rfl
end
theorem AmV:A6 Tryz.prog Gl 10 U1:=by
 refine Av AI mixed Tryz.func10 (by kernel_rfl) (by kernel_rfl) λvs v h' h=>?_
 unfold U1 at h
 split at h
 ·rename_i u1 v1
  obtain ⟨z,a1,h⟩:=Qm h
  obtain ⟨y,a2,h⟩:=Qm h
  obtain ⟨hy,h⟩:=Ad h
  obtain ⟨hz,h⟩:=Ad h
  have:=Ac h
  simp only [Prod.mk.injEq] at this
  obtain ⟨rfl,rfl⟩:=this
  have hy:=N3 hy
  subst hy
  obtain ⟨a,nm,cy,k,I,t,lw,cw,qt,kd,th,rg,lc,v,n,X,f⟩:=z
  simp only [YZ,Bool.and_eq_true] at hz
  obtain ⟨h1,h2,h3,h4⟩:=hz
  have hA:Bm [u1,v1] [.agg [iV a,.str nm,.str cy,.sl 5 k (λi=>Oj (I i)),.sl 1 t (λu=>.sl 8 (lw u) (λi=>inV (cw u i))),iV qt,iV kd,iV th,iV rg,.str lc,iV v,.sl 6 n (λi=>BY X f i)],.agg [iV a,.str nm,.str cy,.sl 5 k (λi=>Oj (I i)),.sl 1 t (λu=>.sl 8 (lw u) (λi=>inV (cw u i))),iV qt,iV kd,iV th,iV rg,.str lc,iV v,.sl 6 n (λi=>BY X f i)]]:=λS w cs hv=>by
   obtain ⟨c,l,rfl,q1,d,l',rfl,q2,q3⟩:=hv
   exact ⟨c,_,rfl,a1 S w c q1,d,_,rfl,a2 S w d q2,q3⟩
  have hc0:Bg Tryz.prog ⟨Ak Nk,Gl⟩:=(AK Zn [] (G:=Gl)).1
  have hrun:∀ M,LRun ⟨Ak Nk,Gl⟩ (OG M) (Xc a nm cy k I t lw cw qt kd th rg lc v n X f) (T5 a nm cy k I t lw cw qt kd th rg lc v n X f k):=λM=>by
   rw [Abo]
   exact Ae2 a nm cy k I t lw cw qt kd th rg lc v n X f M (of_decide_eq_true h3) k 0 _ (by omega)
  exact ⟨_,⟨Ak Nk,_,Gl⟩,_,hA,rfl,hc0,UT (k:=0) (r:=T5 a nm cy k I t lw cw qt kd th rg lc v n X f k) HS,w10 noL _ a nm cy k I t lw cw qt kd th rg lc v n X f (DI _) (DI _) (A4.2 λ_ _=>A4.2 λ_ _=>rfl) h1 h2 (Sw _ _ _) (A4.2 λ_ _=>rfl) (G3 _) h4 (Oi (hrun _)),A0.refl _⟩
 ·cases h
end Go.Proofs.YthlojajaenfidaaGreatDoor.Em
namespace Go.Proofs.YthlojajaenfidaaGreatDoor.Sh
open Go.Sy Ed
set_option maxHeartbeats 1000000
set_option maxRecDepth 4000
theorem Nz {a:Int} {n:Nat} {f:Nat->E6} (h:IsCycle a n f) {k:Nat} (hk:k < n):shG n (λi=>f ((k+i) % n)) = shG n f:=by
 have hlo:=h.lo
 have key:∀ i,i < n->Bc n (λi=>f ((k+i) % n)) i = Bc n f i:=λi hi=>TG (by omega) hk h.may hi
 have hq:shQ n (λi=>f ((k+i) % n)) = shQ n f:=by
  unfold shQ
  rw [J3 (p:=λi=>Ax (Bc n (λi=>f ((k+i) % n)) i)) (q:=λi=>Ax (Bc n f i)) λi hi=>by rw [key i hi]]
 funext i
 by_cases hi:i < n
 ·rw [Kd hi,Kd hi,hq]
  exact key _ (Nat.mod_lt _ (by omega))
 ·unfold shG AdT
  rw [decide_eq_false hi]
  rfl
end Go.Proofs.YthlojajaenfidaaGreatDoor.Sh
