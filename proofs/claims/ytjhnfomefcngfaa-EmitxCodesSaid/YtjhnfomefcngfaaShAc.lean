/-
  Layer 11: is code the same (function 47); the law EmitxCodes, as a function (11). No conditions.
-/
import Derived.Test.YtjhnfomefcngfaaShAb
import Derived.Test.YtjhnfomefcngfaaShQ
namespace Go.Proofs.Ytjhnfomefcngfaa.Sh
open Go.Sy Ed
open Int (ofNat)
set_option maxHeartbeats 1000000
set_option maxRecDepth 4000
def AhI:V->Bool
 | .agg [.val (.int .i64 _),.val (.int .i64 _),.val (.int .i64 c),.val (.int .i64 d),.val (.int .i64 _),.str _,.str m,.val (.int .i64 f)]=>Ak (ieq c 0) (Ak (ieq d 0) (Ak (seq m []) (ieq f 0)))
 | _=>false
def AlG:V->In4
 | .agg [.val (.int .i64 a),.val (.int .i64 b),.val (.int .i64 _),.val (.int .i64 _),.val (.int .i64 e),.str l,.str _,.val (.int .i64 _)]=>⟨a,b,e,l⟩
 | _=>⟨0,0,0,[]⟩
theorem X7 {v:V} (h:AhI v = true):v = inV (AlG v):=by
 unfold AhI at h
 split at h
 ·obtain ⟨h1,h⟩:=AR h
  obtain ⟨h2,h⟩:=AR h
  obtain ⟨h3,h4⟩:=AR h
  have h1:=BB h1
  have h2:=BB h2
  have h3:=eq_of_beq h3
  have h4:=BB h4
  subst h1 h2 h3 h4
  rfl
 ·cases h
def okK (v:V):Bool:=match Rn 8 v with
 | some (n,g)=>A5 n λi=>AhI (g i)
 | none=>false
def edK (v:V):Nat × (Nat->In4):=match Rn 8 v with
 | some (n,g)=>(n,λi=>AlG (g i))
 | none=>(0,λ_=>⟨0,0,0,[]⟩)
def AlN:Cod (Nat × (Nat->In4)):=⟨1,λp=>.sl 8 p.1 λi=>inV (p.2 i),okK,edK,λv h S w c hv=>by
 unfold okK at h
 unfold edK
 split at h
 ·rename_i n g hg
  have h:=A3.1 h
  exact Ot hg (λi hi S w cc hc=>by rw [<- X7 (h i hi)]; exact hc) hv
 ·cases h⟩
def XP (a b:In4):Bool:=Ak (ieq a.op b.op) (Ak (ieq a.d b.d) (Ak (ieq a.imm b.imm) (seq a.loc b.loc)))
def N6 (n:Nat) (ln:Nat->Nat) (c:Nat->Nat->In4) (m:Nat) (ln':Nat->Nat) (c':Nat->Nat->In4):Bool:=Ak (ieq (ofNat n) (ofNat m)) (A5 n λk=>Ak (ieq (ofNat (ln k)) (ofNat (ln' k))) (A5 (ln k) λj=>XP (c k j) (c' k j)))
def Q9:List V->T (V × List Blk)
 | [v,u]=>apG AlN v λn C=>apG AlN u λm D=>.br (Ag n) (.br (A5 n λi=>nlt (C i).1 40) (.br (N6 n (λi=>(C i).1) (λi=>(C i).2) m (λi=>(D i).1) (λi=>(D i).2)) (.leaf (bV true,[])) .fail) .fail) .fail
 | _=>.fail
def WE (n:Nat) (ln:Nat->Nat) (c:Nat->Nat->In4) (m:Nat) (ln':Nat->Nat) (c':Nat->Nat->In4) :St:=⟨(jsV 53 0 (λ_=>A9) [(0,(.sl 1 n (λu=>.sl 8 (ln u) (λi=>.agg [iV ((c u i)).op,iV ((c u i)).d,iV 0,iV 0,iV ((c u i)).imm,.str ((c u i)).loc,.str [],iV 0])))),(1,(.sl 1 m (λu=>.sl 8 (ln' u) (λi=>.agg [iV ((c' u i)).op,iV ((c' u i)).d,iV 0,iV 0,iV ((c' u i)).imm,.str ((c' u i)).loc,.str [],iV 0])))),(4,(bV false)),(5,(iV 0)),(7,(.sl 1 n (λu=>.sl 8 (ln u) (λi=>.agg [iV ((c u i)).op,iV ((c u i)).d,iV 0,iV 0,iV ((c u i)).imm,.str ((c u i)).loc,.str [],iV 0])))),(8,(nV n)),(9,(.sl 1 m (λu=>.sl 8 (ln' u) (λi=>.agg [iV ((c' u i)).op,iV ((c' u i)).d,iV 0,iV 0,iV ((c' u i)).imm,.str ((c' u i)).loc,.str [],iV 0])))),(10,(nV m)),(11,(bV (AG (ieq (ofNat n) (ofNat m)))))]),[]⟩
def QZ (n:Nat) (ln:Nat->Nat) (c:Nat->Nat->In4) (m:Nat) (ln':Nat->Nat) (c':Nat->Nat->In4):Lp:=⟨(bmK 53 0 [0,1,5]),0,bmK 53 0 [0,1],0,n+1⟩
def Xk (n:Nat) (ln:Nat->Nat) (c:Nat->Nat->In4) (m:Nat) (ln':Nat->Nat) (c':Nat->Nat->In4) (b:Nat) (j:Nat->V):St:=⟨(jsV 53 0 j [(0,.sl 1 n (λu=>.sl 8 (ln u) (λi=>inV (c u i)))),(1,.sl 1 m (λu=>.sl 8 (ln' u) (λi=>inV (c' u i)))),(5,nV b)]),[]⟩
def WO (n:Nat) (ln:Nat->Nat) (c:Nat->Nat->In4) (m:Nat) (ln':Nat->Nat) (c':Nat->Nat->In4) (b:Nat):Ex × St:=(.ex 0,⟨(jsV 53 0 (λ_=>.und) [(0,.sl 1 n (λu=>.sl 8 (ln u) (λi=>inV (c u i)))),(1,.sl 1 m (λu=>.sl 8 (ln' u) (λi=>inV (c' u i))))]),[]⟩)
noncomputable def OH (L:LT):St->T (Ex × St):=λst=>AC tab ⟨Am tb0,L,Gl⟩ (Au Try.f47 0) 0 st
theorem AjW (L:LT) (n:Nat) (ln:Nat->Nat) (c:Nat->Nat->In4) (m:Nat) (ln':Nat->Nat) (c':Nat->Nat->In4) (b:Nat)  (j:Nat->V) (h0:ilt (ofNat b) (ofNat n) = false):Ah (OH L) (QZ n ln c m ln' c') (Xk n ln c m ln' c' b j) = some ((.ex 0),⟨(jsV 53 0 (λ_=>.und) [(0,(.sl 1 n (λu=>(.sl 8 (ln u) (λi=>(.agg [(iV ((c u i)).op),(iV ((c u i)).d),(iV 0),(iV 0),(iV ((c u i)).imm),(.str ((c u i)).loc),(.str []),(iV 0)])))))),(1,(.sl 1 m (λu=>(.sl 8 (ln' u) (λi=>(.agg [(iV ((c' u i)).op),(iV ((c' u i)).d),(iV 0),(iV 0),(iV ((c' u i)).imm),(.str ((c' u i)).loc),(.str []),(iV 0)]))))))]),[]⟩):=by
 exact Aa (ks:=[kn h0]) (by kernel_rfl)
def J2 (n:Nat) (ln:Nat->Nat) (c:Nat->Nat->In4) (m:Nat) (ln':Nat->Nat) (c':Nat->Nat->In4):Lp:=⟨(bmK 53 0 [0,1,5,6]),0,bmK 53 0 [0,1,5],0,40⟩
def Q0 (n:Nat) (ln:Nat->Nat) (c:Nat->Nat->In4) (m:Nat) (ln':Nat->Nat) (c':Nat->Nat->In4) (b d:Nat) (j:Nat->V):St:=⟨(jsV 53 0 j [(0,.sl 1 n (λu=>.sl 8 (ln u) (λi=>inV (c u i)))),(1,.sl 1 m (λu=>.sl 8 (ln' u) (λi=>inV (c' u i)))),(5,nV b),(6,nV d)]),[]⟩
def MV (n:Nat) (ln:Nat->Nat) (c:Nat->Nat->In4) (m:Nat) (ln':Nat->Nat) (c':Nat->Nat->In4) (b d:Nat):Ex × St:=(.ex 2,⟨(jsV 53 0 (λ_=>.und) [(0,.sl 1 n (λu=>.sl 8 (ln u) (λi=>inV (c u i)))),(1,.sl 1 m (λu=>.sl 8 (ln' u) (λi=>inV (c' u i)))),(5,nV b)]),[]⟩)
noncomputable def Iq (L:LT):St->T (Ex × St):=λst=>AC tab ⟨Am tb0,L,Gl⟩ (Au Try.f47 2) 2 st
section
variable (L:LT) (n:Nat) (ln:Nat->Nat) (c:Nat->Nat->In4) (m:Nat) (ln':Nat->Nat) (c':Nat->Nat->In4) (b d:Nat)  (j:Nat->V)
include L n ln c m ln' c' b d j
theorem AjH (h24:Ak (ile 0 (ofNat b)) (ilt (ofNat b) (ofNat n)) = true) (h0:ilt (ofNat d) (ofNat (ln b)) = false):Ah (Iq L) (J2 n ln c m ln' c') (Q0 n ln c m ln' c' b d j) = some ((.ex 2),⟨(jsV 53 0 (λ_=>.und) [(0,(.sl 1 n (λu=>(.sl 8 (ln u) (λi=>(.agg [(iV ((c u i)).op),(iV ((c u i)).d),(iV 0),(iV 0),(iV ((c u i)).imm),(.str ((c u i)).loc),(.str []),(iV 0)])))))),(1,(.sl 1 m (λu=>(.sl 8 (ln' u) (λi=>(.agg [(iV ((c' u i)).op),(iV ((c' u i)).d),(iV 0),(iV 0),(iV ((c' u i)).imm),(.str ((c' u i)).loc),(.str []),(iV 0)])))))),(5,(nV b))]),[]⟩):=by
 exact Aa (ks:=[kn h24,kn h0]) (by kernel_rfl)
theorem AjG (h24:Ak (ile 0 (ofNat b)) (ilt (ofNat b) (ofNat n)) = true) (h0:ilt (ofNat d) (ofNat (ln b)) = true) (h25:ile 0 (ofNat d) = true) (h26:Ak (ile 0 (ofNat b)) (ilt (ofNat b) (ofNat m)) = true) (h27:Ak (ile 0 (ofNat d)) (ilt (ofNat d) (ofNat (ln' b))) = true) (h30:Ak (ieq ((c b d)).op ((c' b d)).op) (Ak (ieq ((c b d)).d ((c' b d)).d) (Ak (ieq 0 0) (Ak (ieq 0 0) (Ak (ieq ((c b d)).imm ((c' b d)).imm) (Ak (seq ((c b d)).loc ((c' b d)).loc) (Ak (seq [] []) (Ak (ieq 0 0) true))))))) = true):Ah (Iq L) (J2 n ln c m ln' c') (Q0 n ln c m ln' c' b d j) = some (.nm,⟨(jsV 53 0 (λ_=>.und) [(0,(.sl 1 n (λu=>(.sl 8 (ln u) (λi=>(.agg [(iV ((c u i)).op),(iV ((c u i)).d),(iV 0),(iV 0),(iV ((c u i)).imm),(.str ((c u i)).loc),(.str []),(iV 0)])))))),(1,(.sl 1 m (λu=>(.sl 8 (ln' u) (λi=>(.agg [(iV ((c' u i)).op),(iV ((c' u i)).d),(iV 0),(iV 0),(iV ((c' u i)).imm),(.str ((c' u i)).loc),(.str []),(iV 0)])))))),(5,(nV b)),(6,(iV (wr .i64 (Af (ofNat d) 1))))]),[]⟩):=by
 exact Aa (ks:=[kn h24,kn h0,kn h24,kA (kn h25) (kn h0),kn h26,kn h27,kN (kn h30)]) (by kernel_rfl)
end
def MQ (n:Nat) (ln:Nat->Nat) (c:Nat->Nat->In4) (m:Nat) (ln':Nat->Nat) (c':Nat->Nat->In4) (b:Nat) (j:Nat->V):St:=⟨(jsV 53 0 j [(0,(.sl 1 n (λu=>.sl 8 (ln u) (λi=>.agg [iV ((c u i)).op,iV ((c u i)).d,iV 0,iV 0,iV ((c u i)).imm,.str ((c u i)).loc,.str [],iV 0])))),(1,(.sl 1 m (λu=>.sl 8 (ln' u) (λi=>.agg [iV ((c' u i)).op,iV ((c' u i)).d,iV 0,iV 0,iV ((c' u i)).imm,.str ((c' u i)).loc,.str [],iV 0])))),(5,(nV b)),(6,(iV 0)),(12,(nV b)),(13,(.sl 1 n (λu=>.sl 8 (ln u) (λi=>.agg [iV ((c u i)).op,iV ((c u i)).d,iV 0,iV 0,iV ((c u i)).imm,.str ((c u i)).loc,.str [],iV 0])))),(14,(nV n)),(15,(bV (ilt (ofNat b) (ofNat n)))),(18,(.sl 1 n (λu=>.sl 8 (ln u) (λi=>.agg [iV ((c u i)).op,iV ((c u i)).d,iV 0,iV 0,iV ((c u i)).imm,.str ((c u i)).loc,.str [],iV 0])))),(19,(nV b)),(20,(.pp (.sl 8 (ln b) (λi=>.agg [iV ((c b i)).op,iV ((c b i)).d,iV 0,iV 0,iV ((c b i)).imm,.str ((c b i)).loc,.str [],iV 0])))),(21,(.sl 8 (ln b) (λi=>.agg [iV ((c b i)).op,iV ((c b i)).d,iV 0,iV 0,iV ((c b i)).imm,.str ((c b i)).loc,.str [],iV 0]))),(22,(iV (ofNat (ln b)))),(23,(.sl 1 m (λu=>.sl 8 (ln' u) (λi=>.agg [iV ((c' u i)).op,iV ((c' u i)).d,iV 0,iV 0,iV ((c' u i)).imm,.str ((c' u i)).loc,.str [],iV 0])))),(24,(nV b)),(25,(.pp (.sl 8 (ln' b) (λi=>.agg [iV ((c' b i)).op,iV ((c' b i)).d,iV 0,iV 0,iV ((c' b i)).imm,.str ((c' b i)).loc,.str [],iV 0])))),(26,(.sl 8 (ln' b) (λi=>.agg [iV ((c' b i)).op,iV ((c' b i)).d,iV 0,iV 0,iV ((c' b i)).imm,.str ((c' b i)).loc,.str [],iV 0]))),(27,(iV (ofNat (ln' b)))),(28,(bV (AG (ieq (ofNat (ln b)) (ofNat (ln' b))))))]),[]⟩
theorem AjV (L:LT) (p2:PT) (n:Nat) (ln:Nat->Nat) (c:Nat->Nat->In4) (m:Nat) (ln':Nat->Nat) (c':Nat->Nat->In4) (b:Nat) (j:Nat->V) (h0:ilt (ofNat b) (ofNat n) = true) (h24:ile 0 (ofNat b) = true) (h25:Ak (ile 0 (ofNat b)) (ilt (ofNat b) (ofNat m)) = true) (h1:ieq (ofNat (ln b)) (ofNat (ln' b)) = true) (hp2:p2 (Iq (onP 2 p2 (MV n ln c m ln' c' b 0) L)) (MQ n ln c m ln' c' b j) = true):Ah (OH (onP 2 p2 (MV n ln c m ln' c' b 0) L)) (QZ n ln c m ln' c') (Xk n ln c m ln' c' b j) = some (.nm,⟨(jsV 53 0 (λ_=>.und) [(0,(.sl 1 n (λu=>(.sl 8 (ln u) (λi=>(.agg [(iV ((c u i)).op),(iV ((c u i)).d),(iV 0),(iV 0),(iV ((c u i)).imm),(.str ((c u i)).loc),(.str []),(iV 0)])))))),(1,(.sl 1 m (λu=>(.sl 8 (ln' u) (λi=>(.agg [(iV ((c' u i)).op),(iV ((c' u i)).d),(iV 0),(iV 0),(iV ((c' u i)).imm),(.str ((c' u i)).loc),(.str []),(iV 0)])))))),(5,(iV (wr .i64 (Af (ofNat b) 1))))]),[]⟩):=by
 exact Aa (ks:=[kn h0,kA (kn h24) (kn h0),kn h25,kN (kn h1),kn hp2]) (by kernel_rfl)
theorem Am1 (L:LT) (p0:PT) (n:Nat) (ln:Nat->Nat) (c:Nat->Nat->In4) (m:Nat) (ln':Nat->Nat) (c':Nat->Nat->In4) (h0:ieq (ofNat n) (ofNat m) = true) (hp0:p0 (OH (onP 0 p0 (WO n ln c m ln' c' 0) L)) (WE n ln c m ln' c') = true):(Ar (Ai tab ⟨Am tb0,(onP 0 p0 (WO n ln c m ln' c' 0) L),Gl⟩ Try.f47 [.sl 1 n (λu=>.sl 8 (ln u) (λi=>inV (c u i))),.sl 1 m (λu=>.sl 8 (ln' u) (λi=>inV (c' u i)))] [])).sem = some ((bV true),[]):=by
 exact Aa (ks:=[kN (kn h0),kn hp0]) (by kernel_rfl)
theorem Vd (n:Nat) (ln:Nat->Nat) (c:Nat->Nat->In4) (m:Nat) (ln':Nat->Nat) (c':Nat->Nat->In4) (b:Nat) (j:Nat->V):MQ n ln c m ln' c' b j = Q0 n ln c m ln' c' b 0 (λi=>nth (MQ n ln c m ln' c' b j).t i):=by kernel_rfl
theorem Aa7 (n:Nat) (ln:Nat->Nat) (c:Nat->Nat->In4) (m:Nat) (ln':Nat->Nat) (c':Nat->Nat->In4):WE n ln c m ln' c' = Xk n ln c m ln' c' 0 (λi=>nth (WE n ln c m ln' c').t i):=by kernel_rfl
theorem Zj (L:LT) (n:Nat) (ln:Nat->Nat) (c:Nat->Nat->In4) (m:Nat) (ln':Nat->Nat) (c':Nat->Nat->In4) {b:Nat} (hb:b < n) (hbm:b < m) (h40:ln b < 40) (hl:ln b = ln' b) (he:∀ j,j < ln b->XP (c b j) (c' b j) = true):∀ (e d:Nat) (j:Nat->V) (u:Nat),ln b = d+e->e < u ->
  (A4 (Iq L) (J2 n ln c m ln' c') u (Q0 n ln c m ln' c' b d j)).sem = some (MV n ln c m ln' c' b 0)
 | 0,d,j,u+1,h,_=>by
  have:d = ln b:=by omega
  subst this
  exact Ab (AjH L n ln c m ln' c' b (ln b) j (Ap hb) (A6 (Nat.le_refl _)))
 | e+1,d,j,u+1,h,h2=>by
  have hd:d < ln b:=by omega
  have next:=Zj L n ln c m ln' c' hb hbm h40 hl he e (d+1) (λ_=>.und) u (by omega) (by omega)
  have hx:=he d hd
  have hq:Ak (ieq (c b d).op (c' b d).op) (Ak (ieq (c b d).d (c' b d).d) (Ak (ieq 0 0) (Ak (ieq 0 0) (Ak (ieq (c b d).imm (c' b d).imm) (Ak (seq (c b d).loc (c' b d).loc) (Ak (seq [] []) (Ak (ieq 0 0) true))))))) = true:=by
   unfold XP at hx
   obtain ⟨q1,hx⟩:=AR hx
   obtain ⟨q2,hx⟩:=AR hx
   obtain ⟨q3,q4⟩:=AR hx
   rw [q1,q2,q3,q4]
   rfl
  rw [Ab (AjG L n ln c m ln' c' b d j (Ap hb) (ofNat_lt hd) (AF _) (Ap hbm) (by rw [<- hl]; exact Ap hd) hq),Aq,Ao hd (by omega)]
  exact next
theorem Aee (M:LT) (hMM:LLe M M) (n:Nat) (ln:Nat->Nat) (c:Nat->Nat->In4) (m:Nat) (ln':Nat->Nat) (c':Nat->Nat->In4) (m2:∀ g' st,M 2 g' st = A4 g' (J2 n ln c m ln' c') 40 st) (hn:n <= 4611686018427387904) (hnm:n = m) (hs:∀ b,b < n->ln b < 40 ∧ ln b = ln' b ∧ ∀ j,j < ln b->XP (c b j) (c' b j) = true):∀ (e b:Nat) (j:Nat->V) (u:Nat),n = b+e->e < u ->
  (A4 (OH M) (QZ n ln c m ln' c') u (Xk n ln c m ln' c' b j)).sem = some (WO n ln c m ln' c' 0)
 | 0,b,j,u+1,h,_=>by
  have:b = n:=by omega
  subst this
  exact Ab (AjW M b ln c m ln' c' b j (A6 (Nat.le_refl _)))
 | e+1,b,j,u+1,h,h2=>by
  have hb:b < n:=by omega
  obtain ⟨h40,hl,he⟩:=hs b hb
  have next:=Aee M hMM n ln c m ln' c' m2 hn hnm hs e (b+1) (λ_=>.und) u (by omega) (by omega)
  have hi:∀ M',(M 2 (Iq M') (MQ n ln c m ln' c' b j)).sem = some (MV n ln c m ln' c' b 0):=λM'=>by
   rw [m2,Vd]
   exact Zj M' n ln c m ln' c' hb (by omega) h40 hl he (ln b) 0 _ 40 (by omega) (by omega)
  have h3:=AjV M _ n ln c m ln' c' b j (ofNat_lt hb) (AF _) (Ap (by omega)) (AhY (congrArg ofNat hl)) (Aj (hi _))
  have h4:Ah (OH M) (QZ n ln c m ln' c') (Xk n ln c m ln' c' b j) = _:=CB (l:=QZ n ln c m ln' c') (D5 (Γ:=⟨Am tb0,M,Gl⟩) (As hMM hMM) (Au Try.f47 0) 0 (Xk n ln c m ln' c' b j)) h3
  rw [Ab h4,Aq,Ao hb hn]
  exact next
theorem Anm:A7 Try.prog Gl 47 Q9:=by
 refine Av AL AN Try.func47 (by kernel_rfl) (by kernel_rfl) λvs v h' h=>?_
 unfold Q9 at h
 split at h
 ·rename_i v1 u1
  obtain ⟨n,C,a1,h⟩:=BJ h
  obtain ⟨m,D,a2,h⟩:=BJ h
  obtain ⟨hn,h⟩:=Ad h
  obtain ⟨h40,h⟩:=Ad h
  obtain ⟨hsm,h⟩:=Ad h
  have:=Ac h
  simp only [Prod.mk.injEq] at this
  obtain ⟨rfl,rfl⟩:=this
  obtain ⟨ln,c,hC⟩:∃ (ln:Nat->Nat) (c:Nat->Nat->In4),C = λu=>(ln u,c u):=⟨λu=>(C u).1,λu=>(C u).2,rfl⟩
  subst hC
  obtain ⟨ln',c',hD⟩:∃ (ln:Nat->Nat) (c:Nat->Nat->In4),D = λu=>(ln u,c u):=⟨λu=>(D u).1,λu=>(D u).2,rfl⟩
  subst hD
  have hA:Bp [v1,u1] [.sl 1 n (λu=>.sl 8 (ln u) (λi=>inV (c u i))),.sl 1 m (λu=>.sl 8 (ln' u) (λi=>inV (c' u i)))]:=λS w cs hv=>by
   obtain ⟨c1,l,rfl,q1,c2,l2,rfl,q2,q3⟩:=hv
   exact ⟨c1,_,rfl,a1 S w c1 q1,c2,_,rfl,a2 S w c2 q2,q3⟩
  obtain ⟨e1,e2⟩:=AR hsm
  have hnm:n = m:=Int.ofNat.inj (BB e1)
  have hs:∀ b,b < n->ln b < 40 ∧ ln b = ln' b ∧ ∀ j,j < ln b->XP (c b j) (c' b j) = true:=λb hb=>by
   obtain ⟨f1,f2⟩:=AR (A3.1 e2 b hb)
   exact ⟨of_decide_eq_true (A3.1 h40 b hb),Int.ofNat.inj (BB f1),λj hj=>A3.1 f2 j hj⟩
  have hx:=AO C9 [(0,QZ n ln c m ln' c'),(2,J2 n ln c m ln' c')] (G:=Gl)
  have hL:=AE [(0,QZ n ln c m ln' c'),(2,J2 n ln c m ln' c')]
  refine ⟨_,AI Gl tb0 [(0,QZ n ln c m ln' c'),(2,J2 n ln c m ln' c')],_,hA,rfl,hx.1,hx.2,?_,A8.refl _⟩
  have hQ:=As (k:=0) (r:=WO n ln c m ln' c' 0) hL hL
  refine A2 hQ _ (Am1 _ _ n ln c m ln' c' e1 (Aj ?_))
  show (A4 _ (QZ n ln c m ln' c') (n+1) (WE n ln c m ln' c')).sem = _
  rw [Aa7]
  exact Aee _ (LD hL hL 0 _) n ln c m ln' c' (λg st=>rfl) (of_decide_eq_true hn) hnm hs n 0 _ (n+1) (by omega) (by omega)
 ·cases h
noncomputable def Acd:List (Nat × (List V->T (V × List Blk))):=[(32,AaX),(42,codeT),(44,codeT),(45,P4),(46,P4),(47,Q9),(40,Abw),(16,Jx),(43,Yz (bV true))]
theorem Acc:AA Try.prog Gl Acd:=.cons p32 <| .cons p42 <| .cons p44 <| .cons p45 <| .cons Ann <| .cons Anm <| .cons p55 <| .cons p16 <| .cons p43 .nil
section
variable (L:LT) (a:Int) (n:Nat) (g:Nat->E6) (m:Nat) (x:Nat->Ev5) (t k:Int) (p:Nat) (r:Nat->Int) (q:Nat) (ln:Nat->Nat) (co:Nat->Nat->Int)
include L a n g m x t k p r q ln co
theorem AmR (h26:A5 q (λi=>(A5 (ln i) (λ_=>true))) = true) (h27:AY 0 n 40 = true) (h28:AY 0 m 40 = true) (h29:AY 0 p 8 = true) (h30:AY 0 q 24 = true) (h31:A5 q (λi=>(AY 0 (ln i) 8)) = true) (h32:AX [(.cells (shL a n g m x t k p r q ln co)),(.row 44 6 n (λi=>(eV (g i)))),(.row 40 5 m (λi=>(evV (x i)))),(.row 3 1 p (λi=>(iV (r i)))),(.jag (Jag.mk 25 1 q (λ_=>.und) 0 3 1 (λ_=>true) ln (λi j=>(iV (co i j))))),(.cells [(iV a),(.ref 1),(.ref 2),(iV t),(iV k),(.ref 3),(.jref 4)])] = true) (h33:Bj n = true) (h34:Ag n = true) (h35:Ag m = true) (h36:Ag p = true) (h37:Ag q = true) (h38:A5 q (λi=>(Ag (ln i))) = true) (h39:ieq (Bf a n g m x t k p r q ln (λi i_1=>(co i i_1))) 0 = false) (h40:Bn [(.jag (Jag.mk 64 1 0 (λ_=>.und) 0 66 8 (λ_=>true) (λ_=>0) (λ_ _=>.und)))] = true) (h41:AX [(.cells (shL a n g m x t k p r q ln co)),(.row 44 6 n (λi=>(eV (g i)))),(.row 40 5 m (λi=>(evV (x i)))),(.row 3 1 p (λi=>(iV (r i)))),(.jag (Jag.mk 25 1 q (λ_=>.und) 0 3 1 (λ_=>true) ln (λi j=>(iV (co i j))))),(.cells [(iV a),(.ref 1),(.ref 2),(iV t),(iV k),(.ref 3),(.jref 4)]),(.jag (Jag.mk 64 1 0 (λ_=>.und) 0 66 8 (λ_=>true) (λ_=>0) (λ_ _=>.und))),(.jag (Jag.mk 64 1 0 (λ_=>.und) 0 66 8 (λ_=>true) (λ_=>0) (λ_ _=>.und)))] = true) (h42:Bn [r3Z] = true) (h43:AX [(.cells (shL a n g m x t k p r q ln co)),(.row 44 6 n (λi=>(eV (g i)))),(.row 40 5 m (λi=>(evV (x i)))),(.row 3 1 p (λi=>(iV (r i)))),(.jag (Jag.mk 25 1 q (λ_=>.und) 0 3 1 (λ_=>true) ln (λi j=>(iV (co i j))))),(.cells [(iV a),(.ref 1),(.ref 2),(iV t),(iV k),(.ref 3),(.jref 4)]),(.jag (Jag.mk 64 1 0 (λ_=>.und) 0 66 8 (λ_=>true) (λ_=>0) (λ_ _=>.und))),(.jag (Jag.mk 64 1 0 (λ_=>.und) 0 66 8 (λ_=>true) (λ_=>0) (λ_ _=>.und))),r3Z,r3Z] = true) (h44:A5 0 (λ_=>(A5 0 (λ_=>false))) = true) (h45:Ag 0 = true) (h46:A5 0 (λ_=>(nlt 0 40)) = true) (h47:N6 0 (λ_=>0) (λ_ _=>(In4.mk 0 0 0 [])) 0 (λ_=>0) (λ_ _=>(In4.mk 0 0 0 [])) = true) (h48:A5 0 (λ_=>false) = true) (h49:ieq (R5 0 (λ_=>0) 0 (λ_=>0)) 0 = true) (h52:Ak (ieq k k) (Ak (BG n g n g) (Ak (ieq (ofNat m) (ofNat m)) (Ak (B3 p r p r) (Ak (CA q ln (λi i_1=>(co i i_1)) q ln (λi i_1=>(co i i_1))) (A5 m (λk=>(CR (x k) (x k)))))))) = true):(Ar (Ai tab ⟨Am Acd,L,Gl⟩ Try.f11 [.agg (shL a n g m x t k p r q ln co)] [])).sem = some ((bV true),[]):=by
 exact Aa (ks:=[kL n,kL m,kL p,kn h26,kA (kn h27) (kA (kn h28) (kA (kn h29) (kA (kn h30) (kn h31)))),kn h32,kL n,kL m,kL p,kn h26,kn h33,kA (kn h34) (kA (kn h35) (kA (kn h36) (kA (kn h37) (kn h38)))),kn h39,kn h40,kL n,kL m,kL p,kn h26,kn h33,kA (kn h34) (kA (kn h35) (kA (kn h36) (kA (kn h37) (kn h38)))),kn h39,kn h41,kL n,kL m,kL p,kn h26,kn h33,kA (kn h34) (kA (kn h35) (kA (kn h36) (kA (kn h37) (kn h38)))),kn h39,kn h42,kL n,kL m,kL p,kn h26,kn h33,kA (kn h34) (kA (kn h35) (kA (kn h36) (kA (kn h37) (kn h38)))),kn h39,kn h43,kn h44,kn h44,kn h45,kn h46,kn h47,kT,kT,kT,kT,kI (Bf a n g m x t k p r q ln (λi i_1=>(co i i_1))),kI (Bf a n g m x t k p r q ln (λi i_1=>(co i i_1))),kI (Bf a n g m x t k p r q ln (λi i_1=>(co i i_1))),kn h43,kn h48,kn h48,kn h45,kn h45,kI (Bf a n g m x t k p r q ln (λi i_1=>(co i i_1))),kn h49,kn h49,kn h49,kn h49,kI (Bf a n g m x t k p r q ln (λi i_1=>(co i i_1))),kI (Bf a n g m x t k p r q ln (λi i_1=>(co i i_1))),kI (Bf a n g m x t k p r q ln (λi i_1=>(co i i_1))),kn h43,kL n,kL m,kL p,kn h26,kL n,kL m,kL p,kn h26,kA (kn h34) (kA (kn h35) (kA (kn h36) (kA (kn h37) (kn h38)))),kI (Bf a n g m x t k p r q ln (λi i_1=>(co i i_1))),kA (kI a) (kA (kI t) (kn h52)),kA (kI a) (kA (kI t) (kn h52))]) (by kernel_rfl)
theorem AmQ (h26:A5 q (λi=>(A5 (ln i) (λ_=>true))) = true) (h27:AY 0 n 40 = true) (h28:AY 0 m 40 = true) (h29:AY 0 p 8 = true) (h30:AY 0 q 24 = true) (h31:A5 q (λi=>(AY 0 (ln i) 8)) = true) (h32:AX [(.cells (shL a n g m x t k p r q ln co)),(.row 44 6 n (λi=>(eV (g i)))),(.row 40 5 m (λi=>(evV (x i)))),(.row 3 1 p (λi=>(iV (r i)))),(.jag (Jag.mk 25 1 q (λ_=>.und) 0 3 1 (λ_=>true) ln (λi j=>(iV (co i j))))),(.cells [(iV a),(.ref 1),(.ref 2),(iV t),(iV k),(.ref 3),(.jref 4)])] = true) (h33:Bj n = true) (h34:Ag n = true) (h35:Ag m = true) (h36:Ag p = true) (h37:Ag q = true) (h38:A5 q (λi=>(Ag (ln i))) = true) (h39:ieq (Bf a n g m x t k p r q ln (λi i_1=>(co i i_1))) 0 = true) (h40:wrX a n g m x t k p r q ln (λi i_1=>(co i i_1)) = true) (h41:Bn [(.jag (Jag.mk 64 1 (toN t) (λ_=>.und) 0 66 8 (λ_=>true) (lwX a n g m x t k p r q ln (λi i_1=>(co i i_1))) (λu j=>(.agg [(iV ((cwX a n g m x t k p r q ln (λi i_1=>(co i i_1)) u j)).op),(iV ((cwX a n g m x t k p r q ln (λi i_1=>(co i i_1)) u j)).d),(iV 0),(iV 0),(iV ((cwX a n g m x t k p r q ln (λi i_1=>(co i i_1)) u j)).imm),(.str ((cwX a n g m x t k p r q ln (λi i_1=>(co i i_1)) u j)).loc),(.str []),(iV 0)]))))] = true) (h42:AX [(.cells (shL a n g m x t k p r q ln co)),(.row 44 6 n (λi=>(eV (g i)))),(.row 40 5 m (λi=>(evV (x i)))),(.row 3 1 p (λi=>(iV (r i)))),(.jag (Jag.mk 25 1 q (λ_=>.und) 0 3 1 (λ_=>true) ln (λi j=>(iV (co i j))))),(.cells [(iV a),(.ref 1),(.ref 2),(iV t),(iV k),(.ref 3),(.jref 4)]),(.jag (Jag.mk 64 1 (toN t) (λ_=>.und) 0 66 8 (λ_=>true) (lwX a n g m x t k p r q ln (λi i_1=>(co i i_1))) (λu j=>(.agg [(iV ((cwX a n g m x t k p r q ln (λi i_1=>(co i i_1)) u j)).op),(iV ((cwX a n g m x t k p r q ln (λi i_1=>(co i i_1)) u j)).d),(iV 0),(iV 0),(iV ((cwX a n g m x t k p r q ln (λi i_1=>(co i i_1)) u j)).imm),(.str ((cwX a n g m x t k p r q ln (λi i_1=>(co i i_1)) u j)).loc),(.str []),(iV 0)])))),(.jag (Jag.mk 64 1 (toN t) (λ_=>.und) 0 66 8 (λ_=>true) (lwX a n g m x t k p r q ln (λi i_1=>(co i i_1))) (λu j=>(.agg [(iV ((cwX a n g m x t k p r q ln (λi i_1=>(co i i_1)) u j)).op),(iV ((cwX a n g m x t k p r q ln (λi i_1=>(co i i_1)) u j)).d),(iV 0),(iV 0),(iV ((cwX a n g m x t k p r q ln (λi i_1=>(co i i_1)) u j)).imm),(.str ((cwX a n g m x t k p r q ln (λi i_1=>(co i i_1)) u j)).loc),(.str []),(iV 0)]))))] = true) (h43:Bn [(.row 3 1 m (λi=>(iV (yyX a n g m x t k p r q ln (λi i_1=>(co i i_1)) i))))] = true) (h44:AX [(.cells (shL a n g m x t k p r q ln co)),(.row 44 6 n (λi=>(eV (g i)))),(.row 40 5 m (λi=>(evV (x i)))),(.row 3 1 p (λi=>(iV (r i)))),(.jag (Jag.mk 25 1 q (λ_=>.und) 0 3 1 (λ_=>true) ln (λi j=>(iV (co i j))))),(.cells [(iV a),(.ref 1),(.ref 2),(iV t),(iV k),(.ref 3),(.jref 4)]),(.jag (Jag.mk 64 1 (toN t) (λ_=>.und) 0 66 8 (λ_=>true) (lwX a n g m x t k p r q ln (λi i_1=>(co i i_1))) (λu j=>(.agg [(iV ((cwX a n g m x t k p r q ln (λi i_1=>(co i i_1)) u j)).op),(iV ((cwX a n g m x t k p r q ln (λi i_1=>(co i i_1)) u j)).d),(iV 0),(iV 0),(iV ((cwX a n g m x t k p r q ln (λi i_1=>(co i i_1)) u j)).imm),(.str ((cwX a n g m x t k p r q ln (λi i_1=>(co i i_1)) u j)).loc),(.str []),(iV 0)])))),(.jag (Jag.mk 64 1 (toN t) (λ_=>.und) 0 66 8 (λ_=>true) (lwX a n g m x t k p r q ln (λi i_1=>(co i i_1))) (λu j=>(.agg [(iV ((cwX a n g m x t k p r q ln (λi i_1=>(co i i_1)) u j)).op),(iV ((cwX a n g m x t k p r q ln (λi i_1=>(co i i_1)) u j)).d),(iV 0),(iV 0),(iV ((cwX a n g m x t k p r q ln (λi i_1=>(co i i_1)) u j)).imm),(.str ((cwX a n g m x t k p r q ln (λi i_1=>(co i i_1)) u j)).loc),(.str []),(iV 0)])))),(.row 3 1 m (λi=>(iV (yyX a n g m x t k p r q ln (λi i_1=>(co i i_1)) i)))),(.row 3 1 m (λi=>(iV (yyX a n g m x t k p r q ln (λi i_1=>(co i i_1)) i))))] = true) (h45:A5 (toN t) (λi=>(A5 (lwX a n g m x t k p r q ln (λi i_1=>(co i i_1)) i) (λ_=>(Ak (ieq 0 0) (Ak (ieq 0 0) (Ak (seq [] []) (ieq 0 0))))))) = true) (h46:Ag (toN t) = true) (h47:A5 (toN t) (λi=>(nlt (lwX a n g m x t k p r q ln (λi i_1=>(co i i_1)) i) 40)) = true) (h48:N6 (toN t) (lwX a n g m x t k p r q ln (λi i_1=>(co i i_1))) (λi i_1=>(cwX a n g m x t k p r q ln (λi i_2=>(co i i_2)) i i_1)) (toN t) (lwX a n g m x t k p r q ln (λi i_1=>(co i i_1))) (λi i_1=>(cwX a n g m x t k p r q ln (λi i_2=>(co i i_2)) i i_1)) = true) (h49:ieq (R5 m (yyX a n g m x t k p r q ln (λi i_1=>(co i i_1))) m (yyX a n g m x t k p r q ln (λi i_1=>(co i i_1)))) 0 = true) (h52:Ak (ieq k k) (Ak (BG n g n g) (Ak (ieq (ofNat m) (ofNat m)) (Ak (B3 p r p r) (Ak (CA q ln (λi i_1=>(co i i_1)) q ln (λi i_1=>(co i i_1))) (A5 m (λk=>(CR (x k) (x k)))))))) = true):(Ar (Ai tab ⟨Am Acd,L,Gl⟩ Try.f11 [.agg (shL a n g m x t k p r q ln co)] [])).sem = some ((bV true),[]):=by
 exact Aa (ks:=[kL n,kL m,kL p,kn h26,kA (kn h27) (kA (kn h28) (kA (kn h29) (kA (kn h30) (kn h31)))),kn h32,kL n,kL m,kL p,kn h26,kn h33,kA (kn h34) (kA (kn h35) (kA (kn h36) (kA (kn h37) (kn h38)))),kn h39,kn h40,kn h41,kL n,kL m,kL p,kn h26,kn h33,kA (kn h34) (kA (kn h35) (kA (kn h36) (kA (kn h37) (kn h38)))),kn h39,kn h40,kn h42,kL n,kL m,kL p,kn h26,kn h33,kA (kn h34) (kA (kn h35) (kA (kn h36) (kA (kn h37) (kn h38)))),kn h39,kn h40,kn h43,kL n,kL m,kL p,kn h26,kn h33,kA (kn h34) (kA (kn h35) (kA (kn h36) (kA (kn h37) (kn h38)))),kn h39,kn h40,kn h44,kn h45,kn h45,kn h46,kn h47,kn h48,kT,kT,kT,kT,kI 0,kI 0,kI 0,kn h44,kL m,kL m,kn h35,kn h35,kI 0,kn h49,kn h49,kn h49,kn h49,kI 0,kI 0,kI 0,kn h44,kL n,kL m,kL p,kn h26,kL n,kL m,kL p,kn h26,kA (kn h34) (kA (kn h35) (kA (kn h36) (kA (kn h37) (kn h38)))),kI 0,kA (kI a) (kA (kI t) (kn h52)),kA (kI a) (kA (kI t) (kn h52))]) (by kernel_rfl)
end
theorem N5 (n:Nat) (ln:Nat->Nat) (c:Nat->Nat->In4):N6 n ln c n ln c = true:=by
 unfold N6
 rw [Bg (CM _)]
 refine A3.2 λk _=>?_
 rw [Bg (CM _)]
 refine A3.2 λj _=>?_
 unfold XP
 rw [Bg (CM _),Bg (CM _),Bg (CM _)]
 unfold seq
 simp
theorem Ai3 {s:Sh7} (H:IsSh s):wrB s = true:=by
 have hnx:=H.nx
 have hhi:=H.cyc.hi
 have htt:=H.tt
 have ht:ttN s.ne (shG s.ne s.E) <= s.ne:=Be _ _
 unfold wrB
 rw [htt]
 refine (Bg (Nat.ble_eq_true_of_le (by omega))).trans <| (Bg (Nat.ble_eq_true_of_le (show toN (ofNat (ttN s.ne (shG s.ne s.E))) <= 16 from Nat.le_trans ht hhi))).trans <| (Bg (CM _)).trans <| (Bg (A3.2 λb hb=>?_)).trans (A3.2 λb hb=>?_)
 ·obtain ⟨h1,h2⟩:=Qm H hb
  rw [h1]
  exact Ap h2
 ·rw [hnx]
  exact decide_eq_true (Nat.mod_lt _ (by omega))
def Wx:List V->T (V × List Blk)
 | [v]=>apS v λs=>.br (Rs s) (out (bV true)) .fail
 | _=>.fail
theorem XG {s:Sh7} (h:Rs s = true):(Wx [Q5 s]).sem = some (bV true,[]):=by
 show (apS (Q5 s) λs=>T.br (Rs s) (out (bV true)) .fail).sem = _
 rw [AdG]
 simp only [h]
 rfl
theorem p11:A7 Try.prog Gl 11 Wx:=by
 refine Av AL AN Try.func11 (by kernel_rfl) (by kernel_rfl) λvs v h' h=>?_
 unfold Wx at h
 split at h
 ·rename_i v1
  obtain ⟨s,a1,h⟩:=BI h
  obtain ⟨hf,h⟩:=Ad h
  have:=Ac h
  simp only [Prod.mk.injEq] at this
  obtain ⟨rfl,rfl⟩:=this
  obtain ⟨a,n,g,m,x,t,k,p,r,q,C⟩:=s
  have hA:Bp [v1] [.agg [iV a,.sl 6 n (λi=>eV (g i)),.sl 5 m (λi=>evV (x i)),iV t,iV k,.sl 1 p (λi=>iV (r i)),.sl 1 q (λu=>.sl 1 (C u).1 (λi=>iV ((C u).2 i)))]]:=λS w cs hv=>by
   obtain ⟨c,l,rfl,q1,q2⟩:=hv
   exact ⟨c,_,rfl,a1 S w c q1,q2⟩
  obtain ⟨f1,f2,f3,f4,f5⟩:=AlA hf
  have n1:=Iv f1 (by omega)
  have n2:=Iv f2 (by omega)
  have n3:=Iv f3 (by omega)
  have n4:=Iv f4 (by omega)
  have n5:(A5 q λi=>Ag (C i).1) = true:=A3.2 λi hi=>Iv (A3.1 f5 i hi) (by omega)
  have h1:Bj n = true:=decide_eq_true (AlS f1)
  have hx:=AO Acc [] (G:=Gl)
  have hsame:Ak (ieq k k) (Ak (BG n g n g) (Ak (ieq (ofNat m) (ofNat m)) (Ak (B3 p r p r) (Ak (CA q (λu=>(C u).1) (λu=>(C u).2) q (λu=>(C u).1) (λu=>(C u).2)) (A5 m λk=>CR (x k) (x k)))))) = true :=
   (Bg (CM _)).trans <| (Bg (Xu _ _)).trans <| (Bg (CM _)).trans <| (Bg (P0 _ _)).trans <| (Bg (Xt _ _ _)).trans (A3.2 λ_ _=>Xr _)
  refine ⟨_,AI Gl Acd [],_,hA,rfl,hx.1,hx.2,?_,A8.refl _⟩
  cases hc:ieq (Bf a n g m x t k p r q (λu=>(C u).1) (λu=>(C u).2)) 0 with
  | false=>exact AmR _ a n g m x t k p r q (λu=>(C u).1) (λu=>(C u).2) (C4 () ()) f1 f2 f3 f4 f5 (by simp [AX]) h1 n1 n2 n3 n4 n5 hc Yh (by simp [AX]) Pa (by simp [AX]) rfl rfl rfl (N5 _ _ _) rfl (TD λ_ _=>rfl) hsame
  | true =>
   have hs:=Kc a n g m x t k p r q (λu=>(C u).1) (λu=>(C u).2) hc
   have hw:wrX a n g m x t k p r q (λu=>(C u).1) (λu=>(C u).2) = true:=Ai3 hs
   have hm:m = n:=hs.nx
   have m16:m <= 16:=by rw [hm]; exact hs.cyc.hi
   have ht:toN t <= 16:=by
    have h2:t = ofNat (ttN n (shG n g)):=hs.tt
    rw [h2]
    exact Nat.le_trans (Be _ _) (by omega)
   have h39:(A5 (toN t) λi=>nlt (lwX a n g m x t k p r q (λu=>(C u).1) (λu=>(C u).2) i) 40) = true:=A3.2 λi _=>decide_eq_true (by
    have:=TQ (feF g m) x i m
    show (wsF (feF g m) x m).lw i < 40
    omega)
   exact AmQ _ a n g m x t k p r q (λu=>(C u).1) (λu=>(C u).2) (C4 () ()) f1 f2 f3 f4 f5 (by simp [AX]) h1 n1 n2 n3 n4 n5 hc hw (Abr _ _ _) (by simp [AX]) AdF (by simp [AX]) (A3.2 λ_ _=>A3.2 λ_ _=>rfl) (YS ht) h39 (N5 _ _ _) (TD λ_ _=>rfl) hsame
 ·cases h
end Go.Proofs.Ytjhnfomefcngfaa.Sh
