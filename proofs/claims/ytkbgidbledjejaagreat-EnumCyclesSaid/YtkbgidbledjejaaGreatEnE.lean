/-
  Marked, Grown, Heaped: of edges and of numbers. No conditions.
-/
import Derived.Test.YtkbgidbledjejaaGreatCyT
import Derived.Test.YtkbgidbledjejaaGreatEdC
import Derived.Test.YtkbgidbledjejaaGreatEdO
namespace Go.Proofs.YtkbgidbledjejaaGreat.Ed
open Go.Sy Go
open Int (ofNat)
theorem Pk {τ:List Ty} {call:FuncId->List V->St->T (V×Res)} {G:Nat->V} {fn:Func} {vs:List V} {H:List Blk} {L L':LT}
  (h:LLe L L'):TLe (Ar τ ⟨call,L,G⟩ fn vs H) (Ar τ ⟨call,L',G⟩ fn vs H):=by
 unfold Ar;cases fn.body with
 | none=>exact TLe.refl _
 | some c=>exact TLe.bind (Mm (Γ:=⟨call,L,G⟩) h c 0 _) λ_=>TLe.refl _
noncomputable def tb43:AG:=(31,Sx)::[]
theorem tb43_ok:Al Tryz.prog Gl tb43:=.cons p85 .nil
theorem Gu {i k:Nat} (h:i ≠ k):Nat.beq i k=false:=by
 cases hb:Nat.beq i k
 ·rfl
 ·exact absurd (Nat.eq_of_beq_eq_true hb) h
def Tm {α:Type} (z:Nat->α) (i:Nat) (e:α):Nat->α:=λk=>bif Nat.beq k i then e else z k
def Ij {α:Type} (y:Nat->α) (e:α):Nat->Nat->α
 | 0=>y
 | i+1=>Tm (Ij y e i) i e
theorem Wk {α:Type} (y:Nat->α) (e:α):∀ i j,j<i->Ij y e i j=e
 | i+1,j,h=>by
  show (bif Nat.beq j i then e else Ij y e i j)=e;by_cases hj:j=i
  ·rw [hj,Nat.beq_refl]; rfl
  ·rw [Gu hj]; exact Wk y e i j (by omega)
theorem Xe (z:Nat->E6) (i:Nat) (e:E6):BD (λk=>eV (z k)) i (eV e)=λk=>eV (Tm z i e k):=by
 funext k;rw [D7];unfold Tm;cases Nat.beq k i <;> rfl
theorem Ajr (z:Nat->Int) (i:Nat) (e:Int):BD (λk=>iV (z k)) i (iV e)=λk=>iV (Tm z i e k):=by
 funext k;rw [D7];unfold Tm;cases Nat.beq k i <;> rfl
def Sj (g:Nat->V) (n:Nat) (e:V):Nat->Nat->V
 | 0=>g
 | i+1=>AC (n+i) (Sj g n e i) e
theorem Mc (i:Nat):ile 0 (ofNat i)=true:=decide_eq_true (Int.natCast_nonneg i)
def Z3 (n:Nat) (y:Nat->E6) (k:Int) :St:=⟨jsV 17 0 (λ_=>A7) [(0,.ref 0),(1,iV k),(4,iV 0)],[.xrow false 46 6 n (λi=>eV (y i))]⟩
def lp43 (n:Nat) (y:Nat->E6) (k:Int):Lp:=⟨bmK 17 0 [0,1,4],1,bmK 17 0 [],1,n+1⟩
def st43 (n:Nat) (y:Nat->E6) (k:Int) (i:Nat) (z:Nat->E6) (j:Nat->V):St:=⟨jsV 17 0 j [(0,.ref 0),(1,iV k),(4,nV i)],[.xrow false 46 6 n (λi=>eV (z i))]⟩
def Z9 (n:Nat) (y:Nat->E6) (k:Int) (i:Nat) (z:Nat->E6):Ex×St:=(.ex 0,⟨jsV 17 0 Ac [],[.xrow false 46 6 n (λi=>eV (z i))]⟩)
noncomputable def body43 (L:LT):St->T (Ex×St):=λst=>A6 tab ⟨A5 tb43,L,Gl⟩ (Aw Tryz.f14 0) 0 st
section
variable (L:LT) (n:Nat) (y:Nat->E6) (k:Int) (i:Nat) (z:Nat->E6)  (j:Nat->V)
include L n y k i z j
theorem AmU (h0:ilt (ofNat i) (ofNat n)=false):Am (body43 L) (lp43 n y k) (st43 n y k i z j)=some ((.ex 0),⟨jsV 17 0 Ac [],[.xrow false 46 6 n (λi=>eV (z i))]⟩):=by
 exact Ag (ks:=[kn h0]) (by kernel_rfl)
theorem AmT (h0:ilt (ofNat i) (ofNat n)=true) (h10:ile 0 (ofNat i)=true) (h11:nlt i n=true):Am (body43 L) (lp43 n y k) (st43 n y k i z j)=some (.nm,⟨jsV 17 0 Ac [(0,.ref 0),(1,iV k),(4,iV (wr .i64 (Ai (ofNat i) 1)))],[.xrow false 46 6 n (BD (λi=>eV (z i)) i (eV (BP (wr .i64 (Ai 500 k)))))]⟩):=by
 exact Ag (ks:=[kn h0,kA (kn h10) (kn h0),kn h11]) (by kernel_rfl)
end
theorem AoG (L:LT) (p0:PT) (n:Nat) (y:Nat->E6) (k:Int) (z:Nat->E6)  (hp0:p0 (body43 (onP 0 p0 (Z9 n y k n z) L)) (Z3 n y k)=true):(Ar tab ⟨A5 tb43,onP 0 p0 (Z9 n y k n z) L,Gl⟩ Tryz.f14 [.ref 0,iV k] [.xrow false 46 6 n (λi=>eV (y i))]).sem=some ((.tup []),[.xrow false 46 6 n (λi=>eV (z i))]):=by
 exact Ag (ks:=[kn hp0]) (by kernel_rfl)
def Z2 (n:Nat) (g:Nat->V) (k:Int) :St:=⟨jsV 15 0 (λ_=>A7) [(0,.ref 0),(1,iV k),(4,iV 0)],[.xrow true 46 6 n g]⟩
def XA (n:Nat) (g:Nat->V) (k:Int):Lp:=⟨bmK 15 0 [0,1,4],1,bmK 15 0 [],1,21⟩
def Agi (n:Nat) (g:Nat->V) (k:Int) (i m:Nat) (x:Nat->V) (j:Nat->V):St:=⟨jsV 15 0 j [(0,.ref 0),(1,iV k),(4,nV i)],[.xrow true 46 6 m x]⟩
def Z8 (n:Nat) (g:Nat->V) (k:Int) (i m:Nat) (x:Nat->V):Ex×St:=(.ex 0,⟨jsV 15 0 Ac [],[.xrow true 46 6 m x]⟩)
noncomputable def QY (L:LT):St->T (Ex×St):=λst=>A6 tab ⟨A5 tb43,L,Gl⟩ (Aw Tryz.f15 0) 0 st
section
variable (L:LT) (n:Nat) (g:Nat->V) (k:Int) (i m:Nat) (x:Nat->V)  (j:Nat->V)
include L n g k i m x j
theorem AmS (h0:ilt (ofNat i) 20=false):Am (QY L) (XA n g k) (Agi n g k i m x j)=some ((.ex 0),⟨jsV 15 0 Ac [],[.xrow true 46 6 m x]⟩):=by
 exact Ag (ks:=[kn h0]) (by kernel_rfl)
theorem AmR (h0:ilt (ofNat i) 20=true) (h10:Ck m 1 40=true):Am (QY L) (XA n g k) (Agi n g k i m x j)=some (.nm,⟨jsV 15 0 Ac [(0,.ref 0),(1,iV k),(4,iV (wr .i64 (Ai (ofNat i) 1)))],[.xrow true 46 6 (Bv m 1) (AC m x (eV (BP (wr .i64 (Ai 9000 k)))))]⟩):=by
 exact Ag (ks:=[kn h0,kn h10]) (by kernel_rfl)
end
theorem AoF (L:LT) (p0:PT) (n:Nat) (g:Nat->V) (k:Int) (m:Nat) (x:Nat->V)  (hp0:p0 (QY (onP 0 p0 (Z8 n g k 20 m x) L)) (Z2 n g k)=true):(Ar tab ⟨A5 tb43,onP 0 p0 (Z8 n g k 20 m x) L,Gl⟩ Tryz.f15 [.ref 0,iV k] [.xrow true 46 6 n g]).sem=some ((.tup []),[.xrow true 46 6 m x]):=by
 exact Ag (ks:=[kn hp0]) (by kernel_rfl)
def Z1 (n:Nat) (g:Nat->V) (k:Int) :St:=⟨jsV 20 0 (λ_=>A7) [(0,.ref 0),(1,iV k),(4,.ref 1),(5,iV 0),(6,.ref 1)],[.xrow true 46 6 n g,.row 46 6 60 (λ_=>.agg [iV 0,bV false,bV false,iV 0,iV 0,iV 0])]⟩
def X9 (n:Nat) (g:Nat->V) (k:Int):Lp:=⟨bmK 20 0 [0,1,4,5],2,bmK 20 0 [0,4],2,61⟩
def Agh (n:Nat) (g:Nat->V) (k:Int) (i:Nat) (z:Nat->E6) (j:Nat->V):St:=⟨jsV 20 0 j [(0,.ref 0),(1,iV k),(4,.ref 1),(5,nV i)],[.xrow true 46 6 n g,.row 46 6 60 (λi=>eV (z i))]⟩
def Z7 (n:Nat) (g:Nat->V) (k:Int) (i:Nat) (z:Nat->E6):Ex×St:=(.ex 0,⟨jsV 20 0 Ac [(0,.ref 0),(4,.ref 1)],[.xrow true 46 6 n g,.row 46 6 60 (λi=>eV (z i))]⟩)
noncomputable def QX (L:LT):St->T (Ex×St):=λst=>A6 tab ⟨A5 tb43,L,Gl⟩ (Aw Tryz.f16 0) 0 st
section
variable (L:LT) (n:Nat) (g:Nat->V) (k:Int) (i:Nat) (z:Nat->E6)  (j:Nat->V)
include L n g k i z j
theorem AmQ (h0:ilt (ofNat i) 60=false):Am (QX L) (X9 n g k) (Agh n g k i z j)=some ((.ex 0),⟨jsV 20 0 Ac [(0,.ref 0),(4,.ref 1)],[.xrow true 46 6 n g,.row 46 6 60 (λi=>eV (z i))]⟩):=by
 exact Ag (ks:=[kn h0]) (by kernel_rfl)
theorem AmP (h0:ilt (ofNat i) 60=true) (h10:ile 0 (ofNat i)=true) (h11:nlt i 60=true):Am (QX L) (X9 n g k) (Agh n g k i z j)=some (.nm,⟨jsV 20 0 Ac [(0,.ref 0),(1,iV k),(4,.ref 1),(5,iV (wr .i64 (Ai (ofNat i) 1)))],[.xrow true 46 6 n g,.row 46 6 60 (BD (λi=>eV (z i)) i (eV (BP (wr .i64 (Ai 20000 k)))))]⟩):=by
 exact Ag (ks:=[kn h0,kA (kn h10) (kn h0),kn h11]) (by kernel_rfl)
end
theorem AoE (L:LT) (p0:PT) (n:Nat) (g:Nat->V) (k:Int) (z:Nat->E6) (h0:Fy 40 60 60=true) (h10:Ck n 60 40=true) (hp0:p0 (QX (onP 0 p0 (Z7 n g k 60 z) L)) (Z1 n g k)=true):(Ar tab ⟨A5 tb43,onP 0 p0 (Z7 n g k 60 z) L,Gl⟩ Tryz.f16 [.ref 0,iV k] [.xrow true 46 6 n g]).sem=some ((.tup []),[.xrow true 46 6 (Bv n 60) (BZ n 60 g (λi=>eV (z i))),.row 46 6 60 (λi=>eV (z i))]):=by
 exact Ag (ks:=[kn h0,kn hp0,kn h10]) (by kernel_rfl)
theorem run43 (L:LT) (n:Nat) (y:Nat->E6) (k:Int) (hn:n <= 4611686018427387904):∀ (d i:Nat) (j:Nat->V) (q:Nat),n=i+d->d<q ->
  (Ax (body43 L) (lp43 n y k) q (st43 n y k i (Ij y (BP (wr .i64 (Ai 500 k))) i) j)).sem=some (Z9 n y k n (Ij y (BP (wr .i64 (Ai 500 k))) n))
 | 0,i,j,q+1,h,_=>by
  have:n=i:=by omega
  subst this;exact Ae (AmU L n y k n _ j (A1 (Nat.le_refl _)))
 | d+1,i,j,q+1,h,h2=>by
  have hi:i<n:=by omega
  have h1:=AmT L n y k i (Ij y (BP (wr .i64 (Ai 500 k))) i) j (ofNat_lt hi) (Mc i) (decide_eq_true hi);rw [Xe] at h1;rw [Ae h1,AK,AT hi (by omega)];exact run43 L n y k hn d (i+1) Ac q (by omega) (by omega)
theorem Aev (n:Nat) (y:Nat->E6) (k:Int):Z3 n y k=st43 n y k 0 y (λi=>nth (Z3 n y k).t i):=by kernel_rfl
def Ado (n:Nat) (g:Nat->V):List V->T (Nat->V)
 | [.val (.int .i64 k)]=>.br (BX n) (.br (Dl n λi=>okE (g i)) (.leaf λ_=>eV (BP (wr .i64 (Ai 500 k)))) .fail) .fail
 | _=>.fail
theorem m43:Rt Tryz.prog Gl 14 (YV 46 6 Ado):=by
 refine Adn A2 mixed Tryz.func14 (by kernel_rfl) (by kernel_rfl) λn g vs g' h=>?_;unfold Ado at h;split at h
 ·rename_i k
  obtain ⟨hn,h⟩:=Ab h;obtain ⟨hg,h⟩:=Ab h;have:=Aa h;subst this;have hn:n <= 4611686018427387904:=of_decide_eq_true hn;have hx:=Bi tb43_ok [(0,lp43 n (λi=>edE (g i)) k)];have hL:=AV [(0,lp43 n (λi=>edE (g i)) k)];have h0:∀ L,(B6 [(0,lp43 n (λi=>edE (g i)) k)] 0 (body43 L) (Z3 n (λi=>edE (g i)) k)).sem=some (Z9 n (λi=>edE (g i)) k n (Ij (λi=>edE (g i)) (BP (wr .i64 (Ai 500 k))) n)):=λL=>by
   rw [Aev];exact run43 L n (λi=>edE (g i)) k hn n 0 _ (n+1) (by omega) (by omega)
  exact ⟨rfl,λ_ _=>rfl,B7 Gl tb43 [(0,lp43 n (λi=>edE (g i)) k)],rfl,hx.1,hx.2,_,_,_,λi hi=>(CG (AS.1 hg i hi)).symm,
   Pk (Bg hL hL) _ (AoG _ _ n (λi=>edE (g i)) k (Ij (λi=>edE (g i)) (BP (wr .i64 (Ai 500 k))) n) (AB (h0 _))),rfl,λi hi=>by show eV _=eV _; rw [Wk _ _ n i hi]⟩
 ·cases h
theorem AhI (L:LT) (n:Nat) (g:Nat->V) (k:Int) (h8:(n+60) * 40 <= 140737488355328) (c:Nat) (hc:c=20):∀ (d i:Nat) (j:Nat->V) (q:Nat),c=i+d->d<q ->
  (Ax (QY L) (XA n g k) q (Agi n g k i (n+i) (Sj g n (eV (BP (wr .i64 (Ai 9000 k)))) i) j)).sem=some (Z8 n g k c (n+c) (Sj g n (eV (BP (wr .i64 (Ai 9000 k)))) c))
 | 0,i,j,q+1,h,_=>by
  have:c=i:=by omega
  subst this;have hl:ilt (ofNat c) 20=false:=by rw [show (20:Int)=ofNat 20 from rfl,CX,decide_eq_false (by omega)]
  exact Ae (AmS L n g k c (n+c) _ j hl)
 | d+1,i,j,q+1,h,h2=>by
  have hl:ilt (ofNat i) 20=true:=by rw [show (20:Int)=ofNat 20 from rfl,CX,decide_eq_true (by omega)]
  have h9:(n+i+1) * 40 <= 140737488355328:=Nat.le_trans (Nat.mul_le_mul_right 40 (show n+i+1 <= n+60 by omega)) h8;have ha:Ck (n+i) 1 40=true:=decide_eq_true h9;have h1:=AmR L n g k i (n+i) (Sj g n (eV (BP (wr .i64 (Ai 9000 k)))) i) j hl ha;rw [Ae h1,AK,AT (show i<20 by omega) (by decide)];exact AhI L n g k h8 c hc d (i+1) Ac q (by omega) (by omega)
theorem Aeu (n:Nat) (g:Nat->V) (k:Int):Z2 n g k=Agi n g k 0 (n+0) g (λi=>nth (Z2 n g k).t i):=by kernel_rfl
def SC (n:Nat) (_:Nat->V):List V->T Unit
 | [.val (.int .i64 _)]=>.br (Ck n 60 40) (.leaf ()) .fail
 | _=>.fail
theorem m44:Rt Tryz.prog Gl 15 (SB 46 6 SC):=by
 refine VW A2 mixed Tryz.func15 (by kernel_rfl) (by kernel_rfl) λn g vs u h=>?_;unfold SC at h;split at h
 ·rename_i k
  obtain ⟨hn,h⟩:=Ab h;have h8:(n+60) * 40 <= 140737488355328:=of_decide_eq_true hn;have hx:=Bi tb43_ok [(0,XA n g k)];have hL:=AV [(0,XA n g k)];have h0:∀ L,(B6 [(0,XA n g k)] 0 (QY L) (Z2 n g k)).sem=some (Z8 n g k 20 (n+20) (Sj g n (eV (BP (wr .i64 (Ai 9000 k)))) 20)):=λL=>by
   rw [Aeu];exact AhI L n g k h8 20 rfl 20 0 _ 21 rfl (by omega)
  exact ⟨rfl,B7 Gl tb43 [(0,XA n g k)],rfl,hx.1,hx.2,_,Pk (Bg hL hL) _ (AoF _ _ n g k (n+20) (Sj g n (eV (BP (wr .i64 (Ai 9000 k)))) 20) (AB (h0 _)))⟩
 ·cases h
theorem AhH (L:LT) (n:Nat) (g:Nat->V) (k:Int) (y:Nat->E6) (c:Nat) (hc:c=60):∀ (d i:Nat) (j:Nat->V) (q:Nat),c=i+d->d<q ->
  (Ax (QX L) (X9 n g k) q (Agh n g k i (Ij y (BP (wr .i64 (Ai 20000 k))) i) j)).sem=some (Z7 n g k c (Ij y (BP (wr .i64 (Ai 20000 k))) c))
 | 0,i,j,q+1,h,_=>by
  have:c=i:=by omega
  subst this;have hl:ilt (ofNat c) 60=false:=by rw [show (60:Int)=ofNat 60 from rfl,CX,decide_eq_false (by omega)]
  exact Ae (AmQ L n g k c _ j hl)
 | d+1,i,j,q+1,h,h2=>by
  have hi:i<60:=by omega
  have hl:ilt (ofNat i) 60=true:=ofNat_lt hi;have h1:=AmP L n g k i (Ij y (BP (wr .i64 (Ai 20000 k))) i) j hl (Mc i) (decide_eq_true hi);rw [Xe] at h1;rw [Ae h1,AK,AT hi (by decide)];exact AhH L n g k y c hc d (i+1) Ac q (by omega) (by omega)
theorem Aet (n:Nat) (g:Nat->V) (k:Int):Z1 n g k=Agh n g k 0 (λ_=>Ca) (λi=>nth (Z1 n g k).t i):=by kernel_rfl
theorem m45:Rt Tryz.prog Gl 16 (SB 46 6 SC):=by
 refine VW A2 mixed Tryz.func16 (by kernel_rfl) (by kernel_rfl) λn g vs u h=>?_;unfold SC at h;split at h
 ·rename_i k
  obtain ⟨hn,h⟩:=Ab h;have hx:=Bi tb43_ok [(0,X9 n g k)];have hL:=AV [(0,X9 n g k)];have h0:∀ L,(B6 [(0,X9 n g k)] 0 (QX L) (Z1 n g k)).sem=some (Z7 n g k 60 (Ij (λ_=>Ca) (BP (wr .i64 (Ai 20000 k))) 60)):=λL=>by
   rw [Aet];exact AhH L n g k _ 60 rfl 60 0 _ 61 rfl (by omega)
  exact ⟨rfl,B7 Gl tb43 [(0,X9 n g k)],rfl,hx.1,hx.2,_,Pk (Bg hL hL) _ (AoE _ _ n g k (Ij (λ_=>Ca) (BP (wr .i64 (Ai 20000 k))) 60) (by decide) hn (AB (h0 _)))⟩
 ·cases h
def lp56 (n:Nat) (y:Nat->Int) (k:Int):Lp:=⟨bmK 16 0 [0,1,4],1,bmK 16 0 [],1,n+1⟩
end Go.Proofs.YtkbgidbledjejaaGreat.Ed
namespace Go.Proofs.YtkbgidbledjejaaGreat.En
open Go.Sy Go Go.Proofs.YtkbgidbledjejaaGreat.Ed
set_option maxRecDepth 100000
theorem Anj {i n:Nat} (h:i<n):ile (Int.ofNat n) (Int.ofNat i)=false:=decide_eq_false (by show ¬ ((n:Int) <= (i:Int)); omega)
def Tw (e l f:E6):Bool:=Av (ieq e.src l.dst) (ieq e.dst f.src)
def Ajs:List V->A3
 | [v,.pp l,.pp f]=>.br (okE v) (.br (okE l) (.br (okE f) (.leaf (bV (Tw (edE v) (edE l) (edE f)),[])) .fail) .fail) .fail
 | _=>.fail
noncomputable def tbZ:AG:=[]
theorem Iy:Al Tryz.prog Gl tbZ:=.nil
theorem Ap0:As Tryz.prog Gl 107 Ajs:=by
 refine Ah A2 mixed Tryz.func107 (by kernel_rfl) (by kernel_rfl) λvs v h' h=>?_;unfold Ajs at h;split at h
 ·rename_i a b c
  obtain ⟨g1,h⟩:=Ab h;obtain ⟨g2,h⟩:=Ab h;obtain ⟨g3,h⟩:=Ab h;cases Aa h;have hx:=Be Iy [] (G:=Gl);refine ⟨_,cxA Gl tbZ [],_,By.refl _,rfl,hx.1,hx.2,?_,Au.refl _⟩;rw [CG g1,CG g2,CG g3];generalize edE a=e;generalize edE b=l;generalize edE c=f;show (AL (Ar tab (cxA Gl tbZ []) Tryz.f107 [eV e,.pp (eV l),.pp (eV f)] [])).sem=some (bV (Tw e l f),[]);cases h0:ieq e.src l.dst with
  | true=>exact DW.ok (.r 6 h0 <| .e (congrArg (λb=>(bV b,([]:List Blk))) (by unfold Tw; rw [h0] <;> rfl))) (by kernel_rfl)
  | false=>exact DW.ok (.r 6 h0 <| .e (congrArg (λb=>(bV b,([]:List Blk))) (by unfold Tw; rw [h0] <;> rfl))) (by kernel_rfl)
 ·cases h
abbrev Xf (v:Nat->E6) (l f:E6) (i:Nat):Bool:=Tw (v i) l f
def AkA:List V->A3
 | [u,.fn 107 [.pp l,.pp f]]=>apL u λn v=>.br (okE l) (.br (okE f) (.br (BX n) (.br (isN (A0 (Xf v (edE l) (edE f)) n 0)) (.leaf (iV (-1),[])) (.leaf (nO (Xf v (edE l) (edE f)) n,[]))) .fail) .fail) .fail
 | _=>.fail
noncomputable def Aca:AG:=(107,Ajs)::[]
theorem AbZ:Al Tryz.prog Gl Aca:=.cons Ap0 <| .nil
def lp116:Lp:=⟨bmK 19 0 [0,1,4,6,7,8],0,bmK 19 0 [4],0,4611686018427387905⟩
def Aot (n:Nat) (v:Nat->E6) (l f:E6) (c:Int) (a:Unit) (j:Nat->V):St:=⟨jsV 19 0 j [(0,.sl 6 n (λi=>eV (v i))),(1,.fn 107 [.pp (eV l),.pp (eV f)]),(4,iV 0),(6,.sl 6 n (λi=>eV (v i))),(7,nV n),(8,iV c)],[]⟩
noncomputable def Aqk (L:LT):St->T (Ex×St):=λst=>A6 tab ⟨A5 Aca,L,Gl⟩ (Aw Tryz.f116 0) 0 st
def Tf (n:Nat) (v:Nat->E6) (l f:E6) (i:Nat) (a:Unit):Ex×St:=(.rt,⟨jsV 19 0 Ac [(4,nV i)],[]⟩)
def AnC (n:Nat) (v:Nat->E6) (l f:E6) (i:Nat) (a:Unit):T ((Unit) ⊕ (Ex×St)):=.br (Tw (v i) l f) (.leaf (.inr (Tf n v l f i a))) (.leaf (.inl ()))
def Aiy (n:Nat) (v:Nat->E6) (l f:E6) (a:Unit):Ex×St:=(.ex 0,⟨jsV 19 0 Ac [(4,iV 0)],[]⟩)
theorem AmX (L:LT) (n:Nat) (v:Nat->E6) (l f:E6)  (hn:n <= 4611686018427387904) {e:Ex×St} {a:Unit} {j:Nat->V} (h:Ds (AnC n v l f) (Aiy n v l f) n 0 a=some e):(Ax (Aqk L) lp116 4611686018427387905 (Aot n v l f 0 a j)).sem=some (exR e) :=
 De FF hn (λi a j r hi h=>DK.ok (L:=goR (Aot n v l f) exR i) (.k (ofNat_lt hi) <| .k (Af hi) <| .r 3 eT <| .c (λh1=>.k h1 <| .l) λh1=>.k h1 <| .l) (by kernel_rfl) h) (λa j=>DK.ok (C:=.leaf (Aiy n v l f a)) (L:=exR) (.k (A1 (Nat.le_refl n)) .l) (by kernel_rfl) rfl) (Nat.zero_add _).symm (Nat.lt_succ_of_le hn) h
def YW:List (Nat×Lp×List (Nat×(Nat->V))):=[(0,lp116,[])]
theorem Aps:As Tryz.prog Gl 116 AkA:=by
 refine Ah A2 mixed Tryz.func116 (by kernel_rfl) (by kernel_rfl) λvs v h' h=>?_;unfold AkA at h;split at h
 ·rename_i u b c
  obtain ⟨n,v,ha,h⟩:=Bd h;obtain ⟨g2,h⟩:=Ab h;obtain ⟨g3,h⟩:=Ab h;obtain ⟨hn,h⟩:=Ab h;have hn:n <= 4611686018427387904:=of_decide_eq_true hn;have hx:=Be AbZ YW (G:=Gl);refine ⟨[Ap n v,.fn 107 [.pp b,.pp c]],cxA Gl Aca YW,_,λS w cs hq=>by
   obtain ⟨c,l,rfl,q1,q2⟩:=hq;exact ⟨c,_,rfl,ha S w c q1,q2⟩,rfl,hx.1,hx.2,?_,Au.refl _⟩
  rw [CG g2,CG g3];generalize edE b=l at h;generalize edE c=f at h;have go:∀ i,(AnC n v l f i ()).sem=sel (Xf v l f i) (some (.inr (Tf n v l f i ()))) (some (.inl ())):=λi=>rfl;exact DK.ok (L:=λa=>a) (.c (λh1=>.a (AmX (Cp YW) n v l f hn (j:=λ_=>.und) (IQ (acc:=λ_=>()) (x:=λi=>Tf n v l f i ()) (λi _ hq=>by rw [go,hq]; rfl) (λi _ hq=>by rw [go,hq]; rfl) h1)) .l) λh1=>.a (AmX (Cp YW) n v l f hn (j:=λ_=>.und) (IP (acc:=λ_=>()) (x:=λi=>Tf n v l f i ()) (λi _ hq=>by rw [go,hq]; rfl) (λi _ hq=>by rw [go,hq]; rfl) h1)) .l) (by kernel_rfl) h
 ·cases h
def VT (n:Nat) (v:Nat->E6) (l f:E6):Bool:=AN (isN (A0 (Xf v l f) n 0))
def AkE:List V->A3
 | [u,.fn 107 [.pp l,.pp f]]=>apL u λn v=>.br (okE l) (.br (okE f) (.br (BX n) (.leaf (bV (VT n v (edE l) (edE f)),[])) .fail) .fail) .fail
 | _=>.fail
noncomputable def tb106:AG:=(116,AkA)::[]
theorem tb106_ok:Al Tryz.prog Gl tb106:=.cons Aps <| .nil
theorem Ap1:As Tryz.prog Gl 106 AkE:=by
 refine Ah A2 mixed Tryz.func106 (by kernel_rfl) (by kernel_rfl) λvs v h' h=>?_;unfold AkE at h;split at h
 ·rename_i u b c
  obtain ⟨n,v,ha,h⟩:=Bd h;obtain ⟨g2,h⟩:=Ab h;obtain ⟨g3,h⟩:=Ab h;obtain ⟨hn,h⟩:=Ab h;cases Aa h;have hx:=Be tb106_ok [] (G:=Gl);refine ⟨[Ap n v,.fn 107 [.pp b,.pp c]],cxA Gl tb106 [],_,λS w cs hq=>by
   obtain ⟨c,l,rfl,q1,q2⟩:=hq;exact ⟨c,_,rfl,ha S w c q1,q2⟩,rfl,hx.1,hx.2,?_,Au.refl _⟩
  rw [CG g2,CG g3];generalize edE b=l;generalize edE c=f;show (AL (Ar tab (cxA Gl tb106 []) Tryz.f106 [Ap n v,.fn 107 [.pp (eV l),.pp (eV f)]] [])).sem=some (bV (VT n v l f),[]);cases h1:isN (A0 (Xf v l f) n 0) with
  | true=>exact DW.ok (.k (eL n) <| .k eT <| .k eT <| .k hn <| .k h1 <| .e (congrArg (λb=>(bV b,([]:List Blk))) (by unfold VT; rw [h1] <;> rfl))) (by kernel_rfl)
  | false=>exact DW.ok (.k (eL n) <| .k eT <| .k eT <| .k hn <| .k h1 <| .e (congrArg (λb=>(bV b,([]:List Blk))) (by unfold VT; rw [h1] <;> exact (Mc _)))) (by kernel_rfl)
 ·cases h
def Ako:List V->A3
 | [.val (.int .i64 _)]=>.leaf (bV false,[])
 | _=>.fail
theorem Apq:As Tryz.prog Gl 121 Ako:=by
 refine Ah A2 mixed Tryz.func121 (by kernel_rfl) (by kernel_rfl) λvs v h' h=>?_;unfold Ako at h;split at h
 ·rename_i x
  cases Aa h;have hx:=Be Iy [] (G:=Gl);exact ⟨[iV x],cxA Gl tbZ [],_,By.refl _,rfl,hx.1,hx.2,DW.ok (.e (congrArg (λb=>(bV b,([]:List Blk))) (show AN (ieq x x)=false by rw [eI]; rfl))) (by kernel_rfl),Au.refl _⟩
 ·cases h
def sgI (x y:Int):Int:=bif ilt x y then -1 else bif ilt y x then 1 else 0
def sgT:List V->A3
 | [.val (.int .i64 x),.val (.int .i64 y)]=>.leaf (iV (sgI x y),[])
 | _=>.fail
noncomputable def tb115:AG:=(121,Ako)::[]
theorem tb115_ok:Al Tryz.prog Gl tb115:=.cons Apq <| .nil
theorem Apt:As Tryz.prog Gl 115 sgT:=by
 refine Ah A2 mixed Tryz.func115 (by kernel_rfl) (by kernel_rfl) λvs v h' h=>?_;unfold sgT at h;split at h
 ·rename_i x y
  cases Aa h;have hx:=Be tb115_ok [] (G:=Gl);exact ⟨[iV x,iV y],cxA Gl tb115 [],_,By.refl _,rfl,hx.1,hx.2,DW.ok (.r 2 eF <| .c (ilt x y) (λh1=>.k h1 <| .e (congrArg (λb=>(iV b,([]:List Blk))) (by unfold sgI; rw [h1] <;> rfl))) λh1=>.k h1 <| .c (ilt y x) (λh2=>.k h2 <| .e (congrArg (λb=>(iV b,([]:List Blk))) (by unfold sgI; rw [h1,h2] <;> rfl))) λh2=>.k h2 <| .e (congrArg (λb=>(iV b,([]:List Blk))) (by unfold sgI; rw [h1,h2] <;> rfl))) (by kernel_rfl),Au.refl _⟩
 ·cases h
abbrev sgQ (x y:Nat->Int) (i:Nat):Bool:=AN (ieq (sgI (x i) (y i)) 0)
def cmpI (n:Nat) (x y:Nat->Int):Int:=bif isN (A0 (sgQ x y) n 0) then 0 else sgI (x (tO (sgQ x y) n)) (y (tO (sgQ x y) n))
def cmT:List V->A3:=Ale λn x m y=>.br (Es n m) (.br (BX n) (.leaf (iV (cmpI n x y),[])) .fail) .fail
noncomputable def tb105:AG:=(115,sgT)::[]
theorem tb105_ok:Al Tryz.prog Gl tb105:=.cons Apt <| .nil
def Aik:Lp:=⟨bmK 36 0 [0,1,4,9,10,11],0,bmK 36 0 [0,1,4],0,4611686018427387905⟩
def Aou (n:Nat) (x y:Nat->Int) (c:Int) (a:Unit) (j:Nat->V):St:=⟨jsV 36 0 j [(0,.sl 1 n (λi=>iV (x i))),(1,.sl 1 n (λi=>iV (y i))),(4,iV 0),(9,.sl 1 n (λi=>iV (x i))),(10,nV n),(11,iV c)],[]⟩
noncomputable def Aqm (L:LT):St->T (Ex×St):=λst=>A6 tab ⟨A5 tb105,L,Gl⟩ (Aw Tryz.f105 0) 0 st
def Tg (n:Nat) (x y:Nat->Int) (i:Nat) (a:Unit):Ex×St:=(.rt,⟨jsV 36 0 Ac [(0,.sl 1 n (λi=>iV (x i))),(1,.sl 1 n (λi=>iV (y i))),(4,iV (sgI (x i) (y i)))],[]⟩)
def AnD (n:Nat) (x y:Nat->Int) (i:Nat) (a:Unit):T ((Unit) ⊕ (Ex×St)):=.br (ieq (sgI (x i) (y i)) 0) (.leaf (.inl ())) (.leaf (.inr (Tg n x y i a)))
def Aiz (n:Nat) (x y:Nat->Int) (a:Unit):Ex×St:=(.ex 0,⟨jsV 36 0 Ac [(0,.sl 1 n (λi=>iV (x i))),(1,.sl 1 n (λi=>iV (y i))),(4,iV 0)],[]⟩)
theorem AmZ (L:LT) (n:Nat) (x y:Nat->Int)  (hn:n <= 4611686018427387904) {e:Ex×St} {a:Unit} {j:Nat->V} (h:Ds (AnD n x y) (Aiz n x y) n 0 a=some e):(Ax (Aqm L) Aik 4611686018427387905 (Aou n x y 0 a j)).sem=some (exR e) :=
 De FF hn (λi a j r hi h=>DK.ok (L:=goR (Aou n x y) exR i) (.k (ofNat_lt hi) <| .k (Af hi) <| .k (Anj hi) <| .k (Af hi) <| .c (λh2=>.k (eN h2) <| .l) λh2=>.k (eN h2) <| .l) (by kernel_rfl) h) (λa j=>DK.ok (C:=.leaf (Aiz n x y a)) (L:=exR) (.k (A1 (Nat.le_refl n)) .l) (by kernel_rfl) rfl) (Nat.zero_add _).symm (Nat.lt_succ_of_le hn) h
def YX:List (Nat×Lp×List (Nat×(Nat->V))):=[(0,Aik,[])]
theorem Ap2:As Tryz.prog Gl 105 cmT:=by
 refine Ah A2 mixed Tryz.func105 (by kernel_rfl) (by kernel_rfl) λvs v h' h=>?_;unfold cmT at h;obtain ⟨n,x,m,y,ha,h⟩:=Abr h;obtain ⟨hm,h2⟩:=Ab h;obtain ⟨hn,h3⟩:=Ab h2;cases Aa h3;obtain rfl:n=m:=Nat.eq_of_beq_eq_true hm;have hn:n <= 4611686018427387904:=of_decide_eq_true hn;have hx:=Be tb105_ok YX (G:=Gl);refine ⟨[CH n x,CH n y],cxA Gl tb105 YX,_,ha,rfl,hx.1,hx.2,?_,Au.refl _⟩;have go:∀ i,(AnD n x y i ()).sem=sel (sgQ x y i) (some (.inr (Tg n x y i ()))) (some (.inl ())):=λi=>by
  show sel (ieq (sgI (x i) (y i)) 0) _ _=sel (AN (ieq (sgI (x i) (y i)) 0)) _ _;cases ieq (sgI (x i) (y i)) 0 <;> rfl
 cases h1:isN (A0 (sgQ x y) n 0) with
 | true =>
  have hs:cmpI n x y=0:=by unfold cmpI; rw [h1]; rfl
  exact DW.ok (.a (AmZ (Cp YX) n x y hn (j:=λ_=>.und) (IQ (acc:=λ_=>()) (x:=λi=>Tg n x y i ()) (λi _ hq=>by rw [go,hq]; rfl) (λi _ hq=>by rw [go,hq]; rfl) h1)) <| .k (A1 (Nat.le_refl n)) <| .e (congrArg (λb=>(iV b,([]:List Blk))) hs.symm)) (by kernel_rfl)
 | false =>
  have hs:cmpI n x y=sgI (x (tO (sgQ x y) n)) (y (tO (sgQ x y) n)):=by unfold cmpI; rw [h1]; rfl
  exact DW.ok (.a (AmZ (Cp YX) n x y hn (j:=λ_=>.und) (IP (acc:=λ_=>()) (x:=λi=>Tg n x y i ()) (λi _ hq=>by rw [go,hq]; rfl) (λi _ hq=>by rw [go,hq]; rfl) h1)) <| .e (congrArg (λb=>(iV b,([]:List Blk))) hs.symm)) (by kernel_rfl)
end Go.Proofs.YtkbgidbledjejaaGreat.En
