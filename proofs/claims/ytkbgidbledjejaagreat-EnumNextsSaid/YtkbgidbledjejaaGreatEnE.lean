/-
  Lent, Kept. No conditions.
-/
import Derived.Test.YtkbgidbledjejaaGreatEdY
import Derived.Test.YtkbgidbledjejaaGreatEdC
import Derived.Test.YtkbgidbledjejaaGreatCyI
namespace Go.Proofs.YtkbgidbledjejaaGreat.Ed
open Go.Sy
open Int (ofNat)
theorem As.val {P:Program} {G:Nat->V} {f:FuncId} {F F':List V->A2} (h:As P G f F)
  (hF:∀ vs r,(F' vs).sem=some r->∃ v0,(F vs).sem=some (v0,r.2)∧∀ S w κ c,VR S w v0 κ c->VR S w r.1 κ c):As P G f F':=by
 refine ⟨h.1,λvs cs S w v h' hS hE hv he=>?_⟩;obtain ⟨v0,h1,h2⟩:=hF vs (v,h') he;obtain ⟨h3,h4⟩:=h.2 vs cs S w v0 h' hS hE hv h1;refine ⟨h3,h4.mono ?_⟩
 rintro e w' ⟨c,κ',S',q1,q2,q3,q4⟩
 exact ⟨c,κ',S',q1,q2,h2 _ _ _ _ q3,q4⟩
def Cw (k:Int):E6:=⟨-77,true,ieq (Aw k 2) 0,wr .i64 (Aj 1000 k),-5,99⟩
def Vz:List V->A2
 | [.val (.int .i64 k)]=>out (eV (Cw k))
 | _=>.fail
theorem p85:As Tryz.prog Gl 31 Vz:=by
 refine Ah Az mixed Tryz.func31 (by kernel_rfl) (by kernel_rfl) λvs v h' h=>?_;unfold Vz at h;split at h
 ·rename_i k
  have:=Aa h;simp only [Prod.mk.injEq] at this;obtain ⟨rfl,rfl⟩:=this;have hx:=Bm Hy [];exact ⟨_,BP Gl tb0 [],_,B0.refl _,rfl,hx.1,hx.2,Ag (ks:=[]) (by kernel_rfl)/-W:wc85-/,Au.refl _⟩
 ·cases h
noncomputable def AfL:AH:=(31,Vz)::[]
theorem AfK:Ao Tryz.prog Gl AfL:=.cons p85 .nil
def B2 (n:Nat) (f:Nat->E6) (i:Nat):E6:=bif decide (i<n) then f i else Cw (ofNat (i-n))
def LQ (n:Nat) (f:Nat->E6):Nat->Nat->V
 | 0=>BY 0 n (λ_=>eV Bv) (λi=>eV (f i))
 | i+1=>AA (n+i) (LQ n f i) (eV (Cw (ofNat i)))
theorem Qh (n:Nat) (f:Nat->E6) (i:Nat):LQ n f (i+1)=AA (n+i) (LQ n f i) (eV (Cw (ofNat i))):=rfl
theorem V6 (n:Nat) (f:Nat->E6):∀ i j,j<n+i->LQ n f i j=eV (B2 n f j)
 | 0,j,h=>by
  rw [LQ,KV 0 n _ _ j (by omega)];show eV (f (j-0))=_;rw [B2,decide_eq_true (show j<n by omega)];rfl
 | i+1,j,h=>by
  rw [Qh,BS];by_cases hj:j=n+i
  ·subst hj
   rw [Nat.beq_refl,B2,decide_eq_false (show ¬ n+i<n by omega),show n+i-n=i by omega];rfl
  ·rw [show Nat.beq j (n+i)=false by
    cases hb:Nat.beq j (n+i)
    ·rfl
    ·exact absurd (Nat.eq_of_beq_eq_true hb) hj]
   exact V6 n f i j (by omega)
def V4 (n:Nat) (f:Nat->E6):Lp:=⟨bmK 25 0 [0,2,3,4],2,bmK 25 0 [0,2,3],2,41⟩
def Agh (n:Nat) (f:Nat->E6) (i k:Nat) (x:Nat->V) (j:Nat->V):St:=⟨jsV 25 0 j [(0,.sl 6 n (λi=>eV (f i))),(2,.ref 0),(3,.ref 1),(4,nV i)],[.row 46 6 0 Ac,.row 46 6 k x]⟩
def Z4 (n:Nat) (f:Nat->E6) (i k:Nat) (x:Nat->V):Ex×St:=(.ex 0,⟨jsV 25 0 Ac [(0,.sl 6 n (λi=>eV (f i))),(2,.ref 0),(3,.ref 1)],[.row 46 6 0 Ac,.row 46 6 k x]⟩)
noncomputable def ND (L:LT):St->T (Ex×St):=λst=>A8 tab ⟨A6 AfL,L,Gl⟩ (A0 Tryz.f8 0) 0 st
section
variable (L:LT) (n:Nat) (f:Nat->E6) (i k:Nat) (x:Nat->V)  (j:Nat->V)
include L n f i k x j
theorem AmN (h0:ilt (ofNat i) 40=false):Ap (ND L) (V4 n f) (Agh n f i k x j)=some ((.ex 0),⟨jsV 25 0 Ac [(0,.sl 6 n (λi=>eV (f i))),(2,.ref 0),(3,.ref 1)],[.row 46 6 0 Ac,.row 46 6 k x]⟩):=by
 exact Ag (ks:=[kn h0]) (by kernel_rfl)
theorem AmM (h0:ilt (ofNat i) 40=true) (h1:Ci k 1 40=true):Ap (ND L) (V4 n f) (Agh n f i k x j)=some (.nm,⟨jsV 25 0 Ac [(0,.sl 6 n (λi=>eV (f i))),(2,.ref 0),(3,.ref 1),(4,iV (wr .i64 (Aj (ofNat i) 1)))],[.row 46 6 0 Ac,.row 46 6 (Bh k 1) (AA k x (eV (Cw (ofNat i))))]⟩):=by
 exact Ag (ks:=[kn h0,kn h1]) (by kernel_rfl)
end
def Wo (n:Nat) (f:Nat->E6) :St:=⟨jsV 25 0 (λ_=>A5) [(0,.sl 6 n (λi=>eV (f i))),(2,.ref 0),(3,.ref 1),(4,iV 0),(5,.sl 6 n (λi=>eV (f i))),(6,nV n),(7,iV (wr .i64 (Aj (ofNat n) 40))),(8,.und),(9,.und),(10,.sl 6 n (λi=>eV (f i))),(11,.ref 1)],[.row 46 6 0 Ac,.row 46 6 (Bh 0 n) (BY 0 n (λ_=>eV Bv) (λi=>eV (f i)))]⟩
theorem AoC (L:LT) (p0:PT) (n:Nat) (f:Nat->E6) (i k:Nat) (x:Nat->V) (h0:F2 40 0 (wr .i64 (Aj (ofNat n) 40))=true) (h1:Ci 0 n 40=true) (h2:Av (ile 0 (ofNat n)) (ile (ofNat n) (ofNat k))=true) (hp0:p0 (ND (onP 0 p0 (Z4 n f i k x) L)) (Wo n f)=true):(AK (Ar tab ⟨A6 AfL,onP 0 p0 (Z4 n f i k x) L,Gl⟩ Tryz.f8 [Am n f] [])).sem=some (.rct 0 n,[.row 46 6 k x]):=by
 exact Ag (ks:=[kn h0,kn h1,kn hp0,kn h2]) (by kernel_rfl)
theorem AhJ (L:LT) (n:Nat) (f:Nat->E6) (h8:(n+60) * 40 <= 140737488355328) (X:Nat->Nat->V) (hX:∀ i,AA (n+i) (X i) (eV (Cw (ofNat i)))=X (i+1)) (c:Nat) (hc:c=40):∀ (d i:Nat) (j:Nat->V) (q:Nat),c=i+d->d<q ->
  (Ax (ND L) (V4 n f) q (Agh n f i (n+i) (X i) j)).sem=some (Z4 n f c (n+c) (X c))
 | 0,i,j,q+1,h,_=>by
  have:c=i:=by omega
  subst this;have hl:ilt (ofNat c) 40=false:=by rw [show (40:Int)=ofNat 40 from rfl,EL,decide_eq_false (by omega)]
  exact Ae (AmN L n f c (n+c) (X c) j hl)
 | d+1,i,j,q+1,h,h2=>by
  have hl:ilt (ofNat i) 40=true:=by rw [show (40:Int)=ofNat 40 from rfl,EL,decide_eq_true (by omega)]
  have hi:i<40:=by omega
  have h9:(n+i+1) * 40 <= 140737488355328:=Nat.le_trans (Nat.mul_le_mul_right 40 (show n+i+1 <= n+60 by omega)) h8;have ha:Ci (n+i) 1 40=true:=decide_eq_true h9;rw [Ae (AmM L n f i (n+i) (X i) j hl ha),AN,AY (show i<40 by omega) (by decide),hX];exact AhJ L n f h8 X hX c hc d (i+1) Ac q (by omega) (by omega)
def Aim:List V->A2:=NI λn f=>.br (BG (Bh n 60)) (.leaf (.rct 0 n,[.row 46 6 (Bh n 40) λi=>eV (B2 n f i)])) .fail
theorem Aep (n:Nat) (f:Nat->E6):Wo n f=Agh n f 0 (Bh 0 n) (LQ n f 0) (λi=>nth (Wo n f).t i):=by kernel_rfl
theorem p47:As Tryz.prog Gl 8 Aim:=by
 refine Ah Az mixed Tryz.func8 (by kernel_rfl) (by kernel_rfl) λvs v h' h=>?_;obtain ⟨n,f,ha,h1⟩:=CH h;obtain ⟨hn,hq⟩:=Ab h1;have:=Aa hq;simp only [Prod.mk.injEq] at this;obtain ⟨rfl,rfl⟩:=this;have h8:(n+60) * 40 <= 140737488355328:=of_decide_eq_true hn;have hx:=Bm AfK [(0,V4 n f)];have hL:=AW [(0,V4 n f)];have h0:∀ L,(B9 [(0,V4 n f)] 0 (ND L) (Wo n f)).sem=some (Z4 n f 40 (n+40) (LQ n f 40)):=λL=>by
  show (Ax (ND L) (V4 n f) 41 (Wo n f)).sem=_;rw [Aep,show Bh 0 n=n+0 by simp [Bh]];exact AhJ L n f h8 (LQ n f) (λi=>(Qh n f i).symm) 40 rfl 40 0 _ 41 rfl (by omega)
 have e1:wr .i64 (Aj (ofNat n) 40)=ofNat (n+40):=GI (b:=40) (by omega);have hk:F2 40 0 (wr .i64 (Aj (ofNat n) 40))=true:=by
  rw [e1];simp only [F2,Bool.and_eq_true,decide_eq_true_eq,Int.ofNat_eq_natCast];omega
 have hb:Av (ile 0 (ofNat n)) (ile (ofNat n) (ofNat (n+40)))=true:=by
  rw [FN,EM,decide_eq_true (by omega)];rfl
 exact ⟨_,BP Gl AfL [(0,V4 n f)],_,ha,rfl,hx.1,hx.2,Bp (Bn hL hL) _ (AoC _ _ n f 40 (n+40) (LQ n f 40) hk (Tf (by omega)) hb (AP (h0 _))),Au.one λq hq=>(V6 n f 40 q hq).symm⟩
theorem AkZ {s n m:Nat} {g g':Nat->V} (h:∀ i,i<m->g' i=g i) {S:Nat->Prop} {w:World} {κ:Ai} {c:Value} (hv:VR S w (.slr s n m g) κ c):VR S w (.slr s n m g') κ c:=by
 obtain ⟨a,cap,e,h1,h2,h3⟩:=hv;refine ⟨a,cap,e,h1,h2,h3.imp id ?_⟩
 rintro ⟨b,o,ea,hel⟩
 refine ⟨b,o,ea,λi hi=>?_⟩;rw [h i hi];exact hel i hi
noncomputable def AfH:AH:=(31,Vz)::(21,P3)::[]
theorem AfG:Ao Tryz.prog Gl AfH:=.cons p85 <| .cons p42 .nil
def AaD (n m:Nat) (g:Nat->E6) (f:Nat->E6):Lp:=⟨bmK 29 0 [0,1,4,5,6],0,bmK 29 0 [0,1,4],0,41⟩
def Agg (n m:Nat) (g:Nat->E6) (f:Nat->E6) (i:Nat) (j:Nat->V):St:=⟨jsV 29 0 j [(0,.slr 6 n m (λi=>eV (g i))),(1,.sl 6 n (λi=>eV (f i))),(4,bV false),(5,.sl 6 (toN (wr .i64 (Aj (ofNat n) 40))) (λi=>eV (g i))),(6,nV i)],[]⟩
def Aex (n m:Nat) (g:Nat->E6) (f:Nat->E6) (i:Nat):Ex×St:=(.ex 0,⟨jsV 29 0 Ac [(0,.slr 6 n m (λi=>eV (g i))),(1,.sl 6 n (λi=>eV (f i))),(4,bV false)],[]⟩)
noncomputable def U9 (L:LT):St->T (Ex×St):=λst=>A8 tab ⟨A6 AfH,L,Gl⟩ (A0 Tryz.f13 0) 0 st
section
variable (L:LT) (n m:Nat) (g:Nat->E6) (f:Nat->E6) (i:Nat)  (j:Nat->V)
include L n m g f i j
theorem AmL (h0:ilt (ofNat i) 40=false):Ap (U9 L) (AaD n m g f) (Agg n m g f i j)=some ((.ex 0),⟨jsV 29 0 Ac [(0,.slr 6 n m (λi=>eV (g i))),(1,.sl 6 n (λi=>eV (f i))),(4,bV false)],[]⟩):=by
 exact Ag (ks:=[kn h0]) (by kernel_rfl)
theorem AmK (h0:ilt (ofNat i) 40=true) (h1:Av (ile 0 (wr .i64 (Aj (ofNat n) (ofNat i)))) (ilt (wr .i64 (Aj (ofNat n) (ofNat i))) (ofNat (toN (wr .i64 (Aj (ofNat n) 40)))))=true) (h2:eqE (g (toN (wr .i64 (Aj (ofNat n) (ofNat i))))) (Cw (ofNat i))=true):Ap (U9 L) (AaD n m g f) (Agg n m g f i j)=some (.nm,⟨jsV 29 0 Ac [(0,.slr 6 n m (λi=>eV (g i))),(1,.sl 6 n (λi=>eV (f i))),(4,bV false),(5,.sl 6 (toN (wr .i64 (Aj (ofNat n) 40))) (λi=>eV (g i))),(6,iV (wr .i64 (Aj (ofNat i) 1)))],[]⟩):=by
 exact Ag (ks:=[kn h0,kn h1,kN (kn h2)]) (by kernel_rfl)
end
def ApA (n m:Nat) (g:Nat->E6) (f:Nat->E6) :Nat->V:=lkV A5 [(7,.slr 6 n m (λi=>eV (g i))),(8,.sl 6 n (λi=>eV (f i))),(9,nV n),(10,iV (wr .i64 (Aj (ofNat n) 40))),(11,.sl 6 (toN (wr .i64 (Aj (ofNat n) 40))) (λi=>eV (g i)))]
theorem AoB (L:LT) (p0:PT) (n m:Nat) (g:Nat->E6) (f:Nat->E6) (i:Nat) (h0:Av (ile 0 (wr .i64 (Aj (ofNat n) 40))) (ile (wr .i64 (Aj (ofNat n) 40)) (ofNat m))=true) (h1:Cr n=true) (hp0:p0 (U9 (onP 0 p0 (Aex n m g f i) L)) (Agg n m g f 0 (ApA n m g f ))=true):(AK (Ar tab ⟨A6 AfH,onP 0 p0 (Aex n m g f i) L,Gl⟩ Tryz.f13 [.slr 6 n m (λi=>eV (g i)),Am n f] [])).sem=some ((bV (EB n g n f)),[]):=by
 exact Ag (ks:=[kn h0,kn hp0,kL n,kL n,kn h1]) (by kernel_rfl)
def Zf (n m:Nat) (g:Nat->E6) (k:Nat) (f:Nat->E6):Bool:=decide (n=k) && (decide (m=n+40) && (CQ n (λi=>eqE (g i) (f i)) && CQ 40 λi=>eqE (g (n+i)) (Cw (ofNat i))))
theorem AhI (L:LT) (n m:Nat) (g f:Nat->E6) (hn:(n+60) * 40 <= 140737488355328) (hg:∀ i,i<40->g (n+i)=Cw (ofNat i)):∀ (d i:Nat) (j:Nat->V) (q:Nat),40=i+d->d<q ->
  (Ax (U9 L) (AaD n m g f) q (Agg n m g f i j)).sem=some (Aex n m g f 40)
 | 0,i,j,q+1,h,_=>by
  have:i=40:=by omega
  subst this;exact Ae (AmL L n m g f 40 j rfl)
 | d+1,i,j,q+1,h,h2=>by
  have hi:i<40:=by omega
  have hl:ilt (ofNat i) 40=true:=by rw [show (40:Int)=ofNat 40 from rfl,EL,decide_eq_true hi]
  have e1:wr .i64 (Aj (ofNat n) (ofNat i))=ofNat (n+i):=GI (by omega);have e2:wr .i64 (Aj (ofNat n) 40)=ofNat (n+40):=GI (b:=40) (by omega);have hb:Av (ile 0 (wr .i64 (Aj (ofNat n) (ofNat i)))) (ilt (wr .i64 (Aj (ofNat n) (ofNat i))) (ofNat (toN (wr .i64 (Aj (ofNat n) 40)))))=true:=by
   rw [e1,e2]; exact Af (show n+i<n+40 by omega)
  have hq:eqE (g (toN (wr .i64 (Aj (ofNat n) (ofNat i))))) (Cw (ofNat i))=true:=by
   rw [e1,show toN (ofNat (n+i))=n+i from rfl,hg i hi];exact Aen _
  rw [Ae (AmK L n m g f i j hl hb hq),AN,AY hi (by decide)];exact AhI L n m g f hn hg d (i+1) Ac q (by omega) (by omega)
def AdE:List V->A2
 | [.slr s n m g,v]=>match Nat.beq s 6 with
  | true=>.br (CQ m λi=>okE (g i)) (apL v λk f=>.br (BG (Bh n 60)) (.br (Zf n m (λi=>edE (g i)) k f) (out (bV true)) .fail) .fail) .fail
  | false=>.fail
 | _=>.fail
theorem p50:As Tryz.prog Gl 13 AdE:=by
 refine Ah Az mixed Tryz.func13 (by kernel_rfl) (by kernel_rfl) λvs v h' h=>?_;unfold AdE at h;split at h
 ·rename_i s n m g u
  split at h
  ·rename_i hs
   have hs:=Nat.eq_of_beq_eq_true hs;subst hs;obtain ⟨h1,h2⟩:=Ab h;obtain ⟨k,f,ha,h3⟩:=AQ h2;obtain ⟨hn,h4⟩:=Ab h3;obtain ⟨hk,hq⟩:=Ab h4;have:=Aa hq;simp only [Prod.mk.injEq] at this;obtain ⟨rfl,rfl⟩:=this;simp only [Zf,Bool.and_eq_true,decide_eq_true_eq] at hk;obtain ⟨rfl,rfl,hk1,hk2⟩:=hk;have hk1:∀ i,i<n->edE (g i)=f i:=λi hi=>(Dd _ _).1 (Bd.1 hk1 i hi);have hk2:∀ i,i<40->edE (g (n+i))=Cw (ofNat i):=λi hi=>(Dd _ _).1 (Bd.1 hk2 i hi);have h8:(n+60) * 40 <= 140737488355328:=of_decide_eq_true hn;have h1:=Bd.1 h1;have hA:B0 [.slr 6 n (n+40) g,u] [.slr 6 n (n+40) (λi=>eV (edE (g i))),Am n f]:=λS w cs hv=>by
    obtain ⟨c,l,rfl,q1,c2,l2,rfl,q2,q3⟩:=hv;exact ⟨c,_,rfl,AkZ (λi hi=>(Di (h1 i hi)).symm) q1,c2,l2,rfl,ha S w c2 q2,q3⟩
   have hx:=Bm AfG [(0,AaD n (n+40) (λi=>edE (g i)) f)];have hL:=AW [(0,AaD n (n+40) (λi=>edE (g i)) f)];have e2:wr .i64 (Aj (ofNat n) 40)=ofNat (n+40):=GI (b:=40) (by omega);have hb:Av (ile 0 (wr .i64 (Aj (ofNat n) 40))) (ile (wr .i64 (Aj (ofNat n) 40)) (ofNat (n+40)))=true:=by
    rw [e2,FN,EM,decide_eq_true (Nat.le_refl _)];rfl
   have hw:=Bp (Bn hL hL) _ (AoB _ _ n (n+40) (λi=>edE (g i)) f 40 hb (decide_eq_true (by omega)) (AP (AhI _ n (n+40) (λi=>edE (g i)) f h8 hk2 40 0 _ 41 rfl (by omega))));rw [CM.2 ⟨rfl,hk1⟩] at hw;exact ⟨_,BP Gl AfH [(0,AaD n (n+40) (λi=>edE (g i)) f)],_,hA,rfl,hx.1,hx.2,hw,Au.refl _⟩
  ·cases h
 ·cases h
theorem Kh (n:Nat) (f:Nat->E6):Zf n (Bh n 40) (λi=>B2 n f i) n f=true:=by
 simp only [Zf,Bool.and_eq_true,decide_eq_true_eq];refine ⟨trivial,rfl,Bd.2 λi hi=>(Dd _ _).2 ?_,Bd.2 λi hi=>(Dd _ _).2 ?_⟩
 ·simp [B2,hi]
 ·show B2 n f (n+i)=Cw (ofNat i)
  unfold B2;rw [decide_eq_false (show ¬ n+i<n by omega),show n+i-n=i by omega];rfl
theorem LR {n:Nat} {f:Nat->E6} {i:Nat} (h:i<n):B2 n f i=f i:=by simp [B2,h]
theorem AgQ (a:Int):ieq a a=true:=by simp [ieq]
end Go.Proofs.YtkbgidbledjejaaGreat.Ed
namespace Go.Proofs.YtkbgidbledjejaaGreat.Ed
open Go.Sy Go
open Int (ofNat)
theorem Pk {τ:List Ty} {call:FuncId->List V->St->T (V×Res)} {G:Nat->V} {fn:Func} {vs:List V} {H:List Blk} {L L':LT}
  (h:LLe L L'):TLe (Ar τ ⟨call,L,G⟩ fn vs H) (Ar τ ⟨call,L',G⟩ fn vs H):=by
 unfold Ar;cases fn.body with
 | none=>exact TLe.refl _
 | some c=>exact TLe.bind (Mq (Γ:=⟨call,L,G⟩) h c 0 _) λ_=>TLe.refl _
noncomputable def tb43:AH:=(31,Vz)::[]
theorem tb43_ok:Ao Tryz.prog Gl tb43:=.cons p85 .nil
theorem Gs {i k:Nat} (h:i ≠ k):Nat.beq i k=false:=by
 cases hb:Nat.beq i k
 ·rfl
 ·exact absurd (Nat.eq_of_beq_eq_true hb) h
def Tr {α:Type} (z:Nat->α) (i:Nat) (e:α):Nat->α:=λk=>bif Nat.beq k i then e else z k
def Ie {α:Type} (y:Nat->α) (e:α):Nat->Nat->α
 | 0=>y
 | i+1=>Tr (Ie y e i) i e
theorem Wh {α:Type} (y:Nat->α) (e:α):∀ i j,j<i->Ie y e i j=e
 | i+1,j,h=>by
  show (bif Nat.beq j i then e else Ie y e i j)=e;by_cases hj:j=i
  ·rw [hj,Nat.beq_refl]; rfl
  ·rw [Gs hj]; exact Wh y e i j (by omega)
theorem Xb (z:Nat->E6) (i:Nat) (e:E6):BF (λk=>eV (z k)) i (eV e)=λk=>eV (Tr z i e k):=by
 funext k;rw [D7];unfold Tr;cases Nat.beq k i <;> rfl
theorem Ajq (z:Nat->Int) (i:Nat) (e:Int):BF (λk=>iV (z k)) i (iV e)=λk=>iV (Tr z i e k):=by
 funext k;rw [D7];unfold Tr;cases Nat.beq k i <;> rfl
def Sp (g:Nat->V) (n:Nat) (e:V):Nat->Nat->V
 | 0=>g
 | i+1=>AA (n+i) (Sp g n e i) e
theorem Mc (i:Nat):ile 0 (ofNat i)=true:=decide_eq_true (Int.natCast_nonneg i)
def Z1 (n:Nat) (y:Nat->E6) (k:Int) :St:=⟨jsV 17 0 (λ_=>A5) [(0,.ref 0),(1,iV k),(4,iV 0)],[.xrow false 46 6 n (λi=>eV (y i))]⟩
def lp43 (n:Nat) (y:Nat->E6) (k:Int):Lp:=⟨bmK 17 0 [0,1,4],1,bmK 17 0 [],1,n+1⟩
def st43 (n:Nat) (y:Nat->E6) (k:Int) (i:Nat) (z:Nat->E6) (j:Nat->V):St:=⟨jsV 17 0 j [(0,.ref 0),(1,iV k),(4,nV i)],[.xrow false 46 6 n (λi=>eV (z i))]⟩
def Z7 (n:Nat) (y:Nat->E6) (k:Int) (i:Nat) (z:Nat->E6):Ex×St:=(.ex 0,⟨jsV 17 0 Ac [],[.xrow false 46 6 n (λi=>eV (z i))]⟩)
noncomputable def body43 (L:LT):St->T (Ex×St):=λst=>A8 tab ⟨A6 tb43,L,Gl⟩ (A0 Tryz.f14 0) 0 st
section
variable (L:LT) (n:Nat) (y:Nat->E6) (k:Int) (i:Nat) (z:Nat->E6)  (j:Nat->V)
include L n y k i z j
theorem AmT (h0:ilt (ofNat i) (ofNat n)=false):Ap (body43 L) (lp43 n y k) (st43 n y k i z j)=some ((.ex 0),⟨jsV 17 0 Ac [],[.xrow false 46 6 n (λi=>eV (z i))]⟩):=by
 exact Ag (ks:=[kn h0]) (by kernel_rfl)
theorem AmS (h0:ilt (ofNat i) (ofNat n)=true) (h10:ile 0 (ofNat i)=true) (h11:nlt i n=true):Ap (body43 L) (lp43 n y k) (st43 n y k i z j)=some (.nm,⟨jsV 17 0 Ac [(0,.ref 0),(1,iV k),(4,iV (wr .i64 (Aj (ofNat i) 1)))],[.xrow false 46 6 n (BF (λi=>eV (z i)) i (eV (Cw (wr .i64 (Aj 500 k)))))]⟩):=by
 exact Ag (ks:=[kn h0,kA (kn h10) (kn h0),kn h11]) (by kernel_rfl)
end
theorem AoF (L:LT) (p0:PT) (n:Nat) (y:Nat->E6) (k:Int) (z:Nat->E6)  (hp0:p0 (body43 (onP 0 p0 (Z7 n y k n z) L)) (Z1 n y k)=true):(Ar tab ⟨A6 tb43,onP 0 p0 (Z7 n y k n z) L,Gl⟩ Tryz.f14 [.ref 0,iV k] [.xrow false 46 6 n (λi=>eV (y i))]).sem=some ((.tup []),[.xrow false 46 6 n (λi=>eV (z i))]):=by
 exact Ag (ks:=[kn hp0]) (by kernel_rfl)
def Z0 (n:Nat) (g:Nat->V) (k:Int) :St:=⟨jsV 15 0 (λ_=>A5) [(0,.ref 0),(1,iV k),(4,iV 0)],[.xrow true 46 6 n g]⟩
def X7 (n:Nat) (g:Nat->V) (k:Int):Lp:=⟨bmK 15 0 [0,1,4],1,bmK 15 0 [],1,21⟩
def Agj (n:Nat) (g:Nat->V) (k:Int) (i m:Nat) (x:Nat->V) (j:Nat->V):St:=⟨jsV 15 0 j [(0,.ref 0),(1,iV k),(4,nV i)],[.xrow true 46 6 m x]⟩
def Z6 (n:Nat) (g:Nat->V) (k:Int) (i m:Nat) (x:Nat->V):Ex×St:=(.ex 0,⟨jsV 15 0 Ac [],[.xrow true 46 6 m x]⟩)
noncomputable def QX (L:LT):St->T (Ex×St):=λst=>A8 tab ⟨A6 tb43,L,Gl⟩ (A0 Tryz.f15 0) 0 st
section
variable (L:LT) (n:Nat) (g:Nat->V) (k:Int) (i m:Nat) (x:Nat->V)  (j:Nat->V)
include L n g k i m x j
theorem AmR (h0:ilt (ofNat i) 20=false):Ap (QX L) (X7 n g k) (Agj n g k i m x j)=some ((.ex 0),⟨jsV 15 0 Ac [],[.xrow true 46 6 m x]⟩):=by
 exact Ag (ks:=[kn h0]) (by kernel_rfl)
theorem AmQ (h0:ilt (ofNat i) 20=true) (h10:Ci m 1 40=true):Ap (QX L) (X7 n g k) (Agj n g k i m x j)=some (.nm,⟨jsV 15 0 Ac [(0,.ref 0),(1,iV k),(4,iV (wr .i64 (Aj (ofNat i) 1)))],[.xrow true 46 6 (Bh m 1) (AA m x (eV (Cw (wr .i64 (Aj 9000 k)))))]⟩):=by
 exact Ag (ks:=[kn h0,kn h10]) (by kernel_rfl)
end
theorem AoE (L:LT) (p0:PT) (n:Nat) (g:Nat->V) (k:Int) (m:Nat) (x:Nat->V)  (hp0:p0 (QX (onP 0 p0 (Z6 n g k 20 m x) L)) (Z0 n g k)=true):(Ar tab ⟨A6 tb43,onP 0 p0 (Z6 n g k 20 m x) L,Gl⟩ Tryz.f15 [.ref 0,iV k] [.xrow true 46 6 n g]).sem=some ((.tup []),[.xrow true 46 6 m x]):=by
 exact Ag (ks:=[kn hp0]) (by kernel_rfl)
def Zz (n:Nat) (g:Nat->V) (k:Int) :St:=⟨jsV 20 0 (λ_=>A5) [(0,.ref 0),(1,iV k),(4,.ref 1),(5,iV 0),(6,.ref 1)],[.xrow true 46 6 n g,.row 46 6 60 (λ_=>.agg [iV 0,bV false,bV false,iV 0,iV 0,iV 0])]⟩
def X6 (n:Nat) (g:Nat->V) (k:Int):Lp:=⟨bmK 20 0 [0,1,4,5],2,bmK 20 0 [0,4],2,61⟩
def Agi (n:Nat) (g:Nat->V) (k:Int) (i:Nat) (z:Nat->E6) (j:Nat->V):St:=⟨jsV 20 0 j [(0,.ref 0),(1,iV k),(4,.ref 1),(5,nV i)],[.xrow true 46 6 n g,.row 46 6 60 (λi=>eV (z i))]⟩
def Z5 (n:Nat) (g:Nat->V) (k:Int) (i:Nat) (z:Nat->E6):Ex×St:=(.ex 0,⟨jsV 20 0 Ac [(0,.ref 0),(4,.ref 1)],[.xrow true 46 6 n g,.row 46 6 60 (λi=>eV (z i))]⟩)
noncomputable def QW (L:LT):St->T (Ex×St):=λst=>A8 tab ⟨A6 tb43,L,Gl⟩ (A0 Tryz.f16 0) 0 st
section
variable (L:LT) (n:Nat) (g:Nat->V) (k:Int) (i:Nat) (z:Nat->E6)  (j:Nat->V)
include L n g k i z j
theorem AmP (h0:ilt (ofNat i) 60=false):Ap (QW L) (X6 n g k) (Agi n g k i z j)=some ((.ex 0),⟨jsV 20 0 Ac [(0,.ref 0),(4,.ref 1)],[.xrow true 46 6 n g,.row 46 6 60 (λi=>eV (z i))]⟩):=by
 exact Ag (ks:=[kn h0]) (by kernel_rfl)
theorem AmO (h0:ilt (ofNat i) 60=true) (h10:ile 0 (ofNat i)=true) (h11:nlt i 60=true):Ap (QW L) (X6 n g k) (Agi n g k i z j)=some (.nm,⟨jsV 20 0 Ac [(0,.ref 0),(1,iV k),(4,.ref 1),(5,iV (wr .i64 (Aj (ofNat i) 1)))],[.xrow true 46 6 n g,.row 46 6 60 (BF (λi=>eV (z i)) i (eV (Cw (wr .i64 (Aj 20000 k)))))]⟩):=by
 exact Ag (ks:=[kn h0,kA (kn h10) (kn h0),kn h11]) (by kernel_rfl)
end
theorem AoD (L:LT) (p0:PT) (n:Nat) (g:Nat->V) (k:Int) (z:Nat->E6) (h0:F2 40 60 60=true) (h10:Ci n 60 40=true) (hp0:p0 (QW (onP 0 p0 (Z5 n g k 60 z) L)) (Zz n g k)=true):(Ar tab ⟨A6 tb43,onP 0 p0 (Z5 n g k 60 z) L,Gl⟩ Tryz.f16 [.ref 0,iV k] [.xrow true 46 6 n g]).sem=some ((.tup []),[.xrow true 46 6 (Bh n 60) (BY n 60 g (λi=>eV (z i))),.row 46 6 60 (λi=>eV (z i))]):=by
 exact Ag (ks:=[kn h0,kn hp0,kn h10]) (by kernel_rfl)
theorem run43 (L:LT) (n:Nat) (y:Nat->E6) (k:Int) (hn:n <= 4611686018427387904):∀ (d i:Nat) (j:Nat->V) (q:Nat),n=i+d->d<q ->
  (Ax (body43 L) (lp43 n y k) q (st43 n y k i (Ie y (Cw (wr .i64 (Aj 500 k))) i) j)).sem=some (Z7 n y k n (Ie y (Cw (wr .i64 (Aj 500 k))) n))
 | 0,i,j,q+1,h,_=>by
  have:n=i:=by omega
  subst this;exact Ae (AmT L n y k n _ j (A4 (Nat.le_refl _)))
 | d+1,i,j,q+1,h,h2=>by
  have hi:i<n:=by omega
  have h1:=AmS L n y k i (Ie y (Cw (wr .i64 (Aj 500 k))) i) j (ofNat_lt hi) (Mc i) (decide_eq_true hi);rw [Xb] at h1;rw [Ae h1,AN,AY hi (by omega)];exact run43 L n y k hn d (i+1) Ac q (by omega) (by omega)
theorem Aes (n:Nat) (y:Nat->E6) (k:Int):Z1 n y k=st43 n y k 0 y (λi=>nth (Z1 n y k).t i):=by kernel_rfl
def Adp (n:Nat) (g:Nat->V):List V->T (Nat->V)
 | [.val (.int .i64 k)]=>.br (Cr n) (.br (CQ n λi=>okE (g i)) (.leaf λ_=>eV (Cw (wr .i64 (Aj 500 k)))) .fail) .fail
 | _=>.fail
theorem m43:Rw Tryz.prog Gl 14 (YV 46 6 Adp):=by
 refine Ado Az mixed Tryz.func14 (by kernel_rfl) (by kernel_rfl) λn g vs g' h=>?_;unfold Adp at h;split at h
 ·rename_i k
  obtain ⟨hn,h⟩:=Ab h;obtain ⟨hg,h⟩:=Ab h;have:=Aa h;subst this;have hn:n <= 4611686018427387904:=of_decide_eq_true hn;have hx:=Bm tb43_ok [(0,lp43 n (λi=>edE (g i)) k)];have hL:=AW [(0,lp43 n (λi=>edE (g i)) k)];have h0:∀ L,(B9 [(0,lp43 n (λi=>edE (g i)) k)] 0 (body43 L) (Z1 n (λi=>edE (g i)) k)).sem=some (Z7 n (λi=>edE (g i)) k n (Ie (λi=>edE (g i)) (Cw (wr .i64 (Aj 500 k))) n)):=λL=>by
   rw [Aes];exact run43 L n (λi=>edE (g i)) k hn n 0 _ (n+1) (by omega) (by omega)
  exact ⟨rfl,λ_ _=>rfl,BP Gl tb43 [(0,lp43 n (λi=>edE (g i)) k)],rfl,hx.1,hx.2,_,_,_,λi hi=>(Di (Bd.1 hg i hi)).symm,
   Pk (Bn hL hL) _ (AoF _ _ n (λi=>edE (g i)) k (Ie (λi=>edE (g i)) (Cw (wr .i64 (Aj 500 k))) n) (AP (h0 _))),rfl,λi hi=>by show eV _=eV _; rw [Wh _ _ n i hi]⟩
 ·cases h
theorem AhL (L:LT) (n:Nat) (g:Nat->V) (k:Int) (h8:(n+60) * 40 <= 140737488355328) (c:Nat) (hc:c=20):∀ (d i:Nat) (j:Nat->V) (q:Nat),c=i+d->d<q ->
  (Ax (QX L) (X7 n g k) q (Agj n g k i (n+i) (Sp g n (eV (Cw (wr .i64 (Aj 9000 k)))) i) j)).sem=some (Z6 n g k c (n+c) (Sp g n (eV (Cw (wr .i64 (Aj 9000 k)))) c))
 | 0,i,j,q+1,h,_=>by
  have:c=i:=by omega
  subst this;have hl:ilt (ofNat c) 20=false:=by rw [show (20:Int)=ofNat 20 from rfl,EL,decide_eq_false (by omega)]
  exact Ae (AmR L n g k c (n+c) _ j hl)
 | d+1,i,j,q+1,h,h2=>by
  have hl:ilt (ofNat i) 20=true:=by rw [show (20:Int)=ofNat 20 from rfl,EL,decide_eq_true (by omega)]
  have h9:(n+i+1) * 40 <= 140737488355328:=Nat.le_trans (Nat.mul_le_mul_right 40 (show n+i+1 <= n+60 by omega)) h8;have ha:Ci (n+i) 1 40=true:=decide_eq_true h9;have h1:=AmQ L n g k i (n+i) (Sp g n (eV (Cw (wr .i64 (Aj 9000 k)))) i) j hl ha;rw [Ae h1,AN,AY (show i<20 by omega) (by decide)];exact AhL L n g k h8 c hc d (i+1) Ac q (by omega) (by omega)
theorem Aer (n:Nat) (g:Nat->V) (k:Int):Z0 n g k=Agj n g k 0 (n+0) g (λi=>nth (Z0 n g k).t i):=by kernel_rfl
def SJ (n:Nat) (_:Nat->V):List V->T Unit
 | [.val (.int .i64 _)]=>.br (Ci n 60 40) (.leaf ()) .fail
 | _=>.fail
theorem m44:Rw Tryz.prog Gl 15 (SI 46 6 SJ):=by
 refine VT Az mixed Tryz.func15 (by kernel_rfl) (by kernel_rfl) λn g vs u h=>?_;unfold SJ at h;split at h
 ·rename_i k
  obtain ⟨hn,h⟩:=Ab h;have h8:(n+60) * 40 <= 140737488355328:=of_decide_eq_true hn;have hx:=Bm tb43_ok [(0,X7 n g k)];have hL:=AW [(0,X7 n g k)];have h0:∀ L,(B9 [(0,X7 n g k)] 0 (QX L) (Z0 n g k)).sem=some (Z6 n g k 20 (n+20) (Sp g n (eV (Cw (wr .i64 (Aj 9000 k)))) 20)):=λL=>by
   rw [Aer];exact AhL L n g k h8 20 rfl 20 0 _ 21 rfl (by omega)
  exact ⟨rfl,BP Gl tb43 [(0,X7 n g k)],rfl,hx.1,hx.2,_,Pk (Bn hL hL) _ (AoE _ _ n g k (n+20) (Sp g n (eV (Cw (wr .i64 (Aj 9000 k)))) 20) (AP (h0 _)))⟩
 ·cases h
theorem AhK (L:LT) (n:Nat) (g:Nat->V) (k:Int) (y:Nat->E6) (c:Nat) (hc:c=60):∀ (d i:Nat) (j:Nat->V) (q:Nat),c=i+d->d<q ->
  (Ax (QW L) (X6 n g k) q (Agi n g k i (Ie y (Cw (wr .i64 (Aj 20000 k))) i) j)).sem=some (Z5 n g k c (Ie y (Cw (wr .i64 (Aj 20000 k))) c))
 | 0,i,j,q+1,h,_=>by
  have:c=i:=by omega
  subst this;have hl:ilt (ofNat c) 60=false:=by rw [show (60:Int)=ofNat 60 from rfl,EL,decide_eq_false (by omega)]
  exact Ae (AmP L n g k c _ j hl)
 | d+1,i,j,q+1,h,h2=>by
  have hi:i<60:=by omega
  have hl:ilt (ofNat i) 60=true:=ofNat_lt hi;have h1:=AmO L n g k i (Ie y (Cw (wr .i64 (Aj 20000 k))) i) j hl (Mc i) (decide_eq_true hi);rw [Xb] at h1;rw [Ae h1,AN,AY hi (by decide)];exact AhK L n g k y c hc d (i+1) Ac q (by omega) (by omega)
theorem Aeq (n:Nat) (g:Nat->V) (k:Int):Zz n g k=Agi n g k 0 (λ_=>Bv) (λi=>nth (Zz n g k).t i):=by kernel_rfl
theorem m45:Rw Tryz.prog Gl 16 (SI 46 6 SJ):=by
 refine VT Az mixed Tryz.func16 (by kernel_rfl) (by kernel_rfl) λn g vs u h=>?_;unfold SJ at h;split at h
 ·rename_i k
  obtain ⟨hn,h⟩:=Ab h;have hx:=Bm tb43_ok [(0,X6 n g k)];have hL:=AW [(0,X6 n g k)];have h0:∀ L,(B9 [(0,X6 n g k)] 0 (QW L) (Zz n g k)).sem=some (Z5 n g k 60 (Ie (λ_=>Bv) (Cw (wr .i64 (Aj 20000 k))) 60)):=λL=>by
   rw [Aeq];exact AhK L n g k _ 60 rfl 60 0 _ 61 rfl (by omega)
  exact ⟨rfl,BP Gl tb43 [(0,X6 n g k)],rfl,hx.1,hx.2,_,Pk (Bn hL hL) _ (AoD _ _ n g k (Ie (λ_=>Bv) (Cw (wr .i64 (Aj 20000 k))) 60) (by decide) hn (AP (h0 _)))⟩
 ·cases h
end Go.Proofs.YtkbgidbledjejaaGreat.Ed
namespace Go.Proofs.YtkbgidbledjejaaGreat.En
open Go.Sy Go Go.Proofs.YtkbgidbledjejaaGreat.Ed
set_option maxRecDepth 100000
theorem Anj {i n:Nat} (h:i<n):ile (Int.ofNat n) (Int.ofNat i)=false:=decide_eq_false (by show ¬ ((n:Int) <= (i:Int)); omega)
def TA (e l f:E6):Bool:=Av (ieq e.src l.dst) (ieq e.dst f.src)
def Ajr:List V->A2
 | [v,.pp l,.pp f]=>.br (okE v) (.br (okE l) (.br (okE f) (.leaf (bV (TA (edE v) (edE l) (edE f)),[])) .fail) .fail) .fail
 | _=>.fail
noncomputable def tbZ:AH:=[]
theorem It:Ao Tryz.prog Gl tbZ:=.nil
theorem Apu:As Tryz.prog Gl 107 Ajr:=by
 refine Ah Az mixed Tryz.func107 (by kernel_rfl) (by kernel_rfl) λvs v h' h=>?_;unfold Ajr at h;split at h
 ·rename_i a b c
  obtain ⟨g1,h⟩:=Ab h;obtain ⟨g2,h⟩:=Ab h;obtain ⟨g3,h⟩:=Ab h;cases Aa h;have hx:=Ba It [] (G:=Gl);refine ⟨_,cxA Gl tbZ [],_,B0.refl _,rfl,hx.1,hx.2,?_,Au.refl _⟩;rw [Di g1,Di g2,Di g3];generalize edE a=e;generalize edE b=l;generalize edE c=f;show (AK (Ar tab (cxA Gl tbZ []) Tryz.f107 [eV e,.pp (eV l),.pp (eV f)] [])).sem=some (bV (TA e l f),[]);cases h0:ieq e.src l.dst with
  | true=>exact DW.ok (.r 6 h0 <| .e (congrArg (λb=>(bV b,([]:List Blk))) (by unfold TA; rw [h0] <;> rfl))) (by kernel_rfl)
  | false=>exact DW.ok (.r 6 h0 <| .e (congrArg (λb=>(bV b,([]:List Blk))) (by unfold TA; rw [h0] <;> rfl))) (by kernel_rfl)
 ·cases h
abbrev Xc (v:Nat->E6) (l f:E6) (i:Nat):Bool:=TA (v i) l f
def Ak0:List V->A2
 | [u,.fn 107 [.pp l,.pp f]]=>apL u λn v=>.br (okE l) (.br (okE f) (.br (Cr n) (.br (isN (A1 (Xc v (edE l) (edE f)) n 0)) (.leaf (iV (-1),[])) (.leaf (nO (Xc v (edE l) (edE f)) n,[]))) .fail) .fail) .fail
 | _=>.fail
noncomputable def AbX:AH:=(107,Ajr)::[]
theorem AbW:Ao Tryz.prog Gl AbX:=.cons Apu <| .nil
def Aih:Lp:=⟨bmK 19 0 [0,1,4,6,7,8],0,bmK 19 0 [4],0,4611686018427387905⟩
def Aop (n:Nat) (v:Nat->E6) (l f:E6) (c:Int) (a:Unit) (j:Nat->V):St:=⟨jsV 19 0 j [(0,.sl 6 n (λi=>eV (v i))),(1,.fn 107 [.pp (eV l),.pp (eV f)]),(4,iV 0),(6,.sl 6 n (λi=>eV (v i))),(7,nV n),(8,iV c)],[]⟩
noncomputable def ApX (L:LT):St->T (Ex×St):=λst=>A8 tab ⟨A6 AbX,L,Gl⟩ (A0 Tryz.f116 0) 0 st
def Tk (n:Nat) (v:Nat->E6) (l f:E6) (i:Nat) (a:Unit):Ex×St:=(.rt,⟨jsV 19 0 Ac [(4,nV i)],[]⟩)
def AnA (n:Nat) (v:Nat->E6) (l f:E6) (i:Nat) (a:Unit):T ((Unit) ⊕ (Ex×St)):=.br (TA (v i) l f) (.leaf (.inr (Tk n v l f i a))) (.leaf (.inl ()))
def Aix (n:Nat) (v:Nat->E6) (l f:E6) (a:Unit):Ex×St:=(.ex 0,⟨jsV 19 0 Ac [(4,iV 0)],[]⟩)
theorem AmW (L:LT) (n:Nat) (v:Nat->E6) (l f:E6)  (hn:n <= 4611686018427387904) {e:Ex×St} {a:Unit} {j:Nat->V} (h:DO (AnA n v l f) (Aix n v l f) n 0 a=some e):(Ax (ApX L) Aih 4611686018427387905 (Aop n v l f 0 a j)).sem=some (exR e) :=
 Ef Ha hn (λi a j r hi h=>DK.ok (L:=goR (Aop n v l f) exR i) (.k (ofNat_lt hi) <| .k (Af hi) <| .r 3 eT <| .c (λh1=>.k h1 <| .l) λh1=>.k h1 <| .l) (by kernel_rfl) h) (λa j=>DK.ok (C:=.leaf (Aix n v l f a)) (L:=exR) (.k (A4 (Nat.le_refl n)) .l) (by kernel_rfl) rfl) (Nat.zero_add _).symm (Nat.lt_succ_of_le hn) h
def YW:List (Nat×Lp×List (Nat×(Nat->V))):=[(0,Aih,[])]
theorem Apo:As Tryz.prog Gl 116 Ak0:=by
 refine Ah Az mixed Tryz.func116 (by kernel_rfl) (by kernel_rfl) λvs v h' h=>?_;unfold Ak0 at h;split at h
 ·rename_i u b c
  obtain ⟨n,v,ha,h⟩:=AQ h;obtain ⟨g2,h⟩:=Ab h;obtain ⟨g3,h⟩:=Ab h;obtain ⟨hn,h⟩:=Ab h;have hn:n <= 4611686018427387904:=of_decide_eq_true hn;have hx:=Ba AbW YW (G:=Gl);refine ⟨[Am n v,.fn 107 [.pp b,.pp c]],cxA Gl AbX YW,_,λS w cs hq=>by
   obtain ⟨c,l,rfl,q1,q2⟩:=hq;exact ⟨c,_,rfl,ha S w c q1,q2⟩,rfl,hx.1,hx.2,?_,Au.refl _⟩
  rw [Di g2,Di g3];generalize edE b=l at h;generalize edE c=f at h;have go:∀ i,(AnA n v l f i ()).sem=sel (Xc v l f i) (some (.inr (Tk n v l f i ()))) (some (.inl ())):=λi=>rfl;exact DK.ok (L:=λa=>a) (.c (λh1=>.a (AmW (C6 YW) n v l f hn (j:=λ_=>.und) (IO (acc:=λ_=>()) (x:=λi=>Tk n v l f i ()) (λi _ hq=>by rw [go,hq]; rfl) (λi _ hq=>by rw [go,hq]; rfl) h1)) .l) λh1=>.a (AmW (C6 YW) n v l f hn (j:=λ_=>.und) (IN (acc:=λ_=>()) (x:=λi=>Tk n v l f i ()) (λi _ hq=>by rw [go,hq]; rfl) (λi _ hq=>by rw [go,hq]; rfl) h1)) .l) (by kernel_rfl) h
 ·cases h
def VP (n:Nat) (v:Nat->E6) (l f:E6):Bool:=AL (isN (A1 (Xc v l f) n 0))
def Ak4:List V->A2
 | [u,.fn 107 [.pp l,.pp f]]=>apL u λn v=>.br (okE l) (.br (okE f) (.br (Cr n) (.leaf (bV (VP n v (edE l) (edE f)),[])) .fail) .fail) .fail
 | _=>.fail
noncomputable def Acb:AH:=(116,Ak0)::[]
theorem Aca:Ao Tryz.prog Gl Acb:=.cons Apo <| .nil
theorem Apv:As Tryz.prog Gl 106 Ak4:=by
 refine Ah Az mixed Tryz.func106 (by kernel_rfl) (by kernel_rfl) λvs v h' h=>?_;unfold Ak4 at h;split at h
 ·rename_i u b c
  obtain ⟨n,v,ha,h⟩:=AQ h;obtain ⟨g2,h⟩:=Ab h;obtain ⟨g3,h⟩:=Ab h;obtain ⟨hn,h⟩:=Ab h;cases Aa h;have hx:=Ba Aca [] (G:=Gl);refine ⟨[Am n v,.fn 107 [.pp b,.pp c]],cxA Gl Acb [],_,λS w cs hq=>by
   obtain ⟨c,l,rfl,q1,q2⟩:=hq;exact ⟨c,_,rfl,ha S w c q1,q2⟩,rfl,hx.1,hx.2,?_,Au.refl _⟩
  rw [Di g2,Di g3];generalize edE b=l;generalize edE c=f;show (AK (Ar tab (cxA Gl Acb []) Tryz.f106 [Am n v,.fn 107 [.pp (eV l),.pp (eV f)]] [])).sem=some (bV (VP n v l f),[]);cases h1:isN (A1 (Xc v l f) n 0) with
  | true=>exact DW.ok (.k (eL n) <| .k eT <| .k eT <| .k hn <| .k h1 <| .e (congrArg (λb=>(bV b,([]:List Blk))) (by unfold VP; rw [h1] <;> rfl))) (by kernel_rfl)
  | false=>exact DW.ok (.k (eL n) <| .k eT <| .k eT <| .k hn <| .k h1 <| .e (congrArg (λb=>(bV b,([]:List Blk))) (by unfold VP; rw [h1] <;> exact (Mc _)))) (by kernel_rfl)
 ·cases h
def Akc:List V->A2
 | [.val (.int .i64 _)]=>.leaf (bV false,[])
 | _=>.fail
theorem Apm:As Tryz.prog Gl 121 Akc:=by
 refine Ah Az mixed Tryz.func121 (by kernel_rfl) (by kernel_rfl) λvs v h' h=>?_;unfold Akc at h;split at h
 ·rename_i x
  cases Aa h;have hx:=Ba It [] (G:=Gl);exact ⟨[iV x],cxA Gl tbZ [],_,B0.refl _,rfl,hx.1,hx.2,DW.ok (.e (congrArg (λb=>(bV b,([]:List Blk))) (show AL (ieq x x)=false by rw [eI]; rfl))) (by kernel_rfl),Au.refl _⟩
 ·cases h
def sgI (x y:Int):Int:=bif ilt x y then -1 else bif ilt y x then 1 else 0
def sgT:List V->A2
 | [.val (.int .i64 x),.val (.int .i64 y)]=>.leaf (iV (sgI x y),[])
 | _=>.fail
noncomputable def AhD:AH:=(121,Akc)::[]
theorem AbY:Ao Tryz.prog Gl AhD:=.cons Apm <| .nil
theorem App:As Tryz.prog Gl 115 sgT:=by
 refine Ah Az mixed Tryz.func115 (by kernel_rfl) (by kernel_rfl) λvs v h' h=>?_;unfold sgT at h;split at h
 ·rename_i x y
  cases Aa h;have hx:=Ba AbY [] (G:=Gl);exact ⟨[iV x,iV y],cxA Gl AhD [],_,B0.refl _,rfl,hx.1,hx.2,DW.ok (.r 2 eF <| .c (ilt x y) (λh1=>.k h1 <| .e (congrArg (λb=>(iV b,([]:List Blk))) (by unfold sgI; rw [h1] <;> rfl))) λh1=>.k h1 <| .c (ilt y x) (λh2=>.k h2 <| .e (congrArg (λb=>(iV b,([]:List Blk))) (by unfold sgI; rw [h1,h2] <;> rfl))) λh2=>.k h2 <| .e (congrArg (λb=>(iV b,([]:List Blk))) (by unfold sgI; rw [h1,h2] <;> rfl))) (by kernel_rfl),Au.refl _⟩
 ·cases h
abbrev sgQ (x y:Nat->Int) (i:Nat):Bool:=AL (ieq (sgI (x i) (y i)) 0)
def RJ (n:Nat) (x y:Nat->Int):Int:=bif isN (A1 (sgQ x y) n 0) then 0 else sgI (x (tO (sgQ x y) n)) (y (tO (sgQ x y) n))
def cmT:List V->A2:=AkW λn x m y=>.br (Fz n m) (.br (Cr n) (.leaf (iV (RJ n x y),[])) .fail) .fail
noncomputable def Acd:AH:=(115,sgT)::[]
theorem Acc:Ao Tryz.prog Gl Acd:=.cons App <| .nil
def Ail:Lp:=⟨bmK 36 0 [0,1,4,9,10,11],0,bmK 36 0 [0,1,4],0,4611686018427387905⟩
def Aoq (n:Nat) (x y:Nat->Int) (c:Int) (a:Unit) (j:Nat->V):St:=⟨jsV 36 0 j [(0,.sl 1 n (λi=>iV (x i))),(1,.sl 1 n (λi=>iV (y i))),(4,iV 0),(9,.sl 1 n (λi=>iV (x i))),(10,nV n),(11,iV c)],[]⟩
noncomputable def ApZ (L:LT):St->T (Ex×St):=λst=>A8 tab ⟨A6 Acd,L,Gl⟩ (A0 Tryz.f105 0) 0 st
def Tl (n:Nat) (x y:Nat->Int) (i:Nat) (a:Unit):Ex×St:=(.rt,⟨jsV 36 0 Ac [(0,.sl 1 n (λi=>iV (x i))),(1,.sl 1 n (λi=>iV (y i))),(4,iV (sgI (x i) (y i)))],[]⟩)
def AnB (n:Nat) (x y:Nat->Int) (i:Nat) (a:Unit):T ((Unit) ⊕ (Ex×St)):=.br (ieq (sgI (x i) (y i)) 0) (.leaf (.inl ())) (.leaf (.inr (Tl n x y i a)))
def Aiy (n:Nat) (x y:Nat->Int) (a:Unit):Ex×St:=(.ex 0,⟨jsV 36 0 Ac [(0,.sl 1 n (λi=>iV (x i))),(1,.sl 1 n (λi=>iV (y i))),(4,iV 0)],[]⟩)
theorem AmY (L:LT) (n:Nat) (x y:Nat->Int)  (hn:n <= 4611686018427387904) {e:Ex×St} {a:Unit} {j:Nat->V} (h:DO (AnB n x y) (Aiy n x y) n 0 a=some e):(Ax (ApZ L) Ail 4611686018427387905 (Aoq n x y 0 a j)).sem=some (exR e) :=
 Ef Ha hn (λi a j r hi h=>DK.ok (L:=goR (Aoq n x y) exR i) (.k (ofNat_lt hi) <| .k (Af hi) <| .k (Anj hi) <| .k (Af hi) <| .c (λh2=>.k (eN h2) <| .l) λh2=>.k (eN h2) <| .l) (by kernel_rfl) h) (λa j=>DK.ok (C:=.leaf (Aiy n x y a)) (L:=exR) (.k (A4 (Nat.le_refl n)) .l) (by kernel_rfl) rfl) (Nat.zero_add _).symm (Nat.lt_succ_of_le hn) h
def YX:List (Nat×Lp×List (Nat×(Nat->V))):=[(0,Ail,[])]
theorem Apw:As Tryz.prog Gl 105 cmT:=by
 refine Ah Az mixed Tryz.func105 (by kernel_rfl) (by kernel_rfl) λvs v h' h=>?_;unfold cmT at h;obtain ⟨n,x,m,y,ha,h⟩:=Abm h;obtain ⟨hm,h2⟩:=Ab h;obtain ⟨hn,h3⟩:=Ab h2;cases Aa h3;obtain rfl:n=m:=Nat.eq_of_beq_eq_true hm;have hn:n <= 4611686018427387904:=of_decide_eq_true hn;have hx:=Ba Acc YX (G:=Gl);refine ⟨[Cn n x,Cn n y],cxA Gl Acd YX,_,ha,rfl,hx.1,hx.2,?_,Au.refl _⟩;have go:∀ i,(AnB n x y i ()).sem=sel (sgQ x y i) (some (.inr (Tl n x y i ()))) (some (.inl ())):=λi=>by
  show sel (ieq (sgI (x i) (y i)) 0) _ _=sel (AL (ieq (sgI (x i) (y i)) 0)) _ _;cases ieq (sgI (x i) (y i)) 0 <;> rfl
 cases h1:isN (A1 (sgQ x y) n 0) with
 | true =>
  have hs:RJ n x y=0:=by unfold RJ; rw [h1]; rfl
  exact DW.ok (.a (AmY (C6 YX) n x y hn (j:=λ_=>.und) (IO (acc:=λ_=>()) (x:=λi=>Tl n x y i ()) (λi _ hq=>by rw [go,hq]; rfl) (λi _ hq=>by rw [go,hq]; rfl) h1)) <| .k (A4 (Nat.le_refl n)) <| .e (congrArg (λb=>(iV b,([]:List Blk))) hs.symm)) (by kernel_rfl)
 | false =>
  have hs:RJ n x y=sgI (x (tO (sgQ x y) n)) (y (tO (sgQ x y) n)):=by unfold RJ; rw [h1]; rfl
  exact DW.ok (.a (AmY (C6 YX) n x y hn (j:=λ_=>.und) (IN (acc:=λ_=>()) (x:=λi=>Tl n x y i ()) (λi _ hq=>by rw [go,hq]; rfl) (λi _ hq=>by rw [go,hq]; rfl) h1)) <| .e (congrArg (λb=>(iV b,([]:List Blk))) hs.symm)) (by kernel_rfl)
end Go.Proofs.YtkbgidbledjejaaGreat.En
