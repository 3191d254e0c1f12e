/-
  Layer 4: the parts of a cycle. No conditions.
-/
import Derived.Test.YtkbgidbledjejaaGreatEdO
import Derived.Test.YtkbgidbledjejaaGreatSyU
namespace Go.Proofs.YtkbgidbledjejaaGreat.Ed
open Go.Sy
open Int (ofNat)
def D8 (p:Nat->Bool) (i k:Nat):Int:=bif decide (k<i) then ofNat (AC p k) else 0
def Br (p:Nat->Bool) (n k:Nat):Int:=bif decide (k<n) then (bif decide (AC p k=AC p n) then 0 else ofNat (AC p k)) else 0
def Z1 (h:Nat->Int) (i:Nat) (s:Int) (k:Nat):Int:=bif decide (k=i) then s else h k
theorem Tb (h:Nat->Int) (i:Nat) (s:Int):BJ (λk=>iV (h k)) i (iV s)=λk=>iV (Z1 h i s k):=by
 funext k;rw [D1,show Nat.beq k i=decide (k=i) by rw [Bool.eq_iff_iff]; simp];unfold Z1;cases decide (k=i) <;> rfl
theorem Abk (p:Nat->Bool) (i:Nat):Z1 (D8 p i) i (ofNat (AC p i))=D8 p (i+1):=by
 funext k;unfold Z1 D8;by_cases h:k=i
 ·subst h; simp
 ·by_cases h2:k<i
  ·have:k<i+1:=by omega
   simp [h,h2,this]
  ·have:¬ k<i+1:=by omega
   simp [h,h2,this]
theorem Ry (p:Nat->Bool) (i:Nat):Z1 (D8 p (i+1)) i 0=D8 p i:=by
 funext k;unfold Z1 D8;by_cases h:k=i
 ·subst h; simp
 ·by_cases h2:k<i
  ·have:k<i+1:=by omega
   simp [h,h2,this]
  ·have:¬ k<i+1:=by omega
   simp [h,h2,this]
def dn:Nat->Int
 | 0=>-1
 | D+1=>ofNat D
theorem Za {D n:Nat} (h:D <= n) (hn:n <= 4611686018427387904):wr .i64 (Ax (ofNat D) 1)=dn D:=by
 cases D with
 | zero=>rfl
 | succ D =>unfold wr Ax IntKind.wrap dn;simp [IntKind.bits,IntKind.signed];omega
theorem FH (p:Nat->Bool):∀ {i k:Nat},i <= k->AC p i <= AC p k
 | i,0,h=>by
  have:i=0:=by omega
  subst this;exact Nat.le_refl _
 | i,k+1,h=>by
  by_cases h2:i=k+1
  ·subst h2; exact Nat.le_refl _
  ·have:=FH p (show i <= k by omega)
   refine Nat.le_trans this ?_;rw [show AC p (k+1)=(match p k with | true=>AC p k+1 | false=>AC p k) from rfl]
   cases p k
   ·exact Nat.le_refl _
   ·exact Nat.le_succ _
theorem LL (p:Nat->Bool) (n D:Nat) (h:D <= n) (h1:∀ k,k<D->AC p k ≠ AC p n) (h2:∀ k,D <= k->k<n->AC p k=AC p n):D8 p D=Br p n:=by
 funext k;unfold D8 Br;by_cases h3:k<D
 ·have h4:k<n:=by omega
  simp [h3,h4,h1 k h3]
 ·by_cases h4:k<n
  ·simp [h3,h4,h2 k (by omega) h4]
  ·simp [h3,h4]
def fq (b:Bool):V:=match b with
 | true=>.fn 87 []
 | false=>.fn 88 []
def pq (b:Bool):E6->Bool:=match b with
 | true=>λe=>BW e
 | false=>λe=>BK e
def AcH:Lp:=⟨bmK 51 0 [0,1,5,6,13,14,15],2,bmK 51 0 [0,5,6],2,4611686018427387905⟩
def Tw:Lp:=⟨bmK 51 0 [5,6,9],2,bmK 51 0 [5],2,4611686018427387905⟩
def Ahb:List (Nat×Lp×List (Nat×(Nat->V))):=[(0,AcH,[]),(2,Tw,[])]
noncomputable abbrev Zd:Cx:=cxA Gl tbY Ahb
noncomputable def AgA (id:Nat):St->T (Ex×St):=λst=>A8 tab Zd (A1 Tryz.f91 id) id st
def Aez (n:Nat) (h:Nat->Int):List Blk:=[.row 3 1 0 λ_=>.und,.row 3 1 n λk=>iV (h k)]
section
variable {b:Bool} {n:Nat} {f:Nat->E6} (hn:n <= 4611686018427387904)
def AmV (b:Bool) (n:Nat) (f:Nat->E6) (s:Int) (h:Nat->Int) (i:Int):St:=⟨jsV 51 0 Ac [(0,Ao n f),(1,fq b),(5,.ref 1),(6,iV s),(13,Ao n f),(14,nV n),(15,iV i)],Aez n h⟩
abbrev pb (b:Bool) (f:Nat->E6):Nat->Bool:=λk=>pq b (f k)
def Aet (b:Bool) (n:Nat) (f:Nat->E6) (i:Nat):St:=AmV b n f (ofNat (AC (pb b f) i)) (D8 (pb b f) i) (ofNat i)
theorem An5 {i:Nat} (hn:n <= 4611686018427387904) (hi:i<n):Ap (AgA 0) AcH (Aet b n f i)=some (.nm,Aet b n f (i+1)):=by
 have e:∀ {s:Int},s=ofNat (AC (pb b f) (i+1))->(Ex.nm,(⟨jsV 51 0 Ac [(0,Ao n f),(1,fq b),(5,.ref 1),(6,iV s),(13,Ao n f),(14,nV n),(15,iV (wr .i64 (Am (ofNat i) 1)))],[.row 3 1 0 λ_=>.und,.row 3 1 n (BJ (λk=>iV (D8 (pb b f) i k)) i (iV (ofNat (AC (pb b f) i))))]⟩:St))=(Ex.nm,Aet b n f (i+1)):=λh=>by
  rw [h,C2 (by omega),Tb,Abk];rfl
 have c:=EK (pb b f) i;cases hp:pb b f i with
 | true =>have e:=e (s:=wr .i64 (Am (ofNat (AC (pb b f) i)) 1)) (by rw [C2 (by omega),AC,hp]);cases b <;> exact DW.rd (.k (ofNat_lt hi) <| .r 2 (Af hi) <| .k (CG hi) <| .k hp <| .e e) (by kernel_rfl)
 | false =>have e:=e (s:=ofNat (AC (pb b f) i)) (by rw [show AC (pb b f) (i+1)=AC (pb b f) i by rw [AC,hp]]);cases b <;> exact DW.rd (.k (ofNat_lt hi) <| .r 2 (Af hi) <| .k (CG hi) <| .k hp <| .e e) (by kernel_rfl)
def Uz (n:Nat) (s:Int) (h:Nat->Int) (d:Int):St:=⟨jsV 51 0 Ac [(5,.ref 1),(6,iV s),(9,iV d)],Aez n h⟩
def AjZ (n:Nat) (h:Nat->Int):Ex×St:=(.ex 2,⟨jsV 51 0 Ac [(5,.ref 1)],Aez n h⟩)
theorem Ach (p:Nat->Bool) (hn:n <= 4611686018427387904):∀ (D M:Nat),D <= n->D<M->(∀ k,D <= k->k<n->AC p k=AC p n)->(Ay (AgA 2) Tw M (Uz n (ofNat (AC p n)) (D8 p D) (dn D))).sem=some (AjZ n (Br p n))
 | 0,M,h,hM,hb=>by
  obtain ⟨M,rfl⟩:∃ o,M=o+1:=⟨M-1,by omega⟩;rw [<- LL p n 0 h (λk hk=>absurd hk (Nat.not_lt_zero _)) hb];exact Ae (t:=some (.ex 2,_)) (DW.rd (.r 7 (show ile 0 (-1)=false from rfl) <| .k eF <| .l) (by kernel_rfl))
 | D+1,M,h,hM,hb=>by
  obtain ⟨M,rfl⟩:∃ o,M=o+1:=⟨M-1,by omega⟩;have h0:=Hu D;have hi:=Af (show D<n by omega);have hk:=CG (show D<n by omega);have hr:D8 p (D+1) D=ofNat (AC p D):=by simp [D8]
  cases hp:ieq (D8 p (D+1) D) (ofNat (AC p n)) with
  | true =>
   have he:AC p D=AC p n:=by
    rw [hr] at hp;exact Int.ofNat.inj (of_decide_eq_true hp)
   have g:Ap (AgA 2) Tw (Uz n (ofNat (AC p n)) (D8 p (D+1)) (dn (D+1)))=some (.nm,Uz n (ofNat (AC p n)) (D8 p D) (dn D)):=by
    have e:(Ex.nm,(⟨jsV 51 0 Ac [(5,.ref 1),(6,iV (ofNat (AC p n))),(9,iV (wr .i64 (Ax (ofNat D) 1)))],[.row 3 1 0 λ_=>.und,.row 3 1 n (BJ (λk=>iV (D8 p (D+1) k)) D (iV 0))]⟩:St))=(Ex.nm,Uz n (ofNat (AC p n)) (D8 p D) (dn D)):=by
     rw [Za (by omega) hn,Tb,Ry];rfl
    exact DW.rd (.r 3 h0 <| .k hi <| .k h0 <| .k hk <| .r 3 h0 <| .k hp <| .k hi <| .k hk <| .e e) (by kernel_rfl)
   rw [Ae g,AS];exact Ach p hn D M (by omega) (by omega) λk h3 h4=>by
    by_cases h5:k=D
    ·subst h5; exact he
    ·exact hb k (by omega) h4
  | false =>
   have he:AC p D ≠ AC p n:=λe=>by rw [hr,e] at hp; simp [ieq] at hp
   rw [<- LL p n (D+1) h (λk hk e=>he (by have:=FH p (show k <= D by omega); have:=FH p (show D <= n by omega); omega)) hb];exact Ae (t:=some (.ex 2,_)) (DW.rd (.r 3 h0 <| .k hi <| .k h0 <| .k hk <| .r 3 h0 <| .k hp <| .l) (by kernel_rfl))
end
theorem AbV (p:Nat->Bool):D8 p 0=λ_=>0:=by
 funext k;simp [D8]
theorem WZ (p:Nat->Bool) (n:Nat) (h:AC p n=0):D8 p n=Br p n:=by
 funext k;unfold D8 Br;by_cases h3:k<n
 ·have:=FH p (show k <= n by omega)
  have h4:AC p k=0:=by omega
  simp [h3,h,h4]
 ·simp [h3]
def WY:List V->A3
 | [v,.fn g []]=>apL v λn f=>.br (G2 8 (ofNat n) (ofNat n)) (match Nat.beq g 87,Nat.beq g 88 with
  | true,_=>.leaf (.ref 0,[.row 3 1 n λk=>iV (Br (λk=>BW (f k)) n k)])
  | false,true=>.leaf (.ref 0,[.row 3 1 n λk=>iV (Br (λk=>BK (f k)) n k)])
  | false,false=>.fail) .fail
 | _=>.fail
theorem Ak6 (b:Bool) (n:Nat) (f:Nat->E6) (hm:G2 8 (ofNat n) (ofNat n)=true):(AM (Au tab Zd Tryz.f91 [Ao n f,fq b] [])).sem=some (.ref 0,[.row 3 1 n λk=>iV (Br (pb b f) n k)]):=by
 have hn:n <= 4611686018427387904:=by
  simp only [G2,Bool.and_eq_true,decide_eq_true_eq] at hm;have:=hm.2.2.1;simp only [Int.ofNat_eq_natCast] at this;omega
 have h0:(Ay (AgA 0) AcH 4611686018427387905 (AmV b n f 0 (λ_=>0) 0)).sem=some (.ex 0,⟨jsV 51 0 Ac [(0,Ao n f),(5,.ref 1),(6,iV (ofNat (AC (pb b f) n)))],Aez n (D8 (pb b f) n)⟩):=by
  have:=C0 (S:=Aet b n f) (m:=n) (q:=4611686018427387905) (x:=(.ex 0,⟨jsV 51 0 Ac [(0,Ao n f),(5,.ref 1),(6,iV (ofNat (AC (pb b f) n)))],Aez n (D8 (pb b f) n)⟩)) (λh=>by cases h) (λi hi=>An5 hn hi) (by cases b <;> exact DW.rd (.k (A4 (Nat.le_refl n)) <| .l) (by kernel_rfl)) (by omega)
  unfold Aet at this;rw [AbV] at this;exact this
 have h2:=Ach (pb b f) hn n 4611686018427387905 (Nat.le_refl n) (by omega) λk h1 h2=>by omega
 rw [<- Za (Nat.le_refl n) hn] at h2;cases hs:ilt 0 (ofNat (AC (pb b f) n)) with
 | true=>cases b <;> exact DW.ok (.k hm <| .a h0 <| .k hs <| .a h2 <| .l) (by kernel_rfl)
 | false =>rw [<- WZ (pb b f) n (by simpa [ilt] using hs)];cases b <;> exact DW.ok (.k hm <| .a h0 <| .k hs <| .l) (by kernel_rfl)
theorem p92:Ar Tryz.prog Gl 91 WY:=by
 refine Ah A0 mixed Tryz.func91 (by kernel_rfl) (by kernel_rfl) λvs v h' h=>?_;unfold WY at h;split at h
 ·rename_i u g
  obtain ⟨n,f,ha,h1⟩:=Bb h;obtain ⟨hm,hq⟩:=Ab h1;have hA:B2 [u,.fn g []] [Ao n f,.fn g []]:=λS w cs hv=>by
   obtain ⟨c,l,rfl,q1,q2⟩:=hv;exact ⟨c,l,rfl,ha S w c q1,q2⟩
  have hx:=AZ W3 Ahb (G:=Gl);split at hq
  ·rename_i h1
   obtain rfl:=Nat.eq_of_beq_eq_true h1;cases Aa hq;exact ⟨_,Zd,_,hA,rfl,hx.1,hx.2,Ak6 true n f hm,As.refl _⟩
  ·rename_i h1
   obtain rfl:=Nat.eq_of_beq_eq_true h1;cases Aa hq;exact ⟨_,Zd,_,hA,rfl,hx.1,hx.2,Ak6 false n f hm,As.refl _⟩
  ·cases hq
 ·cases h
end Go.Proofs.YtkbgidbledjejaaGreat.Ed
namespace Go.Proofs.YtkbgidbledjejaaGreat.Ed
open Go.Sy
end Go.Proofs.YtkbgidbledjejaaGreat.Ed
namespace Go.Proofs.YtkbgidbledjejaaGreat.Ed
open Go.Sy
def okI (v:V):Bool:=match gI v with
 | some _=>true
 | none=>false
def edI (v:V):Int:=match gI v with
 | some e=>e
 | none=>0
theorem Ac1 {v:V} (h:okI v=true):v=iV (edI v):=by
 unfold okI at h;unfold edI;split at h
 ·rename_i e he
  exact Hy he
 ·cases h
def Co (n:Nat) (f:Nat->Int):V:=.sl 1 n λi=>iV (f i)
def Aga:V->Option (Nat×(Nat->V))
 | .sl s n g=>match Nat.beq s 1 with
  | true=>some (n,g)
  | false=>none
 | _=>none
def apI {α:Type} (v:V) (F:Nat->(Nat->Int)->T α):T α :=
 match Aga v with
 | some (n,g)=>.br (DL n λi=>okI (g i)) (F n λi=>edI (g i)) .fail
 | none=>.fail
theorem Gf {α:Type} {v:V} {F:Nat->(Nat->Int)->T α} {r:α} (h:(apI v F).sem=some r) :
  ∃ n f,(∀ (S:Nat->Prop) (w:World) (c:Value),VR S w v noK c->VR S w (Co n f) noK c)∧(F n f).sem=some r:=by
 unfold apI at h;split at h
 ·rename_i n g hg
  obtain ⟨h1,h2⟩:=Ab h;have h1:=BR.1 h1;refine ⟨n,_,λS w c hv=>?_,h2⟩;unfold Aga at hg;split at hg
  ·rename_i s n' g'
   split at hg
   ·rename_i hs
    simp only [Option.some.injEq,Prod.mk.injEq] at hg;obtain ⟨rfl,rfl⟩:=hg;have hs:s=1:=Nat.eq_of_beq_eq_true hs;subst hs;obtain ⟨a,cap,e,hc,hb⟩:=hv;refine ⟨a,cap,e,hc,hb.imp id ?_⟩
    rintro ⟨b,o,ea,hel⟩
    refine ⟨b,o,ea,λi hi=>?_⟩;have:=hel i hi;rw [Ac1 (h1 i hi)] at this;exact this
   ·cases hg
  ·cases hg
 ·cases h
def AjQ (F:Nat->(Nat->Int)->Nat->(Nat->Int)->A3):List V->A3
 | [v,u]=>apI v λn f=>apI u λm g=>F n f m g
 | _=>.fail
theorem AaF {F:Nat->(Nat->Int)->Nat->(Nat->Int)->A3} {vs:List V} {r:V×List Blk} (h:(AjQ F vs).sem=some r) :
  ∃ n f m g,B2 vs [Co n f,Co m g]∧(F n f m g).sem=some r:=by
 unfold AjQ at h;split at h
 ·obtain ⟨n,f,h1,h2⟩:=Gf h
  obtain ⟨m,g,h3,h4⟩:=Gf h2;refine ⟨n,f,m,g,λS w cs hv=>?_,h4⟩;obtain ⟨c,l,rfl,q1,c',l',rfl,q2,q3⟩:=hv;exact ⟨c,_,rfl,h1 S w c q1,c',l',rfl,h3 S w c' q2,q3⟩
 ·cases h
def Agw (F:Nat->(Nat->Int)->A3):List V->A3
 | [v]=>apI v F
 | _=>.fail
theorem SE {F:Nat->(Nat->Int)->A3} {vs:List V} {r:V×List Blk} (h:(Agw F vs).sem=some r):∃ n f,B2 vs [Co n f]∧(F n f).sem=some r:=by
 unfold Agw at h;split at h
 ·obtain ⟨n,f,h1,h2⟩:=Gf h
  refine ⟨n,f,λS w cs hv=>?_,h2⟩;obtain ⟨c,l,rfl,q1,q2⟩:=hv;exact ⟨c,l,rfl,h1 S w c q1,q2⟩
 ·cases h
def okB (v:V):Bool:=match gB v with
 | some _=>true
 | none=>false
def edB (v:V):Bool:=match gB v with
 | some e=>e
 | none=>false
theorem Ac2 {v:V} (h:okB v=true):v=bV (edB v):=by
 unfold okB at h;unfold edB;split at h
 ·rename_i e he
  exact TU he
 ·cases h
def XT (n:Nat) (f:Nat->Bool):V:=.sl 1 n λi=>bV (f i)
def apB {α:Type} (v:V) (F:Nat->(Nat->Bool)->T α):T α :=
 match Aga v with
 | some (n,g)=>.br (DL n λi=>okB (g i)) (F n λi=>edB (g i)) .fail
 | none=>.fail
theorem Aeo {α:Type} {v:V} {F:Nat->(Nat->Bool)->T α} {r:α} (h:(apB v F).sem=some r) :
  ∃ n f,(∀ (S:Nat->Prop) (w:World) (c:Value),VR S w v noK c->VR S w (XT n f) noK c)∧(F n f).sem=some r:=by
 unfold apB at h;split at h
 ·rename_i n g hg
  obtain ⟨h1,h2⟩:=Ab h;have h1:=BR.1 h1;refine ⟨n,_,λS w c hv=>?_,h2⟩;unfold Aga at hg;split at hg
  ·rename_i s n' g'
   split at hg
   ·rename_i hs
    simp only [Option.some.injEq,Prod.mk.injEq] at hg;obtain ⟨rfl,rfl⟩:=hg;have hs:s=1:=Nat.eq_of_beq_eq_true hs;subst hs;obtain ⟨a,cap,e,hc,hb⟩:=hv;refine ⟨a,cap,e,hc,hb.imp id ?_⟩
    rintro ⟨b,o,ea,hel⟩
    refine ⟨b,o,ea,λi hi=>?_⟩;have:=hel i hi;rw [Ac2 (h1 i hi)] at this;exact this
   ·cases hg
  ·cases hg
 ·cases h
theorem AjP {α:Type} (n:Nat) (f:Nat->E6) (F:Nat->(Nat->E6)->T α):(apL (Ao n f) F).sem=(F n f).sem:=by
 show sel (DL n λi=>okE (eV (f i))) (F n f).sem none=_;rw [Ag0];rfl
end Go.Proofs.YtkbgidbledjejaaGreat.Ed
namespace Go.Proofs.YtkbgidbledjejaaGreat.Ed
open Go.Sy
open Int (ofNat)
def Xy (r:Nat):Ex×St:=(.rt,⟨jsV 67 0 Ac [(2,nV r)],[]⟩)
def Jw (n:Nat) (h:Nat->Int):Lp:=⟨bmK 67 0 [0,3,4,5,6],1,bmK 67 0 [2],1,3 * n+4⟩
def Kv (n:Nat) (h:Nat->Int) (i t s:Nat) (j:Nat->V):St:=⟨jsV 67 0 j [(0,.sl 1 n (λk=>iV (h k))),(3,nV n),(4,nV i),(5,nV t),(6,nV s)],[]⟩
noncomputable def FQ (L:LT):St->T (Ex×St):=λst=>A8 tab ⟨A9 tb0,L,Gl⟩ (A1 (VC 0 900 Tryz.f83) 0) 0 st
section
variable (L:LT) (n:Nat) (h:Nat->Int) (i t s:Nat)  (j:Nat->V)
include L n h i t s j
theorem Ait (h0:ile (ofNat n) (ofNat i)=true):Ap (FQ L) (Jw n h) (Kv n h i t s j)=some (.rt,⟨jsV 67 0 Ac [(2,iV (sel (ilt (sel (ilt (wr .i64 (Ax (ofNat n) 1)) 0) 0 (wr .i64 (Ax (ofNat n) 1))) (sel (ilt (ofNat t) (ofNat i)) (ofNat t) (ofNat i))) (sel (ilt (wr .i64 (Ax (ofNat n) 1)) 0) 0 (wr .i64 (Ax (ofNat n) 1))) (sel (ilt (ofNat t) (ofNat i)) (ofNat t) (ofNat i))))],[]⟩):=by
 exact Ag (ks:=[kn h0,kn h0,kn h0,kn h0,kT,kT,kT,kT,kT]) (by kernel_rfl)
theorem Ais (h0:ile (ofNat n) (ofNat i)=false) (h1:ile (ofNat n) (ofNat t)=true):Ap (FQ L) (Jw n h) (Kv n h i t s j)=some (.rt,⟨jsV 67 0 Ac [(2,iV (sel (ilt (sel (ilt (wr .i64 (Ax (ofNat n) 1)) 0) 0 (wr .i64 (Ax (ofNat n) 1))) (sel (ilt (ofNat t) (ofNat i)) (ofNat t) (ofNat i))) (sel (ilt (wr .i64 (Ax (ofNat n) 1)) 0) 0 (wr .i64 (Ax (ofNat n) 1))) (sel (ilt (ofNat t) (ofNat i)) (ofNat t) (ofNat i))))],[]⟩):=by
 exact Ag (ks:=[kn h0,kn h0,kn h0,kn h0,kn h1,kn h1,kn h1,kn h1,kT]) (by kernel_rfl)
theorem Aiq (h0:ile (ofNat n) (ofNat i)=false) (h1:ile (ofNat n) (ofNat t)=false) (h2:ile (ofNat n) (ofNat s)=true):Ap (FQ L) (Jw n h) (Kv n h i t s j)=some (.rt,⟨jsV 67 0 Ac [(2,iV (sel (ilt (sel (ilt (wr .i64 (Ax (ofNat n) 1)) 0) 0 (wr .i64 (Ax (ofNat n) 1))) (sel (ilt (ofNat t) (ofNat i)) (ofNat t) (ofNat i))) (sel (ilt (wr .i64 (Ax (ofNat n) 1)) 0) 0 (wr .i64 (Ax (ofNat n) 1))) (sel (ilt (ofNat t) (ofNat i)) (ofNat t) (ofNat i))))],[]⟩):=by
 exact Ag (ks:=[kn h0,kn h0,kn h0,kn h0,kn h1,kn h1,kn h1,kn h1,kn h2]) (by kernel_rfl)
theorem Aiv (h0:ile (ofNat n) (ofNat i)=false) (h1:ile (ofNat n) (ofNat t)=false) (h2:ile (ofNat n) (ofNat s)=false) (h3:ieq (ofNat n) 0=false) (h4:Av (ile 0 (Aw (wr .i64 (Am (ofNat i) (ofNat s))) (ofNat n))) (ilt (Aw (wr .i64 (Am (ofNat i) (ofNat s))) (ofNat n)) (ofNat n))=true) (h5:Av (ile 0 (Aw (wr .i64 (Am (ofNat t) (ofNat s))) (ofNat n))) (ilt (Aw (wr .i64 (Am (ofNat t) (ofNat s))) (ofNat n)) (ofNat n))=true) (h6:ieq (h (toN (Aw (wr .i64 (Am (ofNat i) (ofNat s))) (ofNat n)))) (h (toN (Aw (wr .i64 (Am (ofNat t) (ofNat s))) (ofNat n))))=true):Ap (FQ L) (Jw n h) (Kv n h i t s j)=some (.nm,⟨jsV 67 0 Ac [(0,.sl 1 n (λk=>iV (h k))),(3,nV n),(4,nV i),(5,nV t),(6,iV (wr .i64 (Am (ofNat s) 1)))],[]⟩):=by
 exact Ag (ks:=[kn h0,kn h0,kn h0,kn h0,kn h1,kn h1,kn h1,kn h1,kn h2,kn h3,kn h4,kn h3,kn h5,kn h6]) (by kernel_rfl)
theorem Aiu (h0:ile (ofNat n) (ofNat i)=false) (h1:ile (ofNat n) (ofNat t)=false) (h2:ile (ofNat n) (ofNat s)=false) (h3:ieq (ofNat n) 0=false) (h4:Av (ile 0 (Aw (wr .i64 (Am (ofNat i) (ofNat s))) (ofNat n))) (ilt (Aw (wr .i64 (Am (ofNat i) (ofNat s))) (ofNat n)) (ofNat n))=true) (h5:Av (ile 0 (Aw (wr .i64 (Am (ofNat t) (ofNat s))) (ofNat n))) (ilt (Aw (wr .i64 (Am (ofNat t) (ofNat s))) (ofNat n)) (ofNat n))=true) (h6:ieq (h (toN (Aw (wr .i64 (Am (ofNat i) (ofNat s))) (ofNat n)))) (h (toN (Aw (wr .i64 (Am (ofNat t) (ofNat s))) (ofNat n))))=false) (h7:ilt (h (toN (Aw (wr .i64 (Am (ofNat t) (ofNat s))) (ofNat n)))) (h (toN (Aw (wr .i64 (Am (ofNat i) (ofNat s))) (ofNat n))))=true) (h8:ieq (wr .i64 (Am (ofNat i) (wr .i64 (Am (ofNat s) 1)))) (ofNat t)=false):Ap (FQ L) (Jw n h) (Kv n h i t s j)=some (.nm,⟨jsV 67 0 Ac [(0,.sl 1 n (λk=>iV (h k))),(3,nV n),(4,iV (wr .i64 (Am (ofNat i) (wr .i64 (Am (ofNat s) 1))))),(5,nV t),(6,iV 0)],[]⟩):=by
 exact Ag (ks:=[kn h0,kn h0,kn h0,kn h0,kn h1,kn h1,kn h1,kn h1,kn h2,kn h3,kn h4,kn h3,kn h5,kn h6,kn h7,kn h8]) (by kernel_rfl)
theorem Afx (h0:ile (ofNat n) (ofNat i)=false) (h1:ile (ofNat n) (ofNat t)=false) (h2:ile (ofNat n) (ofNat s)=false) (h3:ieq (ofNat n) 0=false) (h4:Av (ile 0 (Aw (wr .i64 (Am (ofNat i) (ofNat s))) (ofNat n))) (ilt (Aw (wr .i64 (Am (ofNat i) (ofNat s))) (ofNat n)) (ofNat n))=true) (h5:Av (ile 0 (Aw (wr .i64 (Am (ofNat t) (ofNat s))) (ofNat n))) (ilt (Aw (wr .i64 (Am (ofNat t) (ofNat s))) (ofNat n)) (ofNat n))=true) (h6:ieq (h (toN (Aw (wr .i64 (Am (ofNat i) (ofNat s))) (ofNat n)))) (h (toN (Aw (wr .i64 (Am (ofNat t) (ofNat s))) (ofNat n))))=false) (h7:ilt (h (toN (Aw (wr .i64 (Am (ofNat t) (ofNat s))) (ofNat n)))) (h (toN (Aw (wr .i64 (Am (ofNat i) (ofNat s))) (ofNat n))))=true) (h8:ieq (wr .i64 (Am (ofNat i) (wr .i64 (Am (ofNat s) 1)))) (ofNat t)=true):Ap (FQ L) (Jw n h) (Kv n h i t s j)=some (.nm,⟨jsV 67 0 Ac [(0,.sl 1 n (λk=>iV (h k))),(3,nV n),(4,iV (wr .i64 (Am (ofNat i) (wr .i64 (Am (ofNat s) 1))))),(5,iV (wr .i64 (Am (ofNat t) 1))),(6,iV 0)],[]⟩):=by
 exact Ag (ks:=[kn h0,kn h0,kn h0,kn h0,kn h1,kn h1,kn h1,kn h1,kn h2,kn h3,kn h4,kn h3,kn h5,kn h6,kn h7,kn h8]) (by kernel_rfl)
theorem Air (h0:ile (ofNat n) (ofNat i)=false) (h1:ile (ofNat n) (ofNat t)=false) (h2:ile (ofNat n) (ofNat s)=false) (h3:ieq (ofNat n) 0=false) (h4:Av (ile 0 (Aw (wr .i64 (Am (ofNat i) (ofNat s))) (ofNat n))) (ilt (Aw (wr .i64 (Am (ofNat i) (ofNat s))) (ofNat n)) (ofNat n))=true) (h5:Av (ile 0 (Aw (wr .i64 (Am (ofNat t) (ofNat s))) (ofNat n))) (ilt (Aw (wr .i64 (Am (ofNat t) (ofNat s))) (ofNat n)) (ofNat n))=true) (h6:ieq (h (toN (Aw (wr .i64 (Am (ofNat i) (ofNat s))) (ofNat n)))) (h (toN (Aw (wr .i64 (Am (ofNat t) (ofNat s))) (ofNat n))))=false) (h7:ilt (h (toN (Aw (wr .i64 (Am (ofNat t) (ofNat s))) (ofNat n)))) (h (toN (Aw (wr .i64 (Am (ofNat i) (ofNat s))) (ofNat n))))=false) (h8:ieq (ofNat i) (wr .i64 (Am (ofNat t) (wr .i64 (Am (ofNat s) 1))))=false):Ap (FQ L) (Jw n h) (Kv n h i t s j)=some (.nm,⟨jsV 67 0 Ac [(0,.sl 1 n (λk=>iV (h k))),(3,nV n),(4,nV i),(5,iV (wr .i64 (Am (ofNat t) (wr .i64 (Am (ofNat s) 1))))),(6,iV 0)],[]⟩):=by
 exact Ag (ks:=[kn h0,kn h0,kn h0,kn h0,kn h1,kn h1,kn h1,kn h1,kn h2,kn h3,kn h4,kn h3,kn h5,kn h6,kn h7,kn h8]) (by kernel_rfl)
theorem Afw (h0:ile (ofNat n) (ofNat i)=false) (h1:ile (ofNat n) (ofNat t)=false) (h2:ile (ofNat n) (ofNat s)=false) (h3:ieq (ofNat n) 0=false) (h4:Av (ile 0 (Aw (wr .i64 (Am (ofNat i) (ofNat s))) (ofNat n))) (ilt (Aw (wr .i64 (Am (ofNat i) (ofNat s))) (ofNat n)) (ofNat n))=true) (h5:Av (ile 0 (Aw (wr .i64 (Am (ofNat t) (ofNat s))) (ofNat n))) (ilt (Aw (wr .i64 (Am (ofNat t) (ofNat s))) (ofNat n)) (ofNat n))=true) (h6:ieq (h (toN (Aw (wr .i64 (Am (ofNat i) (ofNat s))) (ofNat n)))) (h (toN (Aw (wr .i64 (Am (ofNat t) (ofNat s))) (ofNat n))))=false) (h7:ilt (h (toN (Aw (wr .i64 (Am (ofNat t) (ofNat s))) (ofNat n)))) (h (toN (Aw (wr .i64 (Am (ofNat i) (ofNat s))) (ofNat n))))=false) (h8:ieq (ofNat i) (wr .i64 (Am (ofNat t) (wr .i64 (Am (ofNat s) 1))))=true):Ap (FQ L) (Jw n h) (Kv n h i t s j)=some (.nm,⟨jsV 67 0 Ac [(0,.sl 1 n (λk=>iV (h k))),(3,nV n),(4,nV i),(5,iV (wr .i64 (Am (wr .i64 (Am (ofNat t) (wr .i64 (Am (ofNat s) 1)))) 1))),(6,iV 0)],[]⟩):=by
 exact Ag (ks:=[kn h0,kn h0,kn h0,kn h0,kn h1,kn h1,kn h1,kn h1,kn h2,kn h3,kn h4,kn h3,kn h5,kn h6,kn h7,kn h8]) (by kernel_rfl)
end
def Ahm (n:Nat) (h:Nat->Int) :Nat->V:=lkV A7 [(2,iV 0),(9,.sl 1 n (λk=>iV (h k))),(10,nV n)]
theorem Ak4 (L:LT) (p0:PT) (n:Nat) (h:Nat->Int) (r:Nat)  (hp0:p0 (FQ (onP 0 p0 (Xy r) L)) (Kv n h 0 1 0 (Ahm n h ))=true):(AM (Au tab ⟨A9 tb0,onP 0 p0 (Xy r) L,Gl⟩ (VC 0 900 Tryz.f83) [.sl 1 n (λk=>iV (h k))] [])).sem=some ((nV r),[]):=by
 exact Ag (ks:=[kn hp0]) (by kernel_rfl)
def E3 (n:Nat) (h:Nat->Int):Nat->Nat->Nat->Nat->Nat
 | 0,_,_,_=>0
 | q+1,i,t,s =>
  if n <= i ∨ n <= t ∨ n <= s then min (min i t) (n-1)
  else if h ((i+s) % n)=h ((t+s) % n) then E3 n h q i t (s+1)
  else if h ((t+s) % n)<h ((i+s) % n) then E3 n h q (i+s+1) (if i+s+1=t then t+1 else t) 0
  else E3 n h q i (if i=t+s+1 then t+s+2 else t+s+1) 0
def D9 (n:Nat) (h:Nat->Int):Nat:=E3 n h (3 * n+4) 0 1 0
theorem KA {a b:Nat} (h:a+b <= 9223372036854775807):wr .i64 (Am (ofNat a) (ofNat b))=ofNat (a+b):=by
 unfold wr Am IntKind.wrap;simp [IntKind.bits,IntKind.signed];omega
theorem OL {a:Nat} (h:a+1 <= 9223372036854775807):wr .i64 (Am (ofNat a) 1)=ofNat (a+1):=KA (b:=1) h
theorem Ka (a n:Nat):Aw (ofNat a) (ofNat n)=ofNat (a % n):=rfl
theorem FO (a b:Nat):ieq (ofNat a) (ofNat b)=decide (a=b):=by
 simp only [ieq,Int.ofNat_eq_natCast];by_cases h:a=b
 ·simp [h]
 ·rw [decide_eq_false h]
  simp;omega
theorem FN (a b:Nat):ile (ofNat a) (ofNat b)=decide (a <= b):=by
 simp [ile]
theorem FM (a b:Nat):ilt (ofNat a) (ofNat b)=decide (a<b):=by
 simp [ilt]
theorem Ajb (n i t:Nat) (hn:n <= 1152921504606846976):sel (ilt (sel (ilt (wr .i64 (Ax (ofNat n) 1)) 0) 0 (wr .i64 (Ax (ofNat n) 1))) (sel (ilt (ofNat t) (ofNat i)) (ofNat t) (ofNat i))) (sel (ilt (wr .i64 (Ax (ofNat n) 1)) 0) 0 (wr .i64 (Ax (ofNat n) 1))) (sel (ilt (ofNat t) (ofNat i)) (ofNat t) (ofNat i))=ofNat (min (min i t) (n-1)):=by
 have h1:wr .i64 (Ax (ofNat n) 1)=(n:Int)-1:=by
  unfold wr Ax IntKind.wrap;simp [IntKind.bits,IntKind.signed];omega
 rw [h1];simp only [sel,ilt,Bool.cond_decide,Int.ofNat_eq_natCast];omega
theorem MP (L:LT) (n:Nat) (h:Nat->Int) (hn:n <= 1152921504606846976):∀ (q i t s:Nat) (j:Nat->V),i <= 2 * n->t <= 2 * n+1->s <= n->3 * n+1-(i+t+s)<q ->
  (Ay (FQ L) (Jw n h) q (Kv n h i t s j)).sem=some (Xy (E3 n h q i t s))
 | 0,_,_,_,_,_,_,_,h4=>absurd h4 (Nat.not_lt_zero _)
 | q+1,i,t,s,j,hi,ht,hs,h4=>by
  by_cases ci:n <= i
  ·rw [Ae (Ait L n h i t s j (by rw [FN,decide_eq_true ci])),TS,Ajb n i t hn,E3,if_pos (.inl ci)]
   rfl
  ·have ci0:ile (ofNat n) (ofNat i)=false:=by rw [FN,decide_eq_false ci]
   by_cases ct:n <= t
   ·rw [Ae (Ais L n h i t s j ci0 (by rw [FN,decide_eq_true ct])),TS,Ajb n i t hn,E3,if_pos (.inr (.inl ct))]
    rfl
   ·have ct0:ile (ofNat n) (ofNat t)=false:=by rw [FN,decide_eq_false ct]
    by_cases cs:n <= s
    ·rw [Ae (Aiq L n h i t s j ci0 ct0 (by rw [FN,decide_eq_true cs])),TS,Ajb n i t hn,E3,if_pos (.inr (.inr cs))]
     rfl
    ·have cs0:ile (ofNat n) (ofNat s)=false:=by rw [FN,decide_eq_false cs]
     have cn0:ieq (ofNat n) 0=false:=by
      rw [show (0:Int)=ofNat 0 from rfl,FO,decide_eq_false (by omega)]
     have e1:Aw (wr .i64 (Am (ofNat i) (ofNat s))) (ofNat n)=ofNat ((i+s) % n):=by rw [KA (by omega),Ka]
     have e2:Aw (wr .i64 (Am (ofNat t) (ofNat s))) (ofNat n)=ofNat ((t+s) % n):=by rw [KA (by omega),Ka]
     have b1:Av (ile 0 (Aw (wr .i64 (Am (ofNat i) (ofNat s))) (ofNat n))) (ilt (Aw (wr .i64 (Am (ofNat i) (ofNat s))) (ofNat n)) (ofNat n))=true:=by
      rw [e1]; exact Af (Nat.mod_lt _ (by omega))
     have b2:Av (ile 0 (Aw (wr .i64 (Am (ofNat t) (ofNat s))) (ofNat n))) (ilt (Aw (wr .i64 (Am (ofNat t) (ofNat s))) (ofNat n)) (ofNat n))=true:=by
      rw [e2]; exact Af (Nat.mod_lt _ (by omega))
     have t1:∀ a:Nat,toN (ofNat a)=a:=λ_=>rfl;have u1:wr .i64 (Am (ofNat i) (wr .i64 (Am (ofNat s) 1)))=ofNat (i+s+1):=by rw [OL (by omega),KA (by omega)]; rfl
     have u2:wr .i64 (Am (ofNat t) (wr .i64 (Am (ofNat s) 1)))=ofNat (t+s+1):=by rw [OL (by omega),KA (by omega)]; rfl
     rw [E3,if_neg (by omega)];by_cases ce:h ((i+s) % n)=h ((t+s) % n)
     ·rw [if_pos ce,Ae (Aiv L n h i t s j ci0 ct0 cs0 cn0 b1 b2 (by rw [e1,e2,t1,t1]; simp [ieq,ce])),AS,OL (by omega)]
      exact MP L n h hn q i t (s+1) Ac hi ht (by omega) (by omega)
     ·have ce0:ieq (h (toN (Aw (wr .i64 (Am (ofNat i) (ofNat s))) (ofNat n)))) (h (toN (Aw (wr .i64 (Am (ofNat t) (ofNat s))) (ofNat n))))=false:=by
       rw [e1,e2,t1,t1]; simp [ieq,ce]
      rw [if_neg ce];by_cases cg:h ((t+s) % n)<h ((i+s) % n)
      ·have cg0:ilt (h (toN (Aw (wr .i64 (Am (ofNat t) (ofNat s))) (ofNat n)))) (h (toN (Aw (wr .i64 (Am (ofNat i) (ofNat s))) (ofNat n))))=true:=by
        rw [e1,e2,t1,t1]; simp [ilt,cg]
       rw [if_pos cg];by_cases cq:i+s+1=t
       ·rw [if_pos cq,Ae (Afx L n h i t s j ci0 ct0 cs0 cn0 b1 b2 ce0 cg0 (by rw [u1,FO,decide_eq_true cq])),AS,u1,OL (by omega)]
        exact MP L n h hn q (i+s+1) (t+1) 0 Ac (by omega) (by omega) (by omega) (by omega)
       ·rw [if_neg cq,Ae (Aiu L n h i t s j ci0 ct0 cs0 cn0 b1 b2 ce0 cg0 (by rw [u1,FO,decide_eq_false cq])),AS,u1]
        exact MP L n h hn q (i+s+1) t 0 Ac (by omega) (by omega) (by omega) (by omega)
      ·have cg0:ilt (h (toN (Aw (wr .i64 (Am (ofNat t) (ofNat s))) (ofNat n)))) (h (toN (Aw (wr .i64 (Am (ofNat i) (ofNat s))) (ofNat n))))=false:=by
        rw [e1,e2,t1,t1]; simp [ilt]; omega
       rw [if_neg cg];by_cases cq:i=t+s+1
       ·rw [if_pos cq,Ae (Afw L n h i t s j ci0 ct0 cs0 cn0 b1 b2 ce0 cg0 (by rw [u2,FO,decide_eq_true cq])),AS,u2,OL (by omega)]
        exact MP L n h hn q i (t+s+2) 0 Ac (by omega) (by omega) (by omega) (by omega)
       ·rw [if_neg cq,Ae (Air L n h i t s j ci0 ct0 cs0 cn0 b1 b2 ce0 cg0 (by rw [u2,FO,decide_eq_false cq])),AS,u2]
        exact MP L n h hn q i (t+s+1) 0 Ac (by omega) (by omega) (by omega) (by omega)
def Agd (n:Nat):Bool:=decide (n <= 1152921504606846976)
def leastT:List V->A3:=Agw λn h=>.br (Agd n) (out (iV (ofNat (D9 n h)))) .fail
theorem AlM:Ar Tryz.prog Gl 83 leastT:=by
 refine UV (p:=match Tryz.f83.body with | some (.seq p _)=>p | _=>.skip) (c:=match Tryz.f83.body with | some (.seq _ (.scope c))=>c | _=>.skip) (d:=match (match Tryz.f83.body with | some (.seq _ (.scope c))=>G7 0 c | _=>none) with | some d=>d | none=>.skip) A0 mixed Tryz.func83 0 900 (by kernel_rfl) (by kernel_rfl) (by kernel_rfl) (by kernel_rfl) λvs v h' h=>?_
 obtain ⟨n,f,ha,h1⟩:=SE h;obtain ⟨hn,hq⟩:=Ab h1;have:=Aa hq;simp only [Prod.mk.injEq] at this;obtain ⟨rfl,rfl⟩:=this;have hn:n <= 1152921504606846976:=by simpa [Agd] using hn
 have hx:=Bu H3 [(0,Jw n f)];exact ⟨_,BQ Gl tb0 [(0,Jw n f)],_,ha,rfl,hx.1,hx.2,Bw (B9 (Bd _) (Bd _)) _ (Ak4 _ _ n f _ (AW (MP _ n f hn (3 * n+4) 0 1 0 (Ahm n f) (by omega) (by omega) (by omega) (by omega)))),As.refl _⟩
end Go.Proofs.YtkbgidbledjejaaGreat.Ed
