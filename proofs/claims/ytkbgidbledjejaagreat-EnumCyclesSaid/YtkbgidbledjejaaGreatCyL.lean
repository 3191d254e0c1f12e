/-
  Layer 4: the parts of a cycle. No conditions.
-/
import Derived.Test.YtkbgidbledjejaaGreatEdO
import Derived.Test.YtkbgidbledjejaaGreatSyS
namespace Go.Proofs.YtkbgidbledjejaaGreat.Ed
open Go.Sy
open Int (ofNat)
def DG (p:Nat->Bool) (i k:Nat):Int:=bif decide (k<i) then ofNat (AA p k) else 0
def Bu (p:Nat->Bool) (n k:Nat):Int:=bif decide (k<n) then (bif decide (AA p k=AA p n) then 0 else ofNat (AA p k)) else 0
def ZZ (h:Nat->Int) (i:Nat) (s:Int) (k:Nat):Int:=bif decide (k=i) then s else h k
theorem Tu (h:Nat->Int) (i:Nat) (s:Int):BD (λk=>iV (h k)) i (iV s)=λk=>iV (ZZ h i s k):=by
 funext k;rw [D7,show Nat.beq k i=decide (k=i) by rw [Bool.eq_iff_iff]; simp];unfold ZZ;cases decide (k=i) <;> rfl
theorem AbN (p:Nat->Bool) (i:Nat):ZZ (DG p i) i (ofNat (AA p i))=DG p (i+1):=by
 funext k;unfold ZZ DG;by_cases h:k=i
 ·subst h; simp
 ·by_cases h2:k<i
  ·have:k<i+1:=by omega
   simp [h,h2,this]
  ·have:¬ k<i+1:=by omega
   simp [h,h2,this]
theorem RL (p:Nat->Bool) (i:Nat):ZZ (DG p (i+1)) i 0=DG p i:=by
 funext k;unfold ZZ DG;by_cases h:k=i
 ·subst h; simp
 ·by_cases h2:k<i
  ·have:k<i+1:=by omega
   simp [h,h2,this]
  ·have:¬ k<i+1:=by omega
   simp [h,h2,this]
def dn:Nat->Int
 | 0=>-1
 | D+1=>ofNat D
theorem ZA {D n:Nat} (h:D <= n) (hn:n <= 4611686018427387904):wr .i64 (Az (ofNat D) 1)=dn D:=by
 cases D with
 | zero=>rfl
 | succ D =>unfold wr Az IntKind.wrap dn;simp [IntKind.bits,IntKind.signed];omega
theorem FI (p:Nat->Bool):∀ {i k:Nat},i <= k->AA p i <= AA p k
 | i,0,h=>by
  have:i=0:=by omega
  subst this;exact Nat.le_refl _
 | i,k+1,h=>by
  by_cases h2:i=k+1
  ·subst h2; exact Nat.le_refl _
  ·have:=FI p (show i <= k by omega)
   refine Nat.le_trans this ?_;rw [show AA p (k+1)=(match p k with | true=>AA p k+1 | false=>AA p k) from rfl]
   cases p k
   ·exact Nat.le_refl _
   ·exact Nat.le_succ _
theorem LK (p:Nat->Bool) (n D:Nat) (h:D <= n) (h1:∀ k,k<D->AA p k ≠ AA p n) (h2:∀ k,D <= k->k<n->AA p k=AA p n):DG p D=Bu p n:=by
 funext k;unfold DG Bu;by_cases h3:k<D
 ·have h4:k<n:=by omega
  simp [h3,h4,h1 k h3]
 ·by_cases h4:k<n
  ·simp [h3,h4,h2 k (by omega) h4]
  ·simp [h3,h4]
def fq (b:Bool):V:=match b with
 | true=>.fn 87 []
 | false=>.fn 88 []
def pq (b:Bool):E6->Bool:=match b with
 | true=>λe=>BY e
 | false=>λe=>BI e
def Adu:Lp:=⟨bmK 51 0 [0,1,5,6,13,14,15],2,bmK 51 0 [0,5,6],2,4611686018427387905⟩
def TO:Lp:=⟨bmK 51 0 [5,6,9],2,bmK 51 0 [5],2,4611686018427387905⟩
def AhX:List (Nat×Lp×List (Nat×(Nat->V))):=[(0,Adu,[]),(2,TO,[])]
noncomputable abbrev ZD:Cx:=cxA Gl tbY AhX
noncomputable def Ah4 (id:Nat):St->T (Ex×St):=λst=>A6 tab ZD (Aw Tryz.f91 id) id st
def Afh (n:Nat) (h:Nat->Int):List Blk:=[.row 3 1 0 λ_=>.und,.row 3 1 n λk=>iV (h k)]
section
variable {b:Bool} {n:Nat} {f:Nat->E6} (hn:n <= 4611686018427387904)
def Aop (b:Bool) (n:Nat) (f:Nat->E6) (s:Int) (h:Nat->Int) (i:Int):St:=⟨jsV 51 0 Ac [(0,Ap n f),(1,fq b),(5,.ref 1),(6,iV s),(13,Ap n f),(14,nV n),(15,iV i)],Afh n h⟩
abbrev pb (b:Bool) (f:Nat->E6):Nat->Bool:=λk=>pq b (f k)
def Afb (b:Bool) (n:Nat) (f:Nat->E6) (i:Nat):St:=Aop b n f (ofNat (AA (pb b f) i)) (DG (pb b f) i) (ofNat i)
theorem AoS {i:Nat} (hn:n <= 4611686018427387904) (hi:i<n):Am (Ah4 0) Adu (Afb b n f i)=some (.nm,Afb b n f (i+1)):=by
 have e:∀ {s:Int},s=ofNat (AA (pb b f) (i+1))->(Ex.nm,(⟨jsV 51 0 Ac [(0,Ap n f),(1,fq b),(5,.ref 1),(6,iV s),(13,Ap n f),(14,nV n),(15,iV (wr .i64 (Ai (ofNat i) 1)))],[.row 3 1 0 λ_=>.und,.row 3 1 n (BD (λk=>iV (DG (pb b f) i k)) i (iV (ofNat (AA (pb b f) i))))]⟩:St))=(Ex.nm,Afb b n f (i+1)):=λh=>by
  rw [h,Cs (by omega),Tu,AbN];rfl
 have c:=DU (pb b f) i;cases hp:pb b f i with
 | true =>have e:=e (s:=wr .i64 (Ai (ofNat (AA (pb b f) i)) 1)) (by rw [Cs (by omega),AA,hp]);cases b <;> exact DW.rd (.k (ofNat_lt hi) <| .r 2 (Af hi) <| .k (Dc hi) <| .k hp <| .e e) (by kernel_rfl)
 | false =>have e:=e (s:=ofNat (AA (pb b f) i)) (by rw [show AA (pb b f) (i+1)=AA (pb b f) i by rw [AA,hp]]);cases b <;> exact DW.rd (.k (ofNat_lt hi) <| .r 2 (Af hi) <| .k (Dc hi) <| .k hp <| .e e) (by kernel_rfl)
def UH (n:Nat) (s:Int) (h:Nat->Int) (d:Int):St:=⟨jsV 51 0 Ac [(5,.ref 1),(6,iV s),(9,iV d)],Afh n h⟩
def Aln (n:Nat) (h:Nat->Int):Ex×St:=(.ex 2,⟨jsV 51 0 Ac [(5,.ref 1)],Afh n h⟩)
theorem AcI (p:Nat->Bool) (hn:n <= 4611686018427387904):∀ (D M:Nat),D <= n->D<M->(∀ k,D <= k->k<n->AA p k=AA p n)->(Ax (Ah4 2) TO M (UH n (ofNat (AA p n)) (DG p D) (dn D))).sem=some (Aln n (Bu p n))
 | 0,M,h,hM,hb=>by
  obtain ⟨M,rfl⟩:∃ o,M=o+1:=⟨M-1,by omega⟩;rw [<- LK p n 0 h (λk hk=>absurd hk (Nat.not_lt_zero _)) hb];exact Ae (t:=some (.ex 2,_)) (DW.rd (.r 7 (show ile 0 (-1)=false from rfl) <| .k eF <| .l) (by kernel_rfl))
 | D+1,M,h,hM,hb=>by
  obtain ⟨M,rfl⟩:∃ o,M=o+1:=⟨M-1,by omega⟩;have h0:=FM D;have hi:=Af (show D<n by omega);have hk:=Dc (show D<n by omega);have hr:DG p (D+1) D=ofNat (AA p D):=by simp [DG]
  cases hp:ieq (DG p (D+1) D) (ofNat (AA p n)) with
  | true =>
   have he:AA p D=AA p n:=by
    rw [hr] at hp;exact Int.ofNat.inj (of_decide_eq_true hp)
   have g:Am (Ah4 2) TO (UH n (ofNat (AA p n)) (DG p (D+1)) (dn (D+1)))=some (.nm,UH n (ofNat (AA p n)) (DG p D) (dn D)):=by
    have e:(Ex.nm,(⟨jsV 51 0 Ac [(5,.ref 1),(6,iV (ofNat (AA p n))),(9,iV (wr .i64 (Az (ofNat D) 1)))],[.row 3 1 0 λ_=>.und,.row 3 1 n (BD (λk=>iV (DG p (D+1) k)) D (iV 0))]⟩:St))=(Ex.nm,UH n (ofNat (AA p n)) (DG p D) (dn D)):=by
     rw [ZA (by omega) hn,Tu,RL];rfl
    exact DW.rd (.r 3 h0 <| .k hi <| .k h0 <| .k hk <| .r 3 h0 <| .k hp <| .k hi <| .k hk <| .e e) (by kernel_rfl)
   rw [Ae g,AK];exact AcI p hn D M (by omega) (by omega) λk h3 h4=>by
    by_cases h5:k=D
    ·subst h5; exact he
    ·exact hb k (by omega) h4
  | false =>
   have he:AA p D ≠ AA p n:=λe=>by rw [hr,e] at hp; simp [ieq] at hp
   rw [<- LK p n (D+1) h (λk hk e=>he (by have:=FI p (show k <= D by omega); have:=FI p (show D <= n by omega); omega)) hb];exact Ae (t:=some (.ex 2,_)) (DW.rd (.r 3 h0 <| .k hi <| .k h0 <| .k hk <| .r 3 h0 <| .k hp <| .l) (by kernel_rfl))
end
theorem Ac8 (p:Nat->Bool):DG p 0=λ_=>0:=by
 funext k;simp [DG]
theorem Xy (p:Nat->Bool) (n:Nat) (h:AA p n=0):DG p n=Bu p n:=by
 funext k;unfold DG Bu;by_cases h3:k<n
 ·have:=FI p (show k <= n by omega)
  have h4:AA p k=0:=by omega
  simp [h3,h,h4]
 ·simp [h3]
def Xx:List V->A3
 | [v,.fn g []]=>apL v λn f=>.br (Fy 8 (ofNat n) (ofNat n)) (match Nat.beq g 87,Nat.beq g 88 with
  | true,_=>.leaf (.ref 0,[.row 3 1 n λk=>iV (Bu (λk=>BY (f k)) n k)])
  | false,true=>.leaf (.ref 0,[.row 3 1 n λk=>iV (Bu (λk=>BI (f k)) n k)])
  | false,false=>.fail) .fail
 | _=>.fail
theorem AlK (b:Bool) (n:Nat) (f:Nat->E6) (hm:Fy 8 (ofNat n) (ofNat n)=true):(AL (Ar tab ZD Tryz.f91 [Ap n f,fq b] [])).sem=some (.ref 0,[.row 3 1 n λk=>iV (Bu (pb b f) n k)]):=by
 have hn:n <= 4611686018427387904:=by
  simp only [Fy,Bool.and_eq_true,decide_eq_true_eq] at hm;have:=hm.2.2.1;simp only [Int.ofNat_eq_natCast] at this;omega
 have h0:(Ax (Ah4 0) Adu 4611686018427387905 (Aop b n f 0 (λ_=>0) 0)).sem=some (.ex 0,⟨jsV 51 0 Ac [(0,Ap n f),(5,.ref 1),(6,iV (ofNat (AA (pb b f) n)))],Afh n (DG (pb b f) n)⟩):=by
  have:=Cf (S:=Afb b n f) (m:=n) (q:=4611686018427387905) (x:=(.ex 0,⟨jsV 51 0 Ac [(0,Ap n f),(5,.ref 1),(6,iV (ofNat (AA (pb b f) n)))],Afh n (DG (pb b f) n)⟩)) (λh=>by cases h) (λi hi=>AoS hn hi) (by cases b <;> exact DW.rd (.k (A1 (Nat.le_refl n)) <| .l) (by kernel_rfl)) (by omega)
  unfold Afb at this;rw [Ac8] at this;exact this
 have h2:=AcI (pb b f) hn n 4611686018427387905 (Nat.le_refl n) (by omega) λk h1 h2=>by omega
 rw [<- ZA (Nat.le_refl n) hn] at h2;cases hs:ilt 0 (ofNat (AA (pb b f) n)) with
 | true=>cases b <;> exact DW.ok (.k hm <| .a h0 <| .k hs <| .a h2 <| .l) (by kernel_rfl)
 | false =>rw [<- Xy (pb b f) n (by simpa [ilt] using hs)];cases b <;> exact DW.ok (.k hm <| .a h0 <| .k hs <| .l) (by kernel_rfl)
theorem p92:As Tryz.prog Gl 91 Xx:=by
 refine Ah A2 mixed Tryz.func91 (by kernel_rfl) (by kernel_rfl) λvs v h' h=>?_;unfold Xx at h;split at h
 ·rename_i u g
  obtain ⟨n,f,ha,h1⟩:=Bd h;obtain ⟨hm,hq⟩:=Ab h1;have hA:By [u,.fn g []] [Ap n f,.fn g []]:=λS w cs hv=>by
   obtain ⟨c,l,rfl,q1,q2⟩:=hv;exact ⟨c,l,rfl,ha S w c q1,q2⟩
  have hx:=Be WS AhX (G:=Gl);split at hq
  ·rename_i h1
   obtain rfl:=Nat.eq_of_beq_eq_true h1;cases Aa hq;exact ⟨_,ZD,_,hA,rfl,hx.1,hx.2,AlK true n f hm,Au.refl _⟩
  ·rename_i h1
   obtain rfl:=Nat.eq_of_beq_eq_true h1;cases Aa hq;exact ⟨_,ZD,_,hA,rfl,hx.1,hx.2,AlK false n f hm,Au.refl _⟩
  ·cases hq
 ·cases h
end Go.Proofs.YtkbgidbledjejaaGreat.Ed
namespace Go.Proofs.YtkbgidbledjejaaGreat.Ed
open Go.Sy
end Go.Proofs.YtkbgidbledjejaaGreat.Ed
namespace Go.Proofs.YtkbgidbledjejaaGreat.Ed
open Go.Sy
def okI (v:V):Bool:=match gI v with
 | some _=>true
 | none=>false
def edI (v:V):Int:=match gI v with
 | some e=>e
 | none=>0
theorem Adb {v:V} (h:okI v=true):v=iV (edI v):=by
 unfold okI at h;unfold edI;split at h
 ·rename_i e he
  exact Hw he
 ·cases h
def CH (n:Nat) (f:Nat->Int):V:=.sl 1 n λi=>iV (f i)
def AgU:V->Option (Nat×(Nat->V))
 | .sl s n g=>match Nat.beq s 1 with
  | true=>some (n,g)
  | false=>none
 | _=>none
def apI {α:Type} (v:V) (F:Nat->(Nat->Int)->T α):T α :=
 match AgU v with
 | some (n,g)=>.br (Dl n λi=>okI (g i)) (F n λi=>edI (g i)) .fail
 | none=>.fail
theorem Ge {α:Type} {v:V} {F:Nat->(Nat->Int)->T α} {r:α} (h:(apI v F).sem=some r) :
  ∃ n f,(∀ (S:Nat->Prop) (w:World) (c:Value),VR S w v noK c->VR S w (CH n f) noK c)∧(F n f).sem=some r:=by
 unfold apI at h;split at h
 ·rename_i n g hg
  obtain ⟨h1,h2⟩:=Ab h;have h1:=AS.1 h1;refine ⟨n,_,λS w c hv=>?_,h2⟩;unfold AgU at hg;split at hg
  ·rename_i s n' g'
   split at hg
   ·rename_i hs
    simp only [Option.some.injEq,Prod.mk.injEq] at hg;obtain ⟨rfl,rfl⟩:=hg;have hs:s=1:=Nat.eq_of_beq_eq_true hs;subst hs;obtain ⟨a,cap,e,hc,hb⟩:=hv;refine ⟨a,cap,e,hc,hb.imp id ?_⟩
    rintro ⟨b,o,ea,hel⟩
    refine ⟨b,o,ea,λi hi=>?_⟩;have:=hel i hi;rw [Adb (h1 i hi)] at this;exact this
   ·cases hg
  ·cases hg
 ·cases h
def Ale (F:Nat->(Nat->Int)->Nat->(Nat->Int)->A3):List V->A3
 | [v,u]=>apI v λn f=>apI u λm g=>F n f m g
 | _=>.fail
theorem Abr {F:Nat->(Nat->Int)->Nat->(Nat->Int)->A3} {vs:List V} {r:V×List Blk} (h:(Ale F vs).sem=some r) :
  ∃ n f m g,By vs [CH n f,CH m g]∧(F n f m g).sem=some r:=by
 unfold Ale at h;split at h
 ·obtain ⟨n,f,h1,h2⟩:=Ge h
  obtain ⟨m,g,h3,h4⟩:=Ge h2;refine ⟨n,f,m,g,λS w cs hv=>?_,h4⟩;obtain ⟨c,l,rfl,q1,c',l',rfl,q2,q3⟩:=hv;exact ⟨c,_,rfl,h1 S w c q1,c',l',rfl,h3 S w c' q2,q3⟩
 ·cases h
def Ahq (F:Nat->(Nat->Int)->A3):List V->A3
 | [v]=>apI v F
 | _=>.fail
theorem Tb {F:Nat->(Nat->Int)->A3} {vs:List V} {r:V×List Blk} (h:(Ahq F vs).sem=some r):∃ n f,By vs [CH n f]∧(F n f).sem=some r:=by
 unfold Ahq at h;split at h
 ·obtain ⟨n,f,h1,h2⟩:=Ge h
  refine ⟨n,f,λS w cs hv=>?_,h2⟩;obtain ⟨c,l,rfl,q1,q2⟩:=hv;exact ⟨c,l,rfl,h1 S w c q1,q2⟩
 ·cases h
def okB (v:V):Bool:=match gB v with
 | some _=>true
 | none=>false
def edB (v:V):Bool:=match gB v with
 | some e=>e
 | none=>false
theorem Adc {v:V} (h:okB v=true):v=bV (edB v):=by
 unfold okB at h;unfold edB;split at h
 ·rename_i e he
  exact Uk he
 ·cases h
def Yt (n:Nat) (f:Nat->Bool):V:=.sl 1 n λi=>bV (f i)
def apB {α:Type} (v:V) (F:Nat->(Nat->Bool)->T α):T α :=
 match AgU v with
 | some (n,g)=>.br (Dl n λi=>okB (g i)) (F n λi=>edB (g i)) .fail
 | none=>.fail
theorem AeV {α:Type} {v:V} {F:Nat->(Nat->Bool)->T α} {r:α} (h:(apB v F).sem=some r) :
  ∃ n f,(∀ (S:Nat->Prop) (w:World) (c:Value),VR S w v noK c->VR S w (Yt n f) noK c)∧(F n f).sem=some r:=by
 unfold apB at h;split at h
 ·rename_i n g hg
  obtain ⟨h1,h2⟩:=Ab h;have h1:=AS.1 h1;refine ⟨n,_,λS w c hv=>?_,h2⟩;unfold AgU at hg;split at hg
  ·rename_i s n' g'
   split at hg
   ·rename_i hs
    simp only [Option.some.injEq,Prod.mk.injEq] at hg;obtain ⟨rfl,rfl⟩:=hg;have hs:s=1:=Nat.eq_of_beq_eq_true hs;subst hs;obtain ⟨a,cap,e,hc,hb⟩:=hv;refine ⟨a,cap,e,hc,hb.imp id ?_⟩
    rintro ⟨b,o,ea,hel⟩
    refine ⟨b,o,ea,λi hi=>?_⟩;have:=hel i hi;rw [Adc (h1 i hi)] at this;exact this
   ·cases hg
  ·cases hg
 ·cases h
theorem Ald {α:Type} (n:Nat) (f:Nat->E6) (F:Nat->(Nat->E6)->T α):(apL (Ap n f) F).sem=(F n f).sem:=by
 show sel (Dl n λi=>okE (eV (f i))) (F n f).sem none=_;rw [Ahu];rfl
end Go.Proofs.YtkbgidbledjejaaGreat.Ed
namespace Go.Proofs.YtkbgidbledjejaaGreat.Ed
open Go.Sy
open Int (ofNat)
def XQ (r:Nat):Ex×St:=(.rt,⟨jsV 67 0 Ac [(2,nV r)],[]⟩)
def J0 (n:Nat) (h:Nat->Int):Lp:=⟨bmK 67 0 [0,3,4,5,6],1,bmK 67 0 [2],1,3 * n+4⟩
def Kz (n:Nat) (h:Nat->Int) (i t s:Nat) (j:Nat->V):St:=⟨jsV 67 0 j [(0,.sl 1 n (λk=>iV (h k))),(3,nV n),(4,nV i),(5,nV t),(6,nV s)],[]⟩
noncomputable def FQ (L:LT):St->T (Ex×St):=λst=>A6 tab ⟨A5 tb0,L,Gl⟩ (Aw (VY 0 900 Tryz.f83) 0) 0 st
section
variable (L:LT) (n:Nat) (h:Nat->Int) (i t s:Nat)  (j:Nat->V)
include L n h i t s j
theorem Ajy (h0:ile (ofNat n) (ofNat i)=true):Am (FQ L) (J0 n h) (Kz n h i t s j)=some (.rt,⟨jsV 67 0 Ac [(2,iV (sel (ilt (sel (ilt (wr .i64 (Az (ofNat n) 1)) 0) 0 (wr .i64 (Az (ofNat n) 1))) (sel (ilt (ofNat t) (ofNat i)) (ofNat t) (ofNat i))) (sel (ilt (wr .i64 (Az (ofNat n) 1)) 0) 0 (wr .i64 (Az (ofNat n) 1))) (sel (ilt (ofNat t) (ofNat i)) (ofNat t) (ofNat i))))],[]⟩):=by
 exact Ag (ks:=[kn h0,kn h0,kn h0,kn h0,kT,kT,kT,kT,kT]) (by kernel_rfl)
theorem Ajx (h0:ile (ofNat n) (ofNat i)=false) (h1:ile (ofNat n) (ofNat t)=true):Am (FQ L) (J0 n h) (Kz n h i t s j)=some (.rt,⟨jsV 67 0 Ac [(2,iV (sel (ilt (sel (ilt (wr .i64 (Az (ofNat n) 1)) 0) 0 (wr .i64 (Az (ofNat n) 1))) (sel (ilt (ofNat t) (ofNat i)) (ofNat t) (ofNat i))) (sel (ilt (wr .i64 (Az (ofNat n) 1)) 0) 0 (wr .i64 (Az (ofNat n) 1))) (sel (ilt (ofNat t) (ofNat i)) (ofNat t) (ofNat i))))],[]⟩):=by
 exact Ag (ks:=[kn h0,kn h0,kn h0,kn h0,kn h1,kn h1,kn h1,kn h1,kT]) (by kernel_rfl)
theorem Ajv (h0:ile (ofNat n) (ofNat i)=false) (h1:ile (ofNat n) (ofNat t)=false) (h2:ile (ofNat n) (ofNat s)=true):Am (FQ L) (J0 n h) (Kz n h i t s j)=some (.rt,⟨jsV 67 0 Ac [(2,iV (sel (ilt (sel (ilt (wr .i64 (Az (ofNat n) 1)) 0) 0 (wr .i64 (Az (ofNat n) 1))) (sel (ilt (ofNat t) (ofNat i)) (ofNat t) (ofNat i))) (sel (ilt (wr .i64 (Az (ofNat n) 1)) 0) 0 (wr .i64 (Az (ofNat n) 1))) (sel (ilt (ofNat t) (ofNat i)) (ofNat t) (ofNat i))))],[]⟩):=by
 exact Ag (ks:=[kn h0,kn h0,kn h0,kn h0,kn h1,kn h1,kn h1,kn h1,kn h2]) (by kernel_rfl)
theorem Aj0 (h0:ile (ofNat n) (ofNat i)=false) (h1:ile (ofNat n) (ofNat t)=false) (h2:ile (ofNat n) (ofNat s)=false) (h3:ieq (ofNat n) 0=false) (h4:Av (ile 0 (Ay (wr .i64 (Ai (ofNat i) (ofNat s))) (ofNat n))) (ilt (Ay (wr .i64 (Ai (ofNat i) (ofNat s))) (ofNat n)) (ofNat n))=true) (h5:Av (ile 0 (Ay (wr .i64 (Ai (ofNat t) (ofNat s))) (ofNat n))) (ilt (Ay (wr .i64 (Ai (ofNat t) (ofNat s))) (ofNat n)) (ofNat n))=true) (h6:ieq (h (toN (Ay (wr .i64 (Ai (ofNat i) (ofNat s))) (ofNat n)))) (h (toN (Ay (wr .i64 (Ai (ofNat t) (ofNat s))) (ofNat n))))=true):Am (FQ L) (J0 n h) (Kz n h i t s j)=some (.nm,⟨jsV 67 0 Ac [(0,.sl 1 n (λk=>iV (h k))),(3,nV n),(4,nV i),(5,nV t),(6,iV (wr .i64 (Ai (ofNat s) 1)))],[]⟩):=by
 exact Ag (ks:=[kn h0,kn h0,kn h0,kn h0,kn h1,kn h1,kn h1,kn h1,kn h2,kn h3,kn h4,kn h3,kn h5,kn h6]) (by kernel_rfl)
theorem Ajz (h0:ile (ofNat n) (ofNat i)=false) (h1:ile (ofNat n) (ofNat t)=false) (h2:ile (ofNat n) (ofNat s)=false) (h3:ieq (ofNat n) 0=false) (h4:Av (ile 0 (Ay (wr .i64 (Ai (ofNat i) (ofNat s))) (ofNat n))) (ilt (Ay (wr .i64 (Ai (ofNat i) (ofNat s))) (ofNat n)) (ofNat n))=true) (h5:Av (ile 0 (Ay (wr .i64 (Ai (ofNat t) (ofNat s))) (ofNat n))) (ilt (Ay (wr .i64 (Ai (ofNat t) (ofNat s))) (ofNat n)) (ofNat n))=true) (h6:ieq (h (toN (Ay (wr .i64 (Ai (ofNat i) (ofNat s))) (ofNat n)))) (h (toN (Ay (wr .i64 (Ai (ofNat t) (ofNat s))) (ofNat n))))=false) (h7:ilt (h (toN (Ay (wr .i64 (Ai (ofNat t) (ofNat s))) (ofNat n)))) (h (toN (Ay (wr .i64 (Ai (ofNat i) (ofNat s))) (ofNat n))))=true) (h8:ieq (wr .i64 (Ai (ofNat i) (wr .i64 (Ai (ofNat s) 1)))) (ofNat t)=false):Am (FQ L) (J0 n h) (Kz n h i t s j)=some (.nm,⟨jsV 67 0 Ac [(0,.sl 1 n (λk=>iV (h k))),(3,nV n),(4,iV (wr .i64 (Ai (ofNat i) (wr .i64 (Ai (ofNat s) 1))))),(5,nV t),(6,iV 0)],[]⟩):=by
 exact Ag (ks:=[kn h0,kn h0,kn h0,kn h0,kn h1,kn h1,kn h1,kn h1,kn h2,kn h3,kn h4,kn h3,kn h5,kn h6,kn h7,kn h8]) (by kernel_rfl)
theorem Ags (h0:ile (ofNat n) (ofNat i)=false) (h1:ile (ofNat n) (ofNat t)=false) (h2:ile (ofNat n) (ofNat s)=false) (h3:ieq (ofNat n) 0=false) (h4:Av (ile 0 (Ay (wr .i64 (Ai (ofNat i) (ofNat s))) (ofNat n))) (ilt (Ay (wr .i64 (Ai (ofNat i) (ofNat s))) (ofNat n)) (ofNat n))=true) (h5:Av (ile 0 (Ay (wr .i64 (Ai (ofNat t) (ofNat s))) (ofNat n))) (ilt (Ay (wr .i64 (Ai (ofNat t) (ofNat s))) (ofNat n)) (ofNat n))=true) (h6:ieq (h (toN (Ay (wr .i64 (Ai (ofNat i) (ofNat s))) (ofNat n)))) (h (toN (Ay (wr .i64 (Ai (ofNat t) (ofNat s))) (ofNat n))))=false) (h7:ilt (h (toN (Ay (wr .i64 (Ai (ofNat t) (ofNat s))) (ofNat n)))) (h (toN (Ay (wr .i64 (Ai (ofNat i) (ofNat s))) (ofNat n))))=true) (h8:ieq (wr .i64 (Ai (ofNat i) (wr .i64 (Ai (ofNat s) 1)))) (ofNat t)=true):Am (FQ L) (J0 n h) (Kz n h i t s j)=some (.nm,⟨jsV 67 0 Ac [(0,.sl 1 n (λk=>iV (h k))),(3,nV n),(4,iV (wr .i64 (Ai (ofNat i) (wr .i64 (Ai (ofNat s) 1))))),(5,iV (wr .i64 (Ai (ofNat t) 1))),(6,iV 0)],[]⟩):=by
 exact Ag (ks:=[kn h0,kn h0,kn h0,kn h0,kn h1,kn h1,kn h1,kn h1,kn h2,kn h3,kn h4,kn h3,kn h5,kn h6,kn h7,kn h8]) (by kernel_rfl)
theorem Ajw (h0:ile (ofNat n) (ofNat i)=false) (h1:ile (ofNat n) (ofNat t)=false) (h2:ile (ofNat n) (ofNat s)=false) (h3:ieq (ofNat n) 0=false) (h4:Av (ile 0 (Ay (wr .i64 (Ai (ofNat i) (ofNat s))) (ofNat n))) (ilt (Ay (wr .i64 (Ai (ofNat i) (ofNat s))) (ofNat n)) (ofNat n))=true) (h5:Av (ile 0 (Ay (wr .i64 (Ai (ofNat t) (ofNat s))) (ofNat n))) (ilt (Ay (wr .i64 (Ai (ofNat t) (ofNat s))) (ofNat n)) (ofNat n))=true) (h6:ieq (h (toN (Ay (wr .i64 (Ai (ofNat i) (ofNat s))) (ofNat n)))) (h (toN (Ay (wr .i64 (Ai (ofNat t) (ofNat s))) (ofNat n))))=false) (h7:ilt (h (toN (Ay (wr .i64 (Ai (ofNat t) (ofNat s))) (ofNat n)))) (h (toN (Ay (wr .i64 (Ai (ofNat i) (ofNat s))) (ofNat n))))=false) (h8:ieq (ofNat i) (wr .i64 (Ai (ofNat t) (wr .i64 (Ai (ofNat s) 1))))=false):Am (FQ L) (J0 n h) (Kz n h i t s j)=some (.nm,⟨jsV 67 0 Ac [(0,.sl 1 n (λk=>iV (h k))),(3,nV n),(4,nV i),(5,iV (wr .i64 (Ai (ofNat t) (wr .i64 (Ai (ofNat s) 1))))),(6,iV 0)],[]⟩):=by
 exact Ag (ks:=[kn h0,kn h0,kn h0,kn h0,kn h1,kn h1,kn h1,kn h1,kn h2,kn h3,kn h4,kn h3,kn h5,kn h6,kn h7,kn h8]) (by kernel_rfl)
theorem Agr (h0:ile (ofNat n) (ofNat i)=false) (h1:ile (ofNat n) (ofNat t)=false) (h2:ile (ofNat n) (ofNat s)=false) (h3:ieq (ofNat n) 0=false) (h4:Av (ile 0 (Ay (wr .i64 (Ai (ofNat i) (ofNat s))) (ofNat n))) (ilt (Ay (wr .i64 (Ai (ofNat i) (ofNat s))) (ofNat n)) (ofNat n))=true) (h5:Av (ile 0 (Ay (wr .i64 (Ai (ofNat t) (ofNat s))) (ofNat n))) (ilt (Ay (wr .i64 (Ai (ofNat t) (ofNat s))) (ofNat n)) (ofNat n))=true) (h6:ieq (h (toN (Ay (wr .i64 (Ai (ofNat i) (ofNat s))) (ofNat n)))) (h (toN (Ay (wr .i64 (Ai (ofNat t) (ofNat s))) (ofNat n))))=false) (h7:ilt (h (toN (Ay (wr .i64 (Ai (ofNat t) (ofNat s))) (ofNat n)))) (h (toN (Ay (wr .i64 (Ai (ofNat i) (ofNat s))) (ofNat n))))=false) (h8:ieq (ofNat i) (wr .i64 (Ai (ofNat t) (wr .i64 (Ai (ofNat s) 1))))=true):Am (FQ L) (J0 n h) (Kz n h i t s j)=some (.nm,⟨jsV 67 0 Ac [(0,.sl 1 n (λk=>iV (h k))),(3,nV n),(4,nV i),(5,iV (wr .i64 (Ai (wr .i64 (Ai (ofNat t) (wr .i64 (Ai (ofNat s) 1)))) 1))),(6,iV 0)],[]⟩):=by
 exact Ag (ks:=[kn h0,kn h0,kn h0,kn h0,kn h1,kn h1,kn h1,kn h1,kn h2,kn h3,kn h4,kn h3,kn h5,kn h6,kn h7,kn h8]) (by kernel_rfl)
end
def Aio (n:Nat) (h:Nat->Int) :Nat->V:=lkV A7 [(2,iV 0),(9,.sl 1 n (λk=>iV (h k))),(10,nV n)]
theorem AlI (L:LT) (p0:PT) (n:Nat) (h:Nat->Int) (r:Nat)  (hp0:p0 (FQ (onP 0 p0 (XQ r) L)) (Kz n h 0 1 0 (Aio n h ))=true):(AL (Ar tab ⟨A5 tb0,onP 0 p0 (XQ r) L,Gl⟩ (VY 0 900 Tryz.f83) [.sl 1 n (λk=>iV (h k))] [])).sem=some ((nV r),[]):=by
 exact Ag (ks:=[kn hp0]) (by kernel_rfl)
def E4 (n:Nat) (h:Nat->Int):Nat->Nat->Nat->Nat->Nat
 | 0,_,_,_=>0
 | q+1,i,t,s =>
  if n <= i ∨ n <= t ∨ n <= s then min (min i t) (n-1)
  else if h ((i+s) % n)=h ((t+s) % n) then E4 n h q i t (s+1)
  else if h ((t+s) % n)<h ((i+s) % n) then E4 n h q (i+s+1) (if i+s+1=t then t+1 else t) 0
  else E4 n h q i (if i=t+s+1 then t+s+2 else t+s+1) 0
def DI (n:Nat) (h:Nat->Int):Nat:=E4 n h (3 * n+4) 0 1 0
theorem GL {a b:Nat} (h:a+b <= 9223372036854775807):wr .i64 (Ai (ofNat a) (ofNat b))=ofNat (a+b):=by
 unfold wr Ai IntKind.wrap;simp [IntKind.bits,IntKind.signed];omega
theorem OW {a:Nat} (h:a+1 <= 9223372036854775807):wr .i64 (Ai (ofNat a) 1)=ofNat (a+1):=GL (b:=1) h
theorem Kf (a n:Nat):Ay (ofNat a) (ofNat n)=ofNat (a % n):=rfl
theorem FO (a b:Nat):ieq (ofNat a) (ofNat b)=decide (a=b):=by
 simp only [ieq,Int.ofNat_eq_natCast];by_cases h:a=b
 ·simp [h]
 ·rw [decide_eq_false h]
  simp;omega
theorem EK (a b:Nat):ile (ofNat a) (ofNat b)=decide (a <= b):=by
 simp [ile]
theorem CX (a b:Nat):ilt (ofNat a) (ofNat b)=decide (a<b):=by
 simp [ilt]
theorem Aku (n i t:Nat) (hn:n <= 1152921504606846976):sel (ilt (sel (ilt (wr .i64 (Az (ofNat n) 1)) 0) 0 (wr .i64 (Az (ofNat n) 1))) (sel (ilt (ofNat t) (ofNat i)) (ofNat t) (ofNat i))) (sel (ilt (wr .i64 (Az (ofNat n) 1)) 0) 0 (wr .i64 (Az (ofNat n) 1))) (sel (ilt (ofNat t) (ofNat i)) (ofNat t) (ofNat i))=ofNat (min (min i t) (n-1)):=by
 have h1:wr .i64 (Az (ofNat n) 1)=(n:Int)-1:=by
  unfold wr Az IntKind.wrap;simp [IntKind.bits,IntKind.signed];omega
 rw [h1];simp only [sel,ilt,Bool.cond_decide,Int.ofNat_eq_natCast];omega
theorem MY (L:LT) (n:Nat) (h:Nat->Int) (hn:n <= 1152921504606846976):∀ (q i t s:Nat) (j:Nat->V),i <= 2 * n->t <= 2 * n+1->s <= n->3 * n+1-(i+t+s)<q ->
  (Ax (FQ L) (J0 n h) q (Kz n h i t s j)).sem=some (XQ (E4 n h q i t s))
 | 0,_,_,_,_,_,_,_,h4=>absurd h4 (Nat.not_lt_zero _)
 | q+1,i,t,s,j,hi,ht,hs,h4=>by
  by_cases ci:n <= i
  ·rw [Ae (Ajy L n h i t s j (by rw [EK,decide_eq_true ci])),Ui,Aku n i t hn,E4,if_pos (.inl ci)]
   rfl
  ·have ci0:ile (ofNat n) (ofNat i)=false:=by rw [EK,decide_eq_false ci]
   by_cases ct:n <= t
   ·rw [Ae (Ajx L n h i t s j ci0 (by rw [EK,decide_eq_true ct])),Ui,Aku n i t hn,E4,if_pos (.inr (.inl ct))]
    rfl
   ·have ct0:ile (ofNat n) (ofNat t)=false:=by rw [EK,decide_eq_false ct]
    by_cases cs:n <= s
    ·rw [Ae (Ajv L n h i t s j ci0 ct0 (by rw [EK,decide_eq_true cs])),Ui,Aku n i t hn,E4,if_pos (.inr (.inr cs))]
     rfl
    ·have cs0:ile (ofNat n) (ofNat s)=false:=by rw [EK,decide_eq_false cs]
     have cn0:ieq (ofNat n) 0=false:=by
      rw [show (0:Int)=ofNat 0 from rfl,FO,decide_eq_false (by omega)]
     have e1:Ay (wr .i64 (Ai (ofNat i) (ofNat s))) (ofNat n)=ofNat ((i+s) % n):=by rw [GL (by omega),Kf]
     have e2:Ay (wr .i64 (Ai (ofNat t) (ofNat s))) (ofNat n)=ofNat ((t+s) % n):=by rw [GL (by omega),Kf]
     have b1:Av (ile 0 (Ay (wr .i64 (Ai (ofNat i) (ofNat s))) (ofNat n))) (ilt (Ay (wr .i64 (Ai (ofNat i) (ofNat s))) (ofNat n)) (ofNat n))=true:=by
      rw [e1]; exact Af (Nat.mod_lt _ (by omega))
     have b2:Av (ile 0 (Ay (wr .i64 (Ai (ofNat t) (ofNat s))) (ofNat n))) (ilt (Ay (wr .i64 (Ai (ofNat t) (ofNat s))) (ofNat n)) (ofNat n))=true:=by
      rw [e2]; exact Af (Nat.mod_lt _ (by omega))
     have t1:∀ a:Nat,toN (ofNat a)=a:=λ_=>rfl;have u1:wr .i64 (Ai (ofNat i) (wr .i64 (Ai (ofNat s) 1)))=ofNat (i+s+1):=by rw [OW (by omega),GL (by omega)]; rfl
     have u2:wr .i64 (Ai (ofNat t) (wr .i64 (Ai (ofNat s) 1)))=ofNat (t+s+1):=by rw [OW (by omega),GL (by omega)]; rfl
     rw [E4,if_neg (by omega)];by_cases ce:h ((i+s) % n)=h ((t+s) % n)
     ·rw [if_pos ce,Ae (Aj0 L n h i t s j ci0 ct0 cs0 cn0 b1 b2 (by rw [e1,e2,t1,t1]; simp [ieq,ce])),AK,OW (by omega)]
      exact MY L n h hn q i t (s+1) Ac hi ht (by omega) (by omega)
     ·have ce0:ieq (h (toN (Ay (wr .i64 (Ai (ofNat i) (ofNat s))) (ofNat n)))) (h (toN (Ay (wr .i64 (Ai (ofNat t) (ofNat s))) (ofNat n))))=false:=by
       rw [e1,e2,t1,t1]; simp [ieq,ce]
      rw [if_neg ce];by_cases cg:h ((t+s) % n)<h ((i+s) % n)
      ·have cg0:ilt (h (toN (Ay (wr .i64 (Ai (ofNat t) (ofNat s))) (ofNat n)))) (h (toN (Ay (wr .i64 (Ai (ofNat i) (ofNat s))) (ofNat n))))=true:=by
        rw [e1,e2,t1,t1]; simp [ilt,cg]
       rw [if_pos cg];by_cases cq:i+s+1=t
       ·rw [if_pos cq,Ae (Ags L n h i t s j ci0 ct0 cs0 cn0 b1 b2 ce0 cg0 (by rw [u1,FO,decide_eq_true cq])),AK,u1,OW (by omega)]
        exact MY L n h hn q (i+s+1) (t+1) 0 Ac (by omega) (by omega) (by omega) (by omega)
       ·rw [if_neg cq,Ae (Ajz L n h i t s j ci0 ct0 cs0 cn0 b1 b2 ce0 cg0 (by rw [u1,FO,decide_eq_false cq])),AK,u1]
        exact MY L n h hn q (i+s+1) t 0 Ac (by omega) (by omega) (by omega) (by omega)
      ·have cg0:ilt (h (toN (Ay (wr .i64 (Ai (ofNat t) (ofNat s))) (ofNat n)))) (h (toN (Ay (wr .i64 (Ai (ofNat i) (ofNat s))) (ofNat n))))=false:=by
        rw [e1,e2,t1,t1]; simp [ilt]; omega
       rw [if_neg cg];by_cases cq:i=t+s+1
       ·rw [if_pos cq,Ae (Agr L n h i t s j ci0 ct0 cs0 cn0 b1 b2 ce0 cg0 (by rw [u2,FO,decide_eq_true cq])),AK,u2,OW (by omega)]
        exact MY L n h hn q i (t+s+2) 0 Ac (by omega) (by omega) (by omega) (by omega)
       ·rw [if_neg cq,Ae (Ajw L n h i t s j ci0 ct0 cs0 cn0 b1 b2 ce0 cg0 (by rw [u2,FO,decide_eq_false cq])),AK,u2]
        exact MY L n h hn q i (t+s+1) 0 Ac (by omega) (by omega) (by omega) (by omega)
def AgX (n:Nat):Bool:=decide (n <= 1152921504606846976)
def leastT:List V->A3:=Ahq λn h=>.br (AgX n) (out (iV (ofNat (DI n h)))) .fail
theorem And:As Tryz.prog Gl 83 leastT:=by
 refine Vo (p:=match Tryz.f83.body with | some (.seq p _)=>p | _=>.skip) (c:=match Tryz.f83.body with | some (.seq _ (.scope c))=>c | _=>.skip) (d:=match (match Tryz.f83.body with | some (.seq _ (.scope c))=>G5 0 c | _=>none) with | some d=>d | none=>.skip) A2 mixed Tryz.func83 0 900 (by kernel_rfl) (by kernel_rfl) (by kernel_rfl) (by kernel_rfl) λvs v h' h=>?_
 obtain ⟨n,f,ha,h1⟩:=Tb h;obtain ⟨hn,hq⟩:=Ab h1;have:=Aa hq;simp only [Prod.mk.injEq] at this;obtain ⟨rfl,rfl⟩:=this;have hn:n <= 1152921504606846976:=by simpa [AgX] using hn
 have hx:=Bi H2 [(0,J0 n f)];exact ⟨_,B7 Gl tb0 [(0,J0 n f)],_,ha,rfl,hx.1,hx.2,Bh (Bg (AV _) (AV _)) _ (AlI _ _ n f _ (AB (MY _ n f hn (3 * n+4) 0 1 0 (Aio n f) (by omega) (by omega) (by omega) (by omega)))),Au.refl _⟩
end Go.Proofs.YtkbgidbledjejaaGreat.Ed
