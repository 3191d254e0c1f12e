/-
  Layer 6: the search's next step by step. Conditions: what the search holds is in its places, and short.
-/
import Derived.Test.YtkbgidbledjejaaGreatEnG
import Derived.Test.YtkbgidbledjejaaGreatCyTc
import Derived.Test.YtkbgidbledjejaaGreatEnD
namespace Go.Proofs.YtkbgidbledjejaaGreat.En
open Go.Sy Go Go.Proofs.YtkbgidbledjejaaGreat.Ed
open Int (ofNat)
set_option maxRecDepth 100000
theorem rbE (L:Nat) (g:Nat->E6):Cf [.row 46 6 L λk=>eV (g k)]=true:=by
 simp only [Cf,Bool.and_true,List.all_eq_true];exact λ_ _=>rfl
def Ky (L:Nat) (x:Nat->Int) (e:Int) (i:Nat):Int:=bif Nat.beq i L then e else x i
theorem UU (L:Nat) (x:Nat->Int) (e:Int):AE L (λi=>iV (x i)) (Ct 1 [iV e] 0)=λi=>iV (Ky L x e i):=by
 funext i;rw [Ca];unfold Ky;cases Nat.beq i L <;> rfl
noncomputable def tb43:AD:=(74,Ad5)::(73,XN)::(72,Aju)::(44,Uc)::(75,isT)::[]
theorem tb43_ok:Al Tryz.prog Gl tb43:=.cons p74 <| .cons p73 <| .cons p72 <| .cons p44 <| .cons p75 <| .nil
def lpC:Code->Option Code
 | .seq a b=>match lpC a with
  | some c=>some c
  | none=>lpC b
 | .block _ c=>lpC c
 | .loop c=>some c
 | .cond _ a b=>match lpC a with
  | some c=>some c
  | none=>lpC b
 | _=>none
noncomputable def L9:Code:=match Tryz.f43.body with
 | some (.seq _ (.scope c))=>c
 | _=>.skip
noncomputable def Aom:Code:=match lpC L9 with
 | some c=>c
 | none=>.skip
def Ol:List Bool:=bmK 128 0 [0,2]
def lp43:Lp:=⟨Ol,4,Ol,4,4611686018427387905⟩
noncomputable abbrev VZ:Cx:=cxA Gl tb43 [(0,lp43,[])]
def stG (a n:Int) (m:Nat) (v:Nat->E6) (L:Nat) (g:Nat->V) (b:Bool):St:=⟨jsV 128 0 Ac [(0,.ptr 0 0),(2,bV b)],[.cells [iV a,iV n,.ref 1,.ref 2],.row 46 6 m (λi=>eV (v i)),.row 3 1 L g,.saved [.ptr 0 0,.und,.und]]⟩
abbrev st43 (a n:Int) (m:Nat) (v:Nat->E6) (L:Nat) (x:Nat->Int):St:=stG a n m v L (λi=>iV (x i)) false
noncomputable abbrev J43 (c:Code) (st:St):T (Ex×St):=Fp tab VZ 100 Ol 4 c 0 st
noncomputable abbrev C43 (c:Code) (st:St):T (Ex×St):=(J43 c st).bind λr=>T.leaf (r.1,EC Ol 4 r.2)
noncomputable abbrev s0:Code:=L8 L9 0
noncomputable abbrev s1:Code:=L8 L9 1
noncomputable abbrev s2:Code:=L8 L9 2
section
variable {a n:Int} {m:Nat} {v:Nat->E6} {L:Nat} {x:Nat->Int}
section
variable (hs:srG m L x=true) (hk:G2 40 (ofNat L) (ofNat L)=true) (hf:BZ L=true)
include hs
theorem AcU (h1:Qo v L x=false):(C43 s0 (st43 a n m v L x)).sem=some (.ex 102,st43 a n m v L x):=DW.ok (.k (eL m) <| .k (eL L) <| .k hs <| .k (eN h1) <| .l) (by kernel_rfl)
include hk hf
theorem Ajh (h1:Qo v L x=true) (h2:isB a L (λi=>v (toN (x i)))=true):(C43 s0 (st43 a n m v L x)).sem=some (.rt,stG a n m v L (λi=>iV (x i)) true):=DW.ok (.k (eL m) <| .k (eL L) <| .k hs <| .k (eN h1) <| .k (eL m) <| .k (eL L) <| .k hs <| .k hk <| .k (rbE L λk=>v (toN (x k))) <| .k (eL m) <| .r 2 (eL L) <| .k hf <| .k h2 <| .l) (by kernel_rfl)
theorem AcV (h1:Qo v L x=true) (h2:isB a L (λi=>v (toN (x i)))=false):(C43 s0 (st43 a n m v L x)).sem=some (.ex 101,st43 a n m v L x):=DW.ok (.k (eL m) <| .k (eL L) <| .k hs <| .k (eN h1) <| .k (eL m) <| .k (eL L) <| .k hs <| .k hk <| .k (rbE L λk=>v (toN (x k))) <| .k (eL m) <| .r 2 (eL L) <| .k hf <| .k h2 <| .l) (by kernel_rfl)
end
section
variable (hl0:0<L) (hs:srG m L x=true) (ha:CJ L 1 8=true)
def P3 (n:Int) (m:Nat) (v:Nat->E6) (L:Nat) (x:Nat->Int):Bool:=sel (ilt (ofNat L) n) (sel (TO L x) false (J7 n m v L x)) false
include hl0 hs ha in
theorem AdJ (h:P3 n m v L x=true):(C43 (Fq s1 2) (st43 a n m v L x)).sem=some (.ex 100,st43 a n m v (L+1) (Ky L x (x 0))):=by
 unfold P3 at h;cases h1:ilt (ofNat L) n with
 | false=>rw [h1] at h; cases h
 | true =>
  cases h2:TO L x with
  | true=>rw [h1,h2] at h; cases h
  | false =>
   cases h3:J7 n m v L x with
   | false=>rw [h1,h2,h3] at h; cases h
   | true=>exact DW.ok (.r 2 h1 <| .k (eL m) <| .k (eL L) <| .k hs <| .r 2 h1 <| .r 2 (eN h2) <| .k (eL m) <| .k (eL L) <| .k hs <| .k (eN h2) <| .k h3 <| .k (Af hl0) <| .k (decide_eq_true hl0) <| .k ha <| .e (congrArg (λg=>(Ex.ex 100,stG a n m v (L+1) g false)) (UU L x (x 0)))) (by kernel_rfl)
include hs in
theorem Ue (h:P3 n m v L x=false):(J43 (Fq s1 2) (st43 a n m v L x)).sem=some (.nm,st43 a n m v L x):=by
 unfold P3 at h;cases h1:ilt (ofNat L) n with
 | false=>exact DW.ok (.r 4 h1 <| .r 4 eF <| .l) (by kernel_rfl)
 | true =>
  cases h2:TO L x with
  | true=>exact DW.ok (.r 2 h1 <| .k (eL m) <| .k (eL L) <| .k hs <| .r 2 h1 <| .r 3 (eN h2) <| .k eF <| .l) (by kernel_rfl)
  | false =>
   cases h3:J7 n m v L x with
   | true=>rw [h1,h2,h3] at h; cases h
   | false=>exact DW.ok (.r 2 h1 <| .k (eL m) <| .k (eL L) <| .k hs <| .r 2 h1 <| .r 2 (eN h2) <| .k (eL m) <| .k (eL L) <| .k hs <| .k (eN h2) <| .k h3 <| .l) (by kernel_rfl)
end
def Pu (m:Nat) (x:Nat->Int):Nat->Nat
 | 0=>0
 | k+1=>bif ieq (x k) (ofNat (m-1)) then Pu m x k else k+1
theorem Aco (m:Nat) (x:Nat->Int):∀ k,Pu m x k <= k
 | 0=>Nat.le_refl _
 | k+1=>by
  unfold Pu;cases ieq (x k) (ofNat (m-1)) with
  | true=>exact Nat.le_succ_of_le (Aco m x k)
  | false=>exact Nat.le_refl _
noncomputable def B43:St->T (Ex×St):=λst=>A8 tab VZ Aom 0 st
section
variable (hL:wr .i64 (Ax (ofNat L) 1)=ofNat (L-1)) (hM:wr .i64 (Ax (ofNat m) 1)=ofNat (m-1)) (hl1:L-1<L) (h0:ilt 0 (ofNat L)=true)
include hL hM hl1 h0
theorem rdp (h1:ieq (x (L-1)) (ofNat (m-1))=true):Ap B43 lp43 (st43 a n m v L x)=some (.nm,st43 a n m v (L-1) x):=DW.rd (.r 11 h0 <| .k (cg1 (λzz0=>Av (ile 0 zz0) (ilt zz0 (ofNat L))) hL (Af hl1)) <| .k h0 <| .k (cg1 (λzz0=>nlt (toN zz0) L) hL (decide_eq_true hl1)) <| .r 8 h0 <| .k (cg2 (λzz0 zz2=>ieq (x (toN zz0)) zz2) hL hM h1) <| .k (cg1 (λzz0=>Av (ile 0 zz0) (ile zz0 (ofNat L))) hL (Ic (Nat.sub_le L 1))) <| .e (nm1 (f:=λk=>stG a n m v k (λi=>iV (x i)) false) (cg1 (λz=>toN z) hL rfl))) (by kernel_rfl)
theorem rds (h1:ieq (x (L-1)) (ofNat (m-1))=false):Ap B43 lp43 (st43 a n m v L x)=some (.ex 0,st43 a n m v L x):=DW.rd (.r 11 h0 <| .k (cg1 (λzz0=>Av (ile 0 zz0) (ilt zz0 (ofNat L))) hL (Af hl1)) <| .k h0 <| .k (cg1 (λzz0=>nlt (toN zz0) L) hL (decide_eq_true hl1)) <| .r 8 h0 <| .k (cg2 (λzz0 zz2=>ieq (x (toN zz0)) zz2) hL hM h1) <| .l) (by kernel_rfl)
end
theorem rdz (h0:ilt 0 (ofNat L)=false):Ap B43 lp43 (st43 a n m v L x)=some (.ex 0,st43 a n m v L x):=DW.rd (.r 20 h0 <| .k eF <| .l) (by kernel_rfl)
theorem r43 (hM:wr .i64 (Ax (ofNat m) 1)=ofNat (m-1)):∀ (L k:Nat),L <= 4611686018427387904->L<k->(Ay B43 lp43 k (st43 a n m v L x)).sem=some (.ex 0,st43 a n m v (Pu m x L) x)
 | 0,k,hn,hk=>by
  obtain ⟨k,rfl⟩:∃ o,k=o+1:=⟨k-1,by omega⟩;exact Ae (rdz rfl)
 | L+1,k,hn,hk=>by
  obtain ⟨k,rfl⟩:∃ o,k=o+1:=⟨k-1,by omega⟩;have hL:=HS (Nat.succ_pos L) hn;have h0:ilt 0 (ofNat (L+1))=true:=decide_eq_true (by show (0:Int)<((L+1:Nat):Int); omega);unfold Pu;cases h1:ieq (x L) (ofNat (m-1)) with
  | true =>rw [Ae (rdp hL hM (Nat.lt_succ_self L) h0 h1)];exact r43 hM L k (by omega) (by omega)
  | false=>exact Ae (rds hL hM (Nat.lt_succ_self L) h0 h1)
section
variable (hM:wr .i64 (Ax (ofNat m) 1)=ofNat (m-1)) (hn:L <= 4611686018427387904) {q:Nat} (hp:Pu m x L=q)
include hM hn hp
theorem Agy (h1:ieq (ofNat q) 0=true):(C43 (Fq s2 0) (st43 a n m v L x)).sem=some (.rt,st43 a n m v q x):=by
 have hr:=r43 (a:=a) (n:=n) (v:=v) (x:=x) hM L 4611686018427387905 hn (by omega);rw [hp] at hr;exact DW.ok (.a hr <| .k h1 <| .l) (by kernel_rfl)
theorem Agz (h1:ieq (ofNat q) 0=false):(J43 (Fq s2 0) (st43 a n m v L x)).sem=some (.nm,st43 a n m v q (SR x (q-1) (wr .i64 (Am (x (q-1)) 1)))):=by
 have hr:=r43 (a:=a) (n:=n) (v:=v) (x:=x) hM L 4611686018427387905 hn (by omega);rw [hp] at hr;have h0:0<q:=Nat.pos_of_ne_zero λh=>by rw [h] at h1; cases h1
 have hq1:q-1<q:=by omega
 have hq:=HS h0 (by have:=Aco m x L; omega);exact DW.ok (.a hr <| .k h1 <| .k (cg1 (λzz0=>Av (ile 0 zz0) (ilt zz0 (ofNat q))) hq (Af hq1)) <| .k (cg1 (λzz0=>nlt (toN zz0) q) hq (decide_eq_true hq1)) <| .k (cg1 (λzz0=>Av (ile 0 zz0) (ilt zz0 (ofNat q))) hq (Af hq1)) <| .k (cg1 (λzz0=>nlt (toN zz0) q) hq (decide_eq_true hq1)) <| .e (congrArg (λg=>(Ex.nm,stG a n m v q g false)) (cg1 (λz=>BJ (λi=>iV (x i)) (toN z) (iV (wr .i64 (Am (x (toN z)) 1)))) hq (Ain x (q-1) _)))) (by kernel_rfl)
end
def stB (a n:Int) (m:Nat) (v:Nat->E6) (L:Nat) (x:Nat->Int):St:=⟨jsV 128 0 (λ_=>A7) [(0,.ptr 0 0),(2,bV false)],(st43 a n m v L x).h⟩
theorem AmP (h1:ieq (ofNat m) 0=true):(C43 (Fq L9 1) (stB a n m v L x)).sem=some (.rt,st43 a n m v L x):=DW.ok (.k h1 <| .l) (by kernel_rfl)
theorem AmQ (ha:CJ L 1 8=true) (h1:ieq (ofNat m) 0=false) (h2:ieq (ofNat L) 0=true):(C43 (Fq L9 1) (stB a n m v L x)).sem=some (.ex 100,st43 a n m v (L+1) (Ky L x 0)):=DW.ok (.k h1 <| .k h2 <| .k ha <| .e (congrArg (λg=>(Ex.ex 100,stG a n m v (L+1) g false)) (UU L x 0))) (by kernel_rfl)
theorem AmR (h1:ieq (ofNat m) 0=false) (h2:ieq (ofNat L) 0=false):(J43 (Fq L9 1) (stB a n m v L x)).sem=some (.nm,st43 a n m v L x):=DW.ok (.k h1 <| .k h2 <| .l) (by kernel_rfl)
theorem Aj2:findLabel L9 1=some s1:=by kernel_rfl
theorem Aay:findLabel s1 2=some s2:=by kernel_rfl
theorem Am1:findLabel s2 0=some s0:=by kernel_rfl
end
end Go.Proofs.YtkbgidbledjejaaGreat.En
namespace Go.Proofs.YtkbgidbledjejaaGreat.En
open Go.Sy Go Go.Proofs.YtkbgidbledjejaaGreat.Ed
open Int (ofNat)
theorem G5 {n:Nat} {h g:Nat->Int} (e:∀ i,i<n->g i=h i):∀ q i t s,E3 n g q i t s=E3 n h q i t s
 | 0,_,_,_=>rfl
 | q+1,i,t,s=>by
  unfold E3;by_cases hc:n <= i ∨ n <= t ∨ n <= s
  ·rw [if_pos hc,if_pos hc]
  ·have hn:0<n:=by omega
   rw [if_neg hc,if_neg hc,e _ (Nat.mod_lt _ hn),e _ (Nat.mod_lt _ hn),G5 e,G5 e,G5 e]
theorem QD {n:Nat} {f g:Nat->E6} (e:∀ i,i<n->g i=f i) {i:Nat} (hi:i<n):Mx n g i=Mx n f i:=by
 unfold Mx;rw [show D9 n (λi=>Aj (g i))=D9 n (λi=>Aj (f i)) from G5 (λi hi=>congrArg Aj (e i hi)) _ _ _ _];exact e _ (Nat.mod_lt _ (by omega))
theorem Nn {a:Int} {n:Nat} {f g:Nat->E6} (e:∀ i,i<n->g i=f i):isB a n g=isB a n f:=by
 unfold isB;rw [XP e];have hm:Bv n g=Bv n f:=by
  rw [Bool.eq_iff_iff,Bh,Bh];exact ⟨λh i hi=>by rw [<- e i hi]; exact h i hi,λh i hi=>by rw [e i hi]; exact h i hi⟩
 have hs:Gx n (Mx n g) n g=Gx n (Mx n f) n f:=by
  rw [Bool.eq_iff_iff,GN,GN];exact ⟨λh=>⟨rfl,λi hi=>by rw [<- QD e hi,h.2 i hi,e i hi]⟩,λh=>⟨rfl,λi hi=>by rw [QD e hi,h.2 i hi,e i hi]⟩⟩
 rw [hm,hs]
theorem XM {n:Nat} {x y x' y':Nat->Int} (h:∀ i,i<n->x i=x' i) (g:∀ i,i<n->y i=y' i):cmpI n x y=cmpI n x' y':=by
 have e:Az (sgQ x y) n 0=Az (sgQ x' y') n 0:=Ev n 0 λk _ hk=>by show AI (ieq (sgI (x k) (y k)) 0)=AI (ieq (sgI (x' k) (y' k)) 0); rw [h k (by omega),g k (by omega)]
 unfold cmpI tO;rw [e];cases hq:Az (sgQ x' y') n 0 with
 | none=>rfl
 | some t =>have:=Gb hq;show sgI (x t) (y t)=sgI (x' t) (y' t);rw [h t (by omega),g t (by omega)]
theorem Xb {n:Int} {m:Nat} {v:Nat->E6} {L:Nat} {x y:Nat->Int} (hL:0<L) (h:∀ i,i<L->x i=y i):P3 n m v L x=P3 n m v L y:=by
 have e:Az (TN L x) (L-1) 1=Az (TN L y) (L-1) 1:=Ev (L-1) 1 λb h1 h2=>by
  unfold TN;rw [XM (x':=λi=>y (Cd b i)) (y':=y) (λi hi=>h _ (by have hi:i<L-b:=hi; show b+i<L; omega)) λi hi=>h i (by have hi:i<L-b:=hi; omega)]
 unfold P3 TO J7;rw [e,h 0 hL,h (L-1) (by omega)]
structure Rep (r:List Nat) (L:Nat) (x:Nat->Int):Prop where
 len:L=r.length
 at_:∀ i,i<L->x i=ofNat (wd r i)
structure Inv (m n:Nat) (r:List Nat):Prop where
 ne:r ≠ []
 lt:∀ e,e ∈ r->e<m
 le:r.length <= n
abbrev wdI (r:List Nat) (i:Nat):Int:=ofNat (wd r i)
def Fx (n:Int) (m:Nat) (v:Nat->E6) (r:List Nat):Bool:=P3 n m v r.length (wdI r)
def BP (a:Int) (v:Nat->E6) (r:List Nat):Bool:=isB a r.length (wE v r)
section
variable {a n:Int} {m N:Nat} {v:Nat->E6} {L:Nat} {x:Nat->Int} {r:List Nat}
theorem Inv.pos (h:Inv m N r):0<r.length:=List.length_pos_iff.2 h.ne
theorem Rep.sr (h:Rep r L x) (hi:Inv m N r) (hN:N <= 64) (hm:m <= 128):srG m L x=true:=by
 have h0:=hi.pos;have hl:=hi.le;have he:=h.len;unfold srG nlt C7;rw [decide_eq_true (show 0<L by omega),decide_eq_true (show L <= 4611686018427387904 by omega),decide_eq_true (show m <= 4611686018427387904 by omega)];exact BR.2 λi hi'=>by
  rw [h.at_ i hi'];exact Af (hi.lt _ (KB (by omega)))
theorem Rep.opn (h:Rep r L x) (hi:Inv m N r):P3 n m v L x=Fx n m v r:=by
 have h0:=hi.pos;unfold Fx;rw [<- h.len];exact Xb (by have:=h.len; omega) h.at_
theorem Rep.good (h:Rep r L x):isB a L (λi=>v (toN (x i)))=BP a v r:=by
 unfold BP;rw [<- h.len];exact Nn λi hi=>by rw [h.at_ i hi]; rfl
theorem Amq (a b:Nat):ile (ofNat a) (ofNat b)=Nat.ble a b:=by
 rw [Bool.eq_iff_iff,Nat.ble_eq];simp only [ile,decide_eq_true_eq,Int.ofNat_eq_natCast];omega
theorem Rep.fit (h:Rep r L x) (hi:Inv m N r):Qo v L x=Dh v r:=by
 match r,hi.ne with
 | [e],_ =>have:=h.len;obtain rfl:L=1:=this;rfl
 | e::y::t,_ =>
  obtain rfl:L=t.length+2:=h.len;unfold Qo;rw [h.at_ _ (by omega),h.at_ _ (by omega),h.at_ 0 (by omega),Z0 (by simp),show t.length+2-1=(y::t).length from rfl,Gz,show t.length+2-2=t.length from rfl,show wd (e::y::t) t.length=y by
   rw [show e::y::t=[e]++y::t from rfl,Iv (by simp)];exact Gz,Amq]
  show sel (ieq (v y).dst (v e).src) _ false=(ieq (v y).dst (v e).src && _);cases ieq (v y).dst (v e).src <;> rfl
theorem Oo {y e i:Nat} (h:i<r.length):wd (e::r) i=wd r i:=Iv (x:=[e]) h
theorem Rep.push (h:Rep r L x) {e:Nat}:Rep (e::r) (L+1) (Ky L x (ofNat e)) where
 len:=by rw [h.len]; rfl
 at_ i hi:=by
  unfold Ky;by_cases hq:i=L
  ·subst hq
   rw [Nat.beq_refl,h.len,Gz];rfl
  ·rw [Hg hq,Oo (y:=0) (by have:=h.len; omega)]
   exact h.at_ i (by omega)
theorem MW (hm:0<m):∀ {r:List Nat} {L:Nat},Rep r L x->(∀ e,e ∈ r->e<m)->(Pu m x L=0∧E5 m r=none) ∨ ∃ y t,E5 m r=some ((y+1)::t)∧Pu m x L=t.length+1∧x t.length=ofNat y∧(∀ i,i<t.length->x i=ofNat (wd t i))∧y+1<m∧(∀ e,e ∈ t->e<m)∧t.length<r.length
 | [],L,h,_=>.inl ⟨by rw [h.len]; rfl,rfl⟩
 | y::t,L,h,hl=>by
  obtain rfl:L=t.length+1:=h.len;have hy:x t.length=ofNat y:=by rw [h.at_ _ (by omega),Gz]
  have ht:∀ i,i<t.length->x i=ofNat (wd t i):=λi hi=>by rw [h.at_ i (by omega),Oo (y:=0) hi]
  unfold Pu;rw [hy,FO];by_cases e:y+1=m
  ·rw [decide_eq_true (show y=m-1 by omega),QL e]
   rcases MW hm (r:=t) (L:=t.length) ⟨rfl,ht⟩ (λe he=>hl e (List.mem_cons_of_mem _ he)) with h1 | ⟨y',t',q1,q2,q3,q4,q5,q6,q7⟩
   ·exact .inl h1
   ·exact .inr ⟨y',t',q1,q2,q3,q4,q5,q6,by simp; omega⟩
  ·have:=hl y (List.mem_cons_self ..)
   rw [decide_eq_false (show ¬ y=m-1 by omega),QK (by omega)];exact .inr ⟨y,t,rfl,rfl,hy,ht,by omega,λe he=>hl e (List.mem_cons_of_mem _ he),by simp⟩
end
noncomputable abbrev run43 (M:Nat):Ex×St->T (Ex×St):=Ti tab VZ 100 L9 Ol 4 M
noncomputable def Lk (M:Nat) (st:St):Option (Ex×St):=((J43 s0 st).bind (run43 M)).sem
section
variable {a n:Int} {m N:Nat} {v:Nat->E6} {L:Nat} {x:Nat->Int} {r:List Nat}
theorem K8 {c:Code} {st s:St} {e:Ex} (h:(C43 c st).sem=some (e,s)):∃ p,(J43 c st).sem=some (e,p)∧EC Ol 4 p=s:=by
 obtain ⟨⟨e',p⟩,h1,h2⟩:=Ad h;have:=Aa h2;simp only [Prod.mk.injEq] at this;obtain ⟨rfl,rfl⟩:=this;exact ⟨p,h1,rfl⟩
theorem Jq {M i:Nat} {p s:St} {z:Ex×St} (hp:EC Ol 4 p=s) (h:((J43 (L8 L9 i) s).bind (run43 M)).sem=some z):(run43 (M+1) (.ex (100+i),p)).sem=some z:=by
 subst hp;show (match Nat.ble 100 (100+i) with
  | true=>(Fp tab VZ 100 Ol 4 (L8 L9 (Nat.sub (100+i) 100)) 0 (EC Ol 4 p)).bind (Ti tab VZ 100 L9 Ol 4 M)
  | false=>.fail).sem=some z
 rw [show Nat.ble 100 (100+i)=true from Nat.ble_eq_true_of_le (Nat.le_add_right _ _),show Nat.sub (100+i) 100=i by simp];exact h
theorem Aeq (hM:wr .i64 (Ax (ofNat m) 1)=ofNat (m-1)) (hn:L <= 4611686018427387904) {q M:Nat} (hp:Pu m x L=q+1) {z:Ex×St} (h:Lk M (st43 a n m v (q+1) (SR x q (wr .i64 (Am (x q) 1))))=some z):((J43 s2 (st43 a n m v L x)).bind (run43 M)).sem=some z:=by
 obtain ⟨r',h1,h2⟩:=Ad h;exact Be (Bz Am1 (Agz (a:=a) (n:=n) (v:=v) hM hn hp rfl) h1) h2
theorem AaG (hM:wr .i64 (Ax (ofNat m) 1)=ofNat (m-1)) (hn:L <= 4611686018427387904) {M:Nat} (hp:Pu m x L=0):((J43 s2 (st43 a n m v L x)).bind (run43 (M+1))).sem=some (.rt,st43 a n m v 0 x):=by
 obtain ⟨p,h1,h2⟩:=K8 (Agy (a:=a) (n:=n) (v:=v) hM hn hp rfl);refine Be (Bz (r':=(.rt,p)) Am1 h1 rfl) ?_;rw [<- h2];rfl
theorem Ob {r':List Nat} (hR:Rep r L x) (hI:Inv m N r) (hN:N <= 64) (hm:m <= 128) (h:E5 m r=some r'):Inv m N r'∧∃ L' x',Rep r' L' x'∧∀ M z,Lk M (st43 a n m v L' x')=some z->((J43 s2 (st43 a n m v L x)).bind (run43 M)).sem=some z:=by
 have h0:=hI.pos;have hle:=hI.le;have hlen:=hR.len;have hm0:0<m:=Nat.lt_of_le_of_lt (Nat.zero_le _) (Gp hI.ne hI.lt);have hM:=HS hm0 (show m <= 4611686018427387904 by omega);have hL4:L <= 4611686018427387904:=by omega
 rcases MW (x:=x) hm0 hR hI.lt with ⟨_,h2⟩ | ⟨y,t,q1,q2,q3,q4,q5,q6,q7⟩
 ·rw [h2] at h; cases h
 ·rw [q1] at h
  cases h;refine ⟨⟨by simp,λe he=>?_,by simp; omega⟩,_,_,⟨rfl,λi hi=>?_⟩,λM z hz=>Aeq hM hL4 q2 hz⟩
  ·rcases List.mem_cons.1 he with rfl | he
   ·exact q5
   ·exact q6 e he
  ·have hi:i<t.length+1:=hi
   unfold SR;by_cases e:i=t.length
   ·subst e
    rw [Nat.beq_refl,Gz,q3,C2 (by omega)];rfl
   ·rw [Hg e,Oo (y:=0) (by omega)]
    exact q4 i (by omega)
theorem Oa (hR:Rep r L x) (hI:Inv m N r) (hm:m <= 128) (hL4:L <= 4611686018427387904) (h:E5 m r=none) {M:Nat}:((J43 s2 (st43 a n m v L x)).bind (run43 (M+1))).sem=some (.rt,st43 a n m v 0 x):=by
 have hm0:0<m:=Nat.lt_of_le_of_lt (Nat.zero_le _) (Gp hI.ne hI.lt);have hM:=HS hm0 (show m <= 4611686018427387904 by omega);rcases MW (x:=x) hm0 hR hI.lt with ⟨h1,_⟩ | ⟨y,t,q1,_⟩
 ·exact AaG hM hL4 h1
 ·rw [q1] at h; cases h
theorem RA {r':List Nat} (hR:Rep r L x) (hI:Inv m N r) (hN:N <= 64) (hm:m <= 128) (hop:∀ r,Fx n m v r=true->r.length<N) (hng:(Dh v r && BP a v r)=false) (hn:E2 m (Dh v) (Fx n m v) r=some r') :
  Inv m N r'∧∃ L' x',Rep r' L' x'∧∃ k,k <= 2∧∀ M z,Lk M (st43 a n m v L' x')=some z->Lk (M+k) (st43 a n m v L x)=some z:=by
 have hs:=hR.sr hI hN hm;have h0:=hI.pos;have hle:=hI.le;have hlen:=hR.len;have hm0:0<m:=Nat.lt_of_le_of_lt (Nat.zero_le _) (Gp hI.ne hI.lt);have hM:=HS hm0 (show m <= 4611686018427387904 by omega);have hL4:L <= 4611686018427387904:=by omega
 have hal:=λh=>Ob (a:=a) (n:=n) (v:=v) (r':=r') hR hI hN hm h;unfold E2 at hn;cases hf:Dh v r with
 | false =>rw [hf] at hn;obtain ⟨hi,L',x',hr,hz⟩:=hal hn;refine ⟨hi,L',x',hr,1,by omega,λM z h=>?_⟩;obtain ⟨p,h1,h2⟩:=K8 (AcU (a:=a) (n:=n) hs ((hR.fit hI).trans hf));exact Be h1 (Jq (i:=2) h2 (hz M z h))
 | true =>
  rw [hf] at hn hng;have hg:BP a v r=false:=hng;have hfn:BZ L=true:=decide_eq_true (by omega);have hk:G2 40 (ofNat L) (ofNat L)=true:=by
   simp only [G2,Bool.and_eq_true,decide_eq_true_eq,Int.ofNat_eq_natCast];omega
  obtain ⟨p,h1,h2⟩:=K8 (AcV (a:=a) (n:=n) hs hk hfn ((hR.fit hI).trans hf) (hR.good.trans hg));cases ho:Fx n m v r with
  | true =>
   rw [ho] at hn;cases hn;have hx0:x 0=ofNat (Ci r):=by rw [hR.at_ 0 (by omega),Z0 hI.ne]
   refine ⟨⟨by simp,λe he=>?_,by have:=hop r ho; simp; omega⟩,L+1,Ky L x (ofNat (Ci r)),hR.push,2,by omega,λM z h=>?_⟩
   ·rcases List.mem_cons.1 he with rfl | he
    ·exact Gp hI.ne hI.lt
    ·exact hI.lt e he
   ·rw [<- hx0] at h
    obtain ⟨p',h3,h4⟩:=K8 (AdJ (a:=a) (n:=n) (by omega) hs (decide_eq_true (by omega)) ((hR.opn hI).trans ho));exact Be h1 (Jq (M:=M+1) (i:=1) h2 (Be (Bz (r':=(.ex 100,p')) Aay h3 rfl) (Jq (i:=0) h4 h)))
  | false =>rw [ho] at hn;obtain ⟨hi,L',x',hr,hz⟩:=hal hn;refine ⟨hi,L',x',hr,1,by omega,λM z h=>?_⟩;have h5:=hz M z h;obtain ⟨q,h6,h7⟩:=Ad h5;exact Be h1 (Jq (i:=1) h2 (Be (Bz Aay (Ue (a:=a) (n:=n) hs ((hR.opn hI).trans ho)) h6) h7))
theorem ZB (hR:Rep r L x) (hI:Inv m N r) (hN:N <= 64) (hm:m <= 128) (hng:(Dh v r && BP a v r)=false) (hn:E2 m (Dh v) (Fx n m v) r=none) (M:Nat) :
  Lk (M+2) (st43 a n m v L x)=some (.rt,st43 a n m v 0 x):=by
 have hs:=hR.sr hI hN hm;have h0:=hI.pos;have hle:=hI.le;have hlen:=hR.len;have hm0:0<m:=Nat.lt_of_le_of_lt (Nat.zero_le _) (Gp hI.ne hI.lt);have hM:=HS hm0 (show m <= 4611686018427387904 by omega);have hL4:L <= 4611686018427387904:=by omega
 have hal:=λh=>Oa (M:=M) (a:=a) (n:=n) (v:=v) hR hI hm (by omega) h;unfold E2 at hn;cases hf:Dh v r with
 | false =>rw [hf] at hn;obtain ⟨p,h1,h2⟩:=K8 (AcU (a:=a) (n:=n) hs ((hR.fit hI).trans hf));exact Be h1 (Jq (i:=2) h2 (hal hn))
 | true =>
  rw [hf] at hn hng;have hg:BP a v r=false:=hng;have hfn:BZ L=true:=decide_eq_true (by omega);have hk:G2 40 (ofNat L) (ofNat L)=true:=by
   simp only [G2,Bool.and_eq_true,decide_eq_true_eq,Int.ofNat_eq_natCast];omega
  obtain ⟨p,h1,h2⟩:=K8 (AcV (a:=a) (n:=n) hs hk hfn ((hR.fit hI).trans hf) (hR.good.trans hg));cases ho:Fx n m v r with
  | true=>rw [ho] at hn; cases hn
  | false =>rw [ho] at hn;obtain ⟨q,h6,h7⟩:=Ad (hal hn);exact Be h1 (Jq (i:=1) h2 (Be (Bz Aay (Ue (a:=a) (n:=n) hs ((hR.opn hI).trans ho)) h6) h7))
theorem ZC (hR:Rep r L x) (hI:Inv m N r) (hN:N <= 64) (hm:m <= 128) (hg:(Dh v r && BP a v r)=true) (M:Nat):Lk (M+1) (st43 a n m v L x)=some (.rt,stG a n m v L (λi=>iV (x i)) true):=by
 have hs:=hR.sr hI hN hm;have hle:=hI.le;have hlen:=hR.len;rw [Bool.and_eq_true] at hg;have hfn:BZ L=true:=decide_eq_true (by omega);have hk:G2 40 (ofNat L) (ofNat L)=true:=by
  simp only [G2,Bool.and_eq_true,decide_eq_true_eq,Int.ofNat_eq_natCast];omega
 obtain ⟨p,h1,h2⟩:=K8 (Ajh (a:=a) (n:=n) hs hk hfn ((hR.fit hI).trans hg.1) (hR.good.trans hg.2));refine Be h1 ?_;rw [<- h2];rfl
theorem TR {o:Option (List Nat)} {d:List Nat} {l2:List (List Nat)} (hN:N <= 64) (hm:m <= 128) (hop:∀ r,Fx n m v r=true->r.length<N) (hd:(Dh v d && BP a v d)=true):∀ (l1:List (List Nat)) {r:List Nat} {L:Nat} {x:Nat->Int} {M:Nat},GoL m (Dh v) (Fx n m v) r (l1++d::l2) o->l1.filter (λd=>Dh v d && BP a v d)=[]->Rep r L x->Inv m N r->2 * l1.length<M->Inv m N d∧∃ L' x',Rep d L' x'∧Lk M (st43 a n m v L x)=some (.rt,stG a n m v L' (λi=>iV (x' i)) true)
 | [],r,L,x,M,h,_,hR,hI,hM=>by
  obtain ⟨t,ht⟩:=h.head;injection ht with h1 h2
  subst h1;obtain ⟨M,rfl⟩:∃ q,M=q+1:=⟨M-1,by omega⟩;exact ⟨hI,L,x,hR,ZC hR hI hN hm hd M⟩
 | c::l1,r,L,x,M,h,hf,hR,hI,hM=>by
  obtain ⟨t,ht⟩:=h.head;injection ht with h1 h2
  subst h1;have hg:(Dh v c && BP a v c)=false:=by
   cases hc:Dh v c && BP a v c with
   | false=>rfl
   | true=>rw [List.filter_cons_of_pos (p:=λd=>Dh v d && BP a v d) hc] at hf; cases hf
  rw [List.filter_cons_of_neg (p:=λd=>Dh v d && BP a v d) (by rw [hg]; decide)] at hf;rcases h.tail with ⟨h,_⟩ | ⟨r',hn,h⟩
  ·exact absurd h (by simp)
  ·obtain ⟨hi,L',x',hr,k,hk,hz⟩:=RA hR hI hN hm hop hg hn
   have hl:(c::l1).length=l1.length+1:=rfl;obtain ⟨M',rfl⟩:∃ q,M=q+k:=⟨M-k,by omega⟩;obtain ⟨q0,L2,x2,q1,q2⟩:=TR hN hm hop hd l1 (M:=M') h hf hr hi (by omega);exact ⟨q0,L2,x2,q1,hz M' _ q2⟩
theorem TP (hN:N <= 64) (hm:m <= 128) (hop:∀ r,Fx n m v r=true->r.length<N):∀ (l:List (List Nat)) {r:List Nat} {L:Nat} {x:Nat->Int} {M:Nat},GoL m (Dh v) (Fx n m v) r l none->l.filter (λd=>Dh v d && BP a v d)=[]->Rep r L x->Inv m N r->2 * l.length<M->∃ x',Lk M (st43 a n m v L x)=some (.rt,st43 a n m v 0 x')
 | [],r,L,x,M,h,_,hR,hI,hM=>by
  obtain ⟨t,ht⟩:=h.head;cases ht
 | c::l,r,L,x,M,h,hf,hR,hI,hM=>by
  obtain ⟨t,ht⟩:=h.head;injection ht with h1 h2
  subst h1;have hg:(Dh v c && BP a v c)=false:=by
   cases hc:Dh v c && BP a v c with
   | false=>rfl
   | true=>rw [List.filter_cons_of_pos (p:=λd=>Dh v d && BP a v d) hc] at hf; cases hf
  rw [List.filter_cons_of_neg (p:=λd=>Dh v d && BP a v d) (by rw [hg]; decide)] at hf;have hl:(c::l).length=l.length+1:=rfl;rcases h.tail with ⟨_,hn⟩ | ⟨r',hn,h⟩
  ·obtain ⟨M,rfl⟩:∃ q,M=q+2:=⟨M-2,by omega⟩
   exact ⟨x,ZB hR hI hN hm hg hn M⟩
  ·obtain ⟨hi,L',x',hr,k,hk,hz⟩:=RA hR hI hN hm hop hg hn
   obtain ⟨M',rfl⟩:∃ q,M=q+k:=⟨M-k,by omega⟩;obtain ⟨x2,q2⟩:=TP hN hm hop l (M:=M') h hf hr hi (by omega);exact ⟨x2,hz M' _ q2⟩
end
end Go.Proofs.YtkbgidbledjejaaGreat.En
namespace Go.Sy
def QI (E:List V->List Blk->A3) (vs:List V) (h:List Blk):A3 :=
 .ask ((E vs h).sem.map λr=>(Ex.rt,(⟨[r.1],r.2⟩:St))) λr=>match r.2.t with
  | [v]=>.leaf (v,r.2.h)
  | _=>.fail
theorem Aem {E:List V->List Blk->A3} {vs:List V} {h:List Blk} {r:V×List Blk} (he:(QI E vs h).sem=some r):(E vs h).sem=some r:=by
 unfold QI at he;cases hq:(E vs h).sem with
 | none=>rw [hq] at he; cases he
 | some q =>rw [hq] at he;exact he
theorem EG.ask {P:Program} {G:Nat->V} {f:FuncId} {E:List V->List Blk->A3} (h:EG P G f E):EG P G f (QI E):=h.congr λ_ _ _ hr=>Aem hr
end Go.Sy
namespace Go.Proofs.YtkbgidbledjejaaGreat.En
open Go.Sy Go Go.Proofs.YtkbgidbledjejaaGreat.Ed
def F43:Nat:=10000000000000000000000000000000000000000000000000000
noncomputable def E43:List V->List Blk->A3:=Qv tab VZ 100 Ol 4 F43 Tryz.f43
theorem p43:EG Tryz.prog Gl 43 (QI E43):=by
 have hx:=AZ tb43_ok [(0,lp43,[])] (G:=Gl);exact (Aaz (P:=Tryz.prog) A0 (Γ:=VZ) mixed hx.1 hx.2 Tryz.func43 (by kernel_rfl) (by kernel_rfl)).ask
noncomputable def AlH:Code:=match Tryz.f43.body with
 | some (.seq p (.scope _))=>p
 | _=>.skip
theorem body43:Tryz.f43.body=some (.seq AlH (.scope L9)):=by kernel_rfl
section
variable {a n:Int} {m N:Nat} {v:Nat->E6} {L:Nat} {x:Nat->Int} {r:List Nat}
abbrev HI (a n:Int) (m:Nat) (v:Nat->E6) (L:Nat) (x:Nat->Int):List Blk:=(st43 a n m v L x).h
theorem Afz:(A8 tab VZ AlH 0 ⟨[.ptr 0 0]++F6 (Nat.sub Tryz.f43.ntmps 1),HI a n m v L x⟩).sem=some (.nm,stB a n m v L x):=by kernel_rfl
theorem Ad4 {p:Ex×St} {L':Nat} {x':Nat->Int} {b:Bool} (h1:(J43 L9 (stB a n m v L x)).sem=some p) (h2:(run43 F43 p).sem=some (.rt,stG a n m v L' (λi=>iV (x' i)) b)):(E43 [.ptr 0 0] (HI a n m v L x)).sem=some (bV b,HI a n m v L' x'):=X0 (st:=stG a n m v L' (λi=>iV (x' i)) b) body43 Afz h1 h2 (by kernel_rfl)
theorem Ac8 {k:Nat} (h:0<k):ieq (Int.ofNat k) 0=false:=by
 cases hq:ieq (Int.ofNat k) 0 with
 | false=>rfl
 | true =>have h2:(k:Int)=0:=Cu hq;omega
theorem fuel:F43=(F43-1)+1:=by unfold F43; rfl
theorem Xf:(E43 [.ptr 0 0] (HI a n 0 v L x)).sem=some (bV false,HI a n 0 v L x):=by
 obtain ⟨p,h1,h2⟩:=K8 (AmP (a:=a) (n:=n) (m:=0) (v:=v) (L:=L) (x:=x) rfl);exact Ad4 (Bz (r':=(.rt,p)) Aj2 h1 rfl) (by rw [show stG a n 0 v L (λi=>iV (x i)) false=EC Ol 4 p from h2.symm,fuel]; rfl)
theorem SC (hm:0<m) {L':Nat} {x':Nat->Int} {b:Bool} (h:Lk (F43-1) (st43 a n m v 1 (Ky 0 x 0))=some (.rt,stG a n m v L' (λi=>iV (x' i)) b)):(E43 [.ptr 0 0] (HI a n m v 0 x)).sem=some (bV b,HI a n m v L' x'):=by
 obtain ⟨p,h1,h2⟩:=K8 (AmQ (a:=a) (n:=n) (m:=m) (v:=v) (L:=0) (x:=x) rfl (Ac8 hm) rfl);refine Ad4 (Bz (r':=(.ex 100,p)) Aj2 h1 rfl) ?_;rw [fuel];exact Jq (i:=0) h2 h
theorem XW (hm:0<m) (hL:0<L) {p:Ex×St} {L':Nat} {x':Nat->Int} {b:Bool} (h1:(J43 s1 (st43 a n m v L x)).sem=some p) (h2:(run43 F43 p).sem=some (.rt,stG a n m v L' (λi=>iV (x' i)) b)):(E43 [.ptr 0 0] (HI a n m v L x)).sem=some (bV b,HI a n m v L' x') :=
 Ad4 (Bz Aj2 (AmR (Ac8 hm) (Ac8 hL)) h1) h2
theorem Af4 {r':List Nat} (hR:Rep r L x) (hI:Inv m N r) (hN:N <= 64) (hm:m <= 128) (hop:∀ r,Fx n m v r=true->r.length<N) (hf:Dh v r=true) (hn:E2 m (Dh v) (Fx n m v) r=some r') :
  Inv m N r'∧∃ L' x',Rep r' L' x'∧∃ M,F43-1 <= M∧∀ L2 x2 b,Lk M (st43 a n m v L' x')=some (.rt,stG a n m v L2 (λi=>iV (x2 i)) b)->(E43 [.ptr 0 0] (HI a n m v L x)).sem=some (bV b,HI a n m v L2 x2):=by
 have hs:=hR.sr hI hN hm;have h0:=hI.pos;have hle:=hI.le;have hlen:=hR.len;have hm0:0<m:=Nat.lt_of_le_of_lt (Nat.zero_le _) (Gp hI.ne hI.lt);unfold E2 at hn;rw [hf] at hn;cases ho:Fx n m v r with
 | true =>
  rw [ho] at hn;cases hn;have hx0:x 0=Int.ofNat (Ci r):=by rw [hR.at_ 0 (by omega),Z0 hI.ne]
  refine ⟨⟨by simp,λe he=>?_,by have:=hop r ho; simp; omega⟩,L+1,Ky L x (Int.ofNat (Ci r)),hR.push,F43-1,Nat.le_refl _,λL2 x2 b h=>?_⟩
  ·rcases List.mem_cons.1 he with rfl | he
   ·exact Gp hI.ne hI.lt
   ·exact hI.lt e he
  ·rw [<- hx0] at h
   obtain ⟨p',h3,h4⟩:=K8 (AdJ (a:=a) (n:=n) (by omega) hs (decide_eq_true (by omega)) ((hR.opn hI).trans ho));exact XW hm0 (by omega) (Bz (r':=(.ex 100,p')) Aay h3 rfl) (by rw [fuel]; exact Jq (i:=0) h4 h)
 | false =>rw [ho] at hn;obtain ⟨hi,L',x',hr,hz⟩:=Ob hR hI hN hm hn;refine ⟨hi,L',x',hr,F43,Nat.sub_le _ _,λL2 x2 b h=>?_⟩;obtain ⟨q,h6,h7⟩:=Ad (hz F43 _ h);exact XW hm0 (by omega) (Bz Aay (Ue (a:=a) (n:=n) hs ((hR.opn hI).trans ho)) h6) h7
theorem Af3 (hR:Rep r L x) (hI:Inv m N r) (hN:N <= 64) (hm:m <= 128) (hf:Dh v r=true) (hn:E2 m (Dh v) (Fx n m v) r=none):(E43 [.ptr 0 0] (HI a n m v L x)).sem=some (bV false,HI a n m v 0 x):=by
 have hs:=hR.sr hI hN hm;have h0:=hI.pos;have hle:=hI.le;have hlen:=hR.len;have hm0:0<m:=Nat.lt_of_le_of_lt (Nat.zero_le _) (Gp hI.ne hI.lt);unfold E2 at hn;rw [hf] at hn;cases ho:Fx n m v r with
 | true=>rw [ho] at hn; cases hn
 | false =>rw [ho] at hn;obtain ⟨q,h6,h7⟩:=Ad (Oa (M:=F43-1) (a:=a) (n:=n) (v:=v) hR hI hm (by omega) hn);exact XW hm0 (by omega) (Bz Aay (Ue (a:=a) (n:=n) hs ((hR.opn hI).trans ho)) h6) h7
end
end Go.Proofs.YtkbgidbledjejaaGreat.En
