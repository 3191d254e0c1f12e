/-
  Layer 12: the document's registers of a thread (met, address, regs, label). No conditions.
-/
import Derived.Test.YtkbafjceglhjhaaGreatDoorSyZa
import Derived.Test.YtkbafjceglhjhaaGreatDoorErD
namespace Go.Proofs.YtkbafjceglhjhaaGreatDoor.Er
open Go.Sy Go Go.Proofs.YtkbafjceglhjhaaGreatDoor.Ed Go.Proofs.YtkbafjceglhjhaaGreatDoor.Sh
open Int (ofNat)
set_option maxRecDepth 100000
set_option maxHeartbeats 1000000
def TB:List V->Option (List Int)
 | []=>some []
 | .val (.int .i64 x)::l=>match TB l with
  | some r=>some (x::r)
  | none=>none
 | _=>none
theorem TA:∀ {vs:List V} {l:List Int},TB vs=some l->vs=l.map iV
 | [],l,h=>by
  simp only [TB,Option.some.injEq] at h;subst h;rfl
 | v::vs,l,h=>by
  unfold TB at h;split at h
  ·rename_i e
   cases e
  ·rename_i x l' hv
   cases hv;split at h
   ·rename_i r hr
    simp only [Option.some.injEq] at h;subst h;rw [TA hr];rfl
   ·cases h
  ·cases h
def shI (C:Sh7->List Int->A3):List V->A3
 | v::is=>match TB is with
  | some l=>apS v λs=>C s l
  | none=>.fail
 | _=>.fail
theorem AaA {k:FuncId} {fn:Func} (hf:Tryz.prog.funcs[k]? = some fn) (hb:fn.body.isSome=true) (hn:(fn.name == "runtime.NumGoroutine")=false) {Γ:Sh7->List Int->Cx} (hG:∀ s l,(Γ s l).glob=Gl) (hc:∀ s l,Bj Tryz.prog (Γ s l).base∧Ca (Γ s l))
  {C:Sh7->List Int->A3} (h:∀ s l v h',(C s l).sem=some (v,h')->∃ h'',(A0 (Ai tab (Γ s l) fn (EY s::l.map iV) [])).sem=some (v,h'')∧Ap h'' h'):An Tryz.prog Gl k (shI C):=by
 refine Al A2 mixed hf hb hn λvs v h' hv=>?_;unfold shI at hv;split at hv
 ·split at hv
  ·rename_i l hl
   obtain rfl:=TA hl;obtain ⟨s,a1,hv⟩:=apS_some hv;obtain ⟨h'',h1,h2⟩:=h s l v h' hv;exact ⟨EY s::l.map iV,Γ s l,h'',λS w cs hq=>by
    obtain ⟨c,r,rfl,q1,q2⟩:=hq;exact ⟨c,_,rfl,a1 S w c q1,q2⟩,hG s l,(hc s l).1,(hc s l).2,h1,h2⟩
  ·cases hv
 ·cases hv
def IP (p:Nat->Bool):Nat->Bool
 | 0=>false
 | k+1=>IP p k || p k
theorem Ak2 {p:Nat->Bool} {k:Nat} (h:IP p k=true):true=IP p (k+1):=by rw [IP,h]; rfl
theorem Ak3 {p:Nat->Bool} {k:Nat} (h:IP p k=false):p k=IP p (k+1):=by rw [IP,h]; rfl
theorem Pl {p:Nat->Bool}:∀ {n:Nat},IP p n=true↔∃ k,k<n∧p k=true
 | 0=>⟨λh=>(by cases h),λ⟨k,hk,_⟩=>absurd hk (Nat.not_lt_zero _)⟩
 | n+1=>by
  rw [IP,Bool.or_eq_true,Pl (n:=n)];constructor
  ·intro h
   rcases h with ⟨k,h1,h2⟩ | h
   ·exact ⟨k,by omega,h2⟩
   ·exact ⟨n,by omega,h⟩
  ·intro ⟨k,h1,h2⟩
   by_cases e:k=n
   ·subst e; exact .inr h2
   ·exact .inl ⟨k,by omega,h2⟩
def cl7 (s:Sh7):Blk:=.cells [iV s.arch,.sl 6 s.ne (λi=>eV (s.E i)),.sl 5 s.nx (λi=>evV (s.X i)),iV s.tt,iV s.kk,.sl 1 s.nr (λi=>iV (s.R i)),.sl 1 s.nc (λu=>.sl 1 (s.C u).1 (λi=>iV ((s.C u).2 i)))]
theorem F3 (n:Nat):ilt (ofNat n) (ofNat n)=false:=Az (Nat.le_refl n)
theorem w16 {i n:Nat} (hi:i<n) (hn:n <= 1000):wr .i64 (Ah (ofNat i) 1)=ofNat (i+1):=Gp (by omega)
section
variable (s:Sh7) (t:Int)
def q40 (u k:Nat):Bool:=ieq (DO (locL s u (toN t)) k) (s.X u).loc
def Ah2 (u:Nat) (b:Bool) (c:Int):St:=⟨jsV 56 0 Ab [(1,iV t),(2,.ptr 0 0),(5,.ref 2),(6,nV u),(7,bV b),(8,iV c)],[cl7 s,.row 3 1 0 Ab,.row 3 1 (Bm (locL s u (toN t))) (Hp (locL s u (toN t)))]⟩
def AkH (u:Nat):Ex×St:=(.ex 2,⟨jsV 56 0 Ab [(1,iV t),(2,.ptr 0 0),(5,.ref 2),(6,nV u),(7,bV (IP (q40 s t u) (Bm (locL s u (toN t)))))],[cl7 s,.row 3 1 0 Ab,.row 3 1 (Bm (locL s u (toN t))) (Hp (locL s u (toN t)))]⟩)
def T40 (c:Int) (n:Nat) (g:Nat->V):St:=⟨jsV 56 0 Ab [(1,iV t),(2,.ptr 0 0),(5,.ref 2),(6,iV c)],[cl7 s,.row 3 1 0 Ab,.row 3 1 n g]⟩
def S40 (i:Nat):St:=T40 s t (ofNat i) (Bm (locL s i (toN t))) (Hp (locL s i (toN t)))
def x40:Ex×St:=(.ex 0,⟨jsV 56 0 Ab [(5,.ref 2)],[cl7 s,.row 3 1 0 Ab,.row 3 1 (Bm (locL s s.nx (toN t))) (Hp (locL s s.nx (toN t)))]⟩)
def AaV:List Int->A3
 | [t]=>.br (plB s) (.br (ile 0 t) (.leaf (.ref 0,[.row 3 1 (Bm (locL s s.nx (toN t))) (Hp (locL s s.nx (toN t)))])) .fail) .fail
 | _=>.fail
end
def lp40_2:Lp:=⟨bmK 56 0 [1,2,5,6,7,8],3,bmK 56 0 [1,2,5,6,7],3,4611686018427387905⟩
def lp40:Lp:=⟨bmK 56 0 [1,2,5,6],3,bmK 56 0 [5],3,4611686018427387905⟩
def AeM:List (Nat×Lp×List (Nat×(Nat->V))):=[(0,lp40,[(2,λ_=>iV 0)]),(2,lp40_2,[])]
noncomputable def B40 (id:Nat) (L:LT):St->T (Ex×St):=λst=>A8 tab ⟨Ax tb0,L,Gl⟩ (As Tryz.f40 id) id st
section
variable {s:Sh7} (hF:plB s=true) {t:Int} {i:Nat}
include hF
theorem Afq {u:Nat} (hu:u<s.nx):Bm (locL s u (toN t)) <= 1000:=by
 have:=ES (s:=s) (toN t) u;have:=(Br hF).1;omega
theorem Amj (L:LT) {u:Nat} (hu:u<s.nx):(Au (B40 2 L) lp40_2 4611686018427387905 (Ah2 s t u false 0)).sem=some (AkH s t u) :=
 B6 (S:=λi=>Ah2 s t u (IP (q40 s t u) i) (ofNat i)) (m:=Bm (locL s u (toN t))) (show (Ex.ex 2) ≠ .nm from nofun) (λi hi=>DW.rd (.k (ofNat_lt hi) <| .c (IP (q40 s t u) i) (λh1=>.r 12 h1 <| .e (nm2 (Ak2 h1) (w16 hi (Afq hF hu)))) λh1=>.r 3 h1 <| .k (Ae hi) <| .k h1 <| .k (decide_eq_true hi) <| .r 4 h1 <| .k (Ae hu) <| .r 4 h1 <| .e (nm2 (Ak3 h1) (w16 hi (Afq hF hu)))) (by kernel_rfl))
  (DW.rd (.k (F3 (Bm (locL s u (toN t)))) .l) (by kernel_rfl)) (by have:=Afq hF (t:=t) hu; omega)
theorem WA (hi:i<s.nx):IP (q40 s t i) (Bm (locL s i (toN t)))=AQ (ieq (F7 (Bm (locL s i (toN t))) (DO (locL s i (toN t))) (s.X i).loc) 0):=by
 have hl:=Afq hF (t:=t) hi;cases hb:IP (q40 s t i) (Bm (locL s i (toN t))) with
 | true =>obtain ⟨k,h1,h2⟩:=Pl.1 hb;obtain ⟨j,_,h4,_⟩:=AcZ hl ⟨k,h1,Cj h2⟩;rw [h4,Af9 (show ofNat (7+j)=((7+j:Nat):Int) from rfl) (by omega)];rfl
 | false =>
  cases ha:ieq (F7 (Bm (locL s i (toN t))) (DO (locL s i (toN t))) (s.X i).loc) 0 with
  | true=>rfl
  | false =>obtain ⟨k,h1,h2⟩:=UC hl ha;have:=Pl.2 ⟨k,h1,show q40 s t i k=true from by unfold q40; rw [h2]; exact eI _⟩;rw [hb] at this;cases this
theorem WB (ht:ile 0 t=true) (hi:i<s.nx):Nat.beq (toN t) (toN (s.X i).th)=ieq (s.X i).th t:=by
 have h1:=(Br hF).2.2.2 i hi;simp only [Aj,ile,ilt,Bool.and_eq_true,decide_eq_true_eq] at h1;have ht:0 <= t:=of_decide_eq_true ht;unfold toN ieq;by_cases e:(s.X i).th=t
 ·rw [e]; simp
 ·have:t.toNat ≠ (s.X i).th.toNat:=by omega
  have h2:Nat.beq t.toNat (s.X i).th.toNat=false:=by
   cases hb:Nat.beq t.toNat (s.X i).th.toNat with
   | false=>rfl
   | true=>exact absurd (Nat.eq_of_beq_eq_true hb) this
  rw [h2];simpa using e
theorem Aps (ht:ile 0 t=true) (hi:i<s.nx) (h1:ieq (s.X i).th t=true) (h2:IP (q40 s t i) (Bm (locL s i (toN t)))=false) :
  (Ex.nm,T40 s t (wr .i64 (Ah (ofNat i) 1)) (AD (Bm (locL s i (toN t))) 1) (AG (Bm (locL s i (toN t))) (Hp (locL s i (toN t))) (iV (s.X i).loc)))=(Ex.nm,S40 s t (i+1)):=by
 have e:locL s (i+1) (toN t)=locL s i (toN t)++[(s.X i).loc]:=by
  have:=WA hF (t:=t) hi;rw [h2] at this;have h3:ieq (F7 (Bm (locL s i (toN t))) (DO (locL s i (toN t))) (s.X i).loc) 0=true:=by
   revert this;cases ieq (F7 (Bm (locL s i (toN t))) (DO (locL s i (toN t))) (s.X i).loc) 0 <;> intro h <;> first | rfl | cases h
  rw [locL,WB hF ht hi,h1,h3];rfl
 unfold S40;exact nm3 (Ms hF hi) (by rw [e]; unfold Bm; simp [AD]) (by rw [e]; exact Qp _ _)
theorem Al3 (ht:ile 0 t=true) (hi:i<s.nx) (h:ieq (s.X i).th t=false ∨ IP (q40 s t i) (Bm (locL s i (toN t)))=true) :
  (Ex.nm,T40 s t (wr .i64 (Ah (ofNat i) 1)) (Bm (locL s i (toN t))) (Hp (locL s i (toN t))))=(Ex.nm,S40 s t (i+1)):=by
 have e:locL s (i+1) (toN t)=locL s i (toN t):=by
  rw [locL,WB hF ht hi];rcases h with h | h
  ·rw [h]; rfl
  ·have:=WA hF (t:=t) hi
   rw [h] at this;have h3:ieq (F7 (Bm (locL s i (toN t))) (DO (locL s i (toN t))) (s.X i).loc) 0=false:=by
    revert this;cases ieq (F7 (Bm (locL s i (toN t))) (DO (locL s i (toN t))) (s.X i).loc) 0 <;> intro h <;> first | rfl | cases h
   rw [h3,Bool.and_false];rfl
 unfold S40;exact nm3 (Ms hF hi) (by rw [e]) (by rw [e])
theorem r40 (ht:ile 0 t=true):(Au (B40 0 (Go.Sy.askL AeM)) lp40 4611686018427387905 (S40 s t 0)).sem=some (x40 s t) :=
 B6 (S:=S40 s t) (m:=s.nx) (show (Ex.ex 0) ≠ .nm from nofun) (λi hi=>DW.rd (.k (ofNat_lt hi) <| .k (Ae hi) <| .c (ieq (s.X i).th t) (λh1=>.k (eN h1) <| .a (Amj (t:=t) hF (Go.Sy.askL AeM) hi) <| .c (IP (q40 s t i) (Bm (locL s i (toN t)))) (λh2=>.k (eN h2) <| .e (Al3 hF ht hi (.inr h2))) λh2=>.k (eN h2) <| .k (Ae hi) <| .k (AgP hF hi (toN t)) <| .e (Aps hF ht hi h1 h2)) λh1=>.k (eN h1) <| .e (Al3 hF ht hi (.inl h1))) (by kernel_rfl)) (DW.rd (.k (F3 s.nx) .l) (by kernel_rfl)) (by have:=(Br hF).1; omega)
end
theorem Aj7:An Tryz.prog Gl 40 (shI AaV):=AaA Tryz.func40 (by kernel_rfl) (by kernel_rfl) (Γ:=λ_ _=>cxA Gl tb0 AeM) (λ_ _=>rfl) (λ_ _=>AU BS AeM) λs l v h' h=>by
 unfold AaV at h;split at h
 ·rename_i t
  obtain ⟨hF,h⟩:=Ac h;obtain ⟨ht,h⟩:=Ac h;cases Aa h;exact ⟨_,DW.ok (.a (r40 hF ht) <| .l) (by kernel_rfl),Ap.refl _⟩
 ·cases h
theorem YX {f:St->T (Ex×St)} {lp:Lp} {S:Nat->St} {q:Nat->Bool} {n:Nat} {fin:Ex×St} {x:Nat->Ex×St} (hfin:fin.1 ≠ .nm) (hx:∀ k,(x k).1 ≠ .nm) (h:∀ i,i<n->q i=false->Ay f lp (S i)=some (.nm,S (i+1)))
  (ht:∀ i,i<n->q i=true->Ay f lp (S i)=some (x i)) (h0:Ay f lp (S n)=some fin) {o:Nat} (ho:n<o):(Au f lp o (S 0)).sem=some (match AO q n 0 with
   | none=>fin
   | some k=>x k):=by
 have stop:∀ {r:Ex×St} {o:Nat},r.1 ≠ .nm->YZ f lp o (some r)=some r:=fun {r o} hr=>by
  cases r with
  | mk e s=>cases e <;> first | exact absurd rfl hr | rfl
 have key:∀ d i o,i+d=n->d<o->(Au f lp o (S i)).sem=some (match AO q d i with
   | none=>fin
   | some k=>x k):=λd=>by
  induction d with
  | zero =>
   intro i o hi ho;obtain ⟨o,rfl⟩:∃ p,o=p+1:=⟨o-1,by omega⟩;obtain rfl:i=n:=by omega
   rw [Ag h0,stop hfin];rfl
  | succ d ih =>
   intro i o hi ho;obtain ⟨o,rfl⟩:∃ p,o=p+1:=⟨o-1,by omega⟩;cases hq:q i with
   | true=>rw [Ag (ht i (by omega) hq),stop (hx i),E2 hq]
   | false =>rw [Ag (h i (by omega) hq),E3 hq];exact ih (i+1) o (by omega) (by omega)
 exact key n 0 o (Nat.zero_add n) ho
section
variable (s:Sh7) (t lc:Int)
def Ak4:List Int->A3
 | [t,lc]=>.br (plB s) (.br (ile 0 t) (.leaf (iV (F7 (Bm (locL s s.nx (toN t))) (DO (locL s s.nx (toN t))) lc),[])) .fail) .fail
 | _=>.fail
def Ak5 (c:Int):St:=⟨jsV 26 0 Ab [(2,iV lc),(7,.ref 1),(8,iV c)],[cl7 s,.row 3 1 (Bm (locL s s.nx (toN t))) (Hp (locL s s.nx (toN t)))]⟩
def f103:Ex×St:=(.ex 0,⟨jsV 26 0 Ab [],[]⟩)
def Ao1 (k:Nat):Ex×St:=(.rt,⟨jsV 26 0 Ab [(6,iV (wr .i64 (Ah 7 (ofNat k))))],[]⟩)
end
def lp103:Lp:=⟨bmK 26 0 [2,7,8],2,bmK 26 0 [6],0,4611686018427387905⟩
noncomputable def tb103:A9:=(40,shI AaV)::[]
theorem tb103_ok:Ao Tryz.prog Gl tb103:=.cons Aj7 .nil
noncomputable def ApQ (id:Nat) (L:LT):St->T (Ex×St):=λst=>A8 tab ⟨Ax tb103,L,Gl⟩ (As Tryz.f103 id) id st
def Abc:List (Nat×Lp×List (Nat×(Nat->V))):=[(0,lp103,[])]
section
variable {s:Sh7} (hF:plB s=true) (t lc:Int)
include hF
theorem l16:Bm (locL s s.nx (toN t)) <= 1000:=by
 have:=ES (s:=s) (toN t) s.nx;have:=(Br hF).1;omega
theorem AoI:(Au (ApQ 0 (Go.Sy.askL Abc)) lp103 4611686018427387905 (Ak5 s t lc 0)).sem=some (match AO (λk=>ieq (DO (locL s s.nx (toN t)) k) lc) (Bm (locL s s.nx (toN t))) 0 with
  | none=>f103
  | some k=>Ao1 k) :=
 YX (S:=λi=>Ak5 s t lc (ofNat i)) (show (Ex.ex 0) ≠ .nm from nofun) (λ_=>(show Ex.rt ≠ .nm from nofun))
  (λi hi h=>DW.rd (.k (ofNat_lt hi) <| .k (Ae hi) <| .k (decide_eq_true hi) <| .k h <| .e (nm1 (f:=Ak5 s t lc) (w16 hi (l16 hF t)))) (by kernel_rfl)) (λi hi h=>DW.rd (.k (ofNat_lt hi) <| .k (Ae hi) <| .k (decide_eq_true hi) <| .k h <| .l) (by kernel_rfl)) (DW.rd (.k (F3 (Bm (locL s s.nx (toN t)))) .l) (by kernel_rfl)) (by have:=l16 hF t; omega)
end
theorem Am9:An Tryz.prog Gl 103 (shI Ak4):=AaA Tryz.func103 (by kernel_rfl) (by kernel_rfl) (Γ:=λ_ _=>cxA Gl tb103 Abc) (λ_ _=>rfl) (λ_ _=>AU tb103_ok Abc) λs l v h' h=>by
 unfold Ak4 at h;split at h
 ·rename_i t lc
  obtain ⟨hF,h⟩:=Ac h;obtain ⟨ht,h⟩:=Ac h;cases Aa h;have hr:=AoI hF t lc;unfold F7 tO;cases hq:AO (λk=>ieq (DO (locL s s.nx (toN t)) k) lc) (Bm (locL s s.nx (toN t))) 0 with
  | none =>rw [hq] at hr;exact ⟨_,DW.ok (.k (eL s.ne) <| .k (eL s.nx) <| .k (eL s.nr) <| .k (eL2 s.nc s.C) <| .k hF <| .k ht <| .a hr <| .l) (by kernel_rfl),Ap.refl _⟩
  | some k =>rw [hq] at hr;exact ⟨_,DW.ok (.k (eL s.ne) <| .k (eL s.nx) <| .k (eL s.nr) <| .k (eL2 s.nc s.C) <| .k hF <| .k ht <| .a hr <| .l) (by kernel_rfl),Ap.refl _⟩
 ·cases h
section
variable (s:Sh7) (u:Nat)
def Kz:Nat->Int
 | 0=>wr .i64 (Ah 7 (ofNat (Bm (locL s s.nx (toN (s.X u).th)))))
 | i+1=>bif isT s (toN (s.X u).th) i && isR s i then wr .i64 (Ah (Kz i) 1) else Kz i
def UI (r c:Int):St:=⟨jsV 59 0 Ab [(1,.ptr 0 0),(3,.ref 2),(4,nV u),(5,.ptr 3 0),(6,iV r),(7,iV c)],[cl7 s,.row 3 1 0 Ab,.row 3 1 u (λk=>iV (rg9 s k)),.cells [iV (s.X u).th,iV (s.X u).pl,iV (s.X u).dir,iV (s.X u).loc,iV (s.X u).val]]⟩
def AkI:Ex×St:=(.ex 2,⟨jsV 59 0 Ab [(1,.ptr 0 0),(3,.ref 2),(4,nV u),(6,iV (Kz s u u))],[cl7 s,.row 3 1 0 Ab,.row 3 1 u (λk=>iV (rg9 s k))]⟩)
def T38 (c:Int) (n:Nat) (g:Nat->V):St:=⟨jsV 59 0 Ab [(1,.ptr 0 0),(3,.ref 2),(4,iV c)],[cl7 s,.row 3 1 0 Ab,.row 3 1 n g]⟩
def S38 (i:Nat):St:=T38 s (ofNat i) i (λk=>iV (rg9 s k))
def x38:Ex×St:=(.ex 0,⟨jsV 59 0 Ab [(3,.ref 2)],[cl7 s,.row 3 1 0 Ab,.row 3 1 s.nx (λk=>iV (rg9 s k))]⟩)
def AiI:A3:=.br (plB s) (.leaf (.ref 0,[.row 3 1 s.nx λk=>iV (rg9 s k)])) .fail
end
def Abi:Lp:=⟨bmK 59 0 [1,3,4,5,6,7],4,bmK 59 0 [1,3,4,6],3,4611686018427387905⟩
def Anc:Lp:=⟨bmK 59 0 [1,3,4],3,bmK 59 0 [3],3,4611686018427387905⟩
noncomputable def Alr:A9:=(40,shI AaV)::[]
noncomputable def B38 (id:Nat) (L:LT):St->T (Ex×St):=λst=>A8 tab ⟨Ax Alr,L,Gl⟩ (As Tryz.f38 id) id st
def AeN (s:Sh7):List (Nat×Lp×List (Nat×(Nat->V))):=[(0,Anc,[(2,λk=>iV (rg9 s k))]),(2,Abi,[])]
section
variable {s:Sh7} (hF:plB s=true) {u i:Nat}
include hF
theorem n16 (hu:u<s.nx):u <= 1000:=by
 have:=(Br hF).1;omega
theorem Ad4 (hu:u<s.nx):ile 0 (s.X u).th=true:=by
 have h1:=(Br hF).2.2.2 u hu;simp only [Aj,Bool.and_eq_true] at h1;exact h1.1
theorem AoF (hi:i<u) (hu:u<s.nx) (h1:ieq (s.X i).th (s.X u).th=true) (h2:ieq (s.X i).dir 1=true):wr .i64 (Ah (Kz s u i) 1)=Kz s u (i+1):=by
 rw [Kz,show isT s (toN (s.X u).th) i=true from (WB hF (Ad4 hF hu) (Nat.lt_trans hi hu)).trans h1,show isR s i=true from h2];rfl
theorem AlG (hi:i<u) (hu:u<s.nx) (h:ieq (s.X i).th (s.X u).th=false ∨ ieq (s.X i).dir 1=false):Kz s u i=Kz s u (i+1):=by
 rw [Kz,show isT s (toN (s.X u).th) i=ieq (s.X i).th (s.X u).th from WB hF (Ad4 hF hu) (Nat.lt_trans hi hu)];rcases h with h | h
 ·rw [h]; rfl
 ·rw [show isR s i=false from h,Bool.and_false]; rfl
theorem AgG (hu:u<s.nx):∀ i,i <= u->Kz s u i=ofNat (7+Bm (locL s s.nx (toN (s.X u).th))+nrF s i (toN (s.X u).th))
 | 0,_=>by
  have:=l16 hF (s.X u).th;exact GL (k:=7+Bm (locL s s.nx (toN (s.X u).th))) (by omega)
 | i+1,hi=>by
  have hl:=l16 hF (s.X u).th;have hn:=AaS s i (toN (s.X u).th);have:=(Br hF).1;rw [Kz,AgG hu i (by omega)];unfold nrF at hn ⊢;cases hb:isT s (toN (s.X u).th) i && isR s i with
  | true =>rw [BH (p:=λk=>isT s (toN (s.X u).th) k && isR s k) hb];exact Gp (by omega)
  | false=>rw [BZ (p:=λk=>isT s (toN (s.X u).th) k && isR s k) hb]; rfl
theorem AoD (hu:u<s.nx) (h:ieq (s.X u).dir 1=true):Kz s u u=rg9 s u:=by
 rw [AgG hF hu u (Nat.le_refl u)];have hh:hsF s s.nx (toN (s.X u).th) (ofNat u)=true:=by
  rw [Ha];unfold hsX isT;rw [show toN (ofNat u)=u from rfl,Nat.beq_refl,show isR s u=true from h,ofNat_lt hu,show ile 0 (ofNat u)=true from decide_eq_true (Int.natCast_nonneg _)];rfl
 unfold rg9 rI9 gtF;rw [hh];rfl
omit hF in
theorem AoC (hu:u<s.nx) (h:ieq (s.X u).dir 1=false):-1=rg9 s u:=by
 have hh:hsF s s.nx (toN (s.X u).th) (ofNat u)=false:=by
  rw [Ha];unfold hsX isT;rw [show toN (ofNat u)=u from rfl,show isR s u=false from h,Bool.and_false,Bool.and_false,Bool.and_false]
 have _:=hu;unfold rg9;rw [hh];rfl
theorem Ans (hi:i<s.nx) {x:Int} (h:x=rg9 s i):(Ex.nm,T38 s (wr .i64 (Ah (ofNat i) 1)) (AD i 1) (AG i (λk=>iV (rg9 s k)) (iV x)))=(Ex.nm,S38 s (i+1)):=by
 unfold S38;exact nm3 (Ms hF hi) rfl (Ro _ _ _ (by rw [h]))
theorem Amk (hu:u<s.nx):(Au (B38 2 (Go.Sy.askL (AeN s))) Abi 4611686018427387905 (UI s u (Kz s u 0) 0)).sem=some (AkI s u) :=
 B6 (S:=λi=>UI s u (Kz s u i) (ofNat i)) (m:=u) (show (Ex.ex 2) ≠ .nm from nofun) (λi hi=>DW.rd (.k (ofNat_lt hi) <| .k (Ae (Nat.lt_trans hi hu)) <| .c (ieq (s.X i).th (s.X u).th) (λh1=>.r 4 h1 <| .k (Ae (Nat.lt_trans hi hu)) <| .r 4 h1 <| .c (ieq (s.X i).dir 1) (λh2=>.k h2 <| .e (nm2 (f:=UI s u) (AoF hF (i:=i) hi hu h1 h2) (w16 hi (n16 hF hu)))) λh2=>.k h2 <| .e (nm2 (f:=UI s u) (AlG hF (i:=i) hi hu (.inr h2)) (w16 hi (n16 hF hu)))) λh1=>.r 8 h1 <| .k eF <| .e (nm2 (f:=UI s u) (AlG hF (i:=i) hi hu (.inl h1)) (w16 hi (n16 hF hu)))) (by kernel_rfl)) (DW.rd (.k (F3 u) .l) (by kernel_rfl)) (by have:=n16 hF hu; omega)
theorem r38:(Au (B38 0 (Go.Sy.askL (AeN s))) Anc 4611686018427387905 (S38 s 0)).sem=some (x38 s) :=
 B6 (S:=S38 s) (m:=s.nx) (show (Ex.ex 0) ≠ .nm from nofun) (λi hi=>DW.rd (.k (ofNat_lt hi) <| .k (Ae hi) <| .c (ieq (s.X i).dir 1) (λh1=>.k h1 <| .k (eL s.ne) <| .k (eL s.nx) <| .k (eL s.nr) <| .k (eL2 s.nc s.C) <| .k hF <| .k (Ad4 hF hi) <| .a (Amk hF hi) <| .k (Agb hF hi) <| .e (Ans hF hi (AoD hF hi h1))) λh1=>.k h1 <| .k (Agb hF hi) <| .e (Ans hF hi (AoC hi h1))) (by kernel_rfl)) (DW.rd (.k (F3 s.nx) .l) (by kernel_rfl)) (by have:=(Br hF).1; omega)
end
theorem Am5:An Tryz.prog Gl 38 (shT AiI):=I4 Tryz.func38 (by kernel_rfl) (by kernel_rfl) (Γ:=λs=>cxA Gl Alr (AeN s)) (λ_=>rfl) (λs=>AU (.cons Aj7 .nil) (AeN s)) λs r h=>by
 obtain ⟨hF,h⟩:=Ac h;cases Aa h;exact DW.ok (.a (r38 hF) <| .l) (by kernel_rfl)
def lbC (y:Int):List UInt8:=bif ilt y 10 then DD [76,67,48] (CW y) else DD [76,67] (CW y)
def lbT:List V->A3
 | [.val (.int .i64 y)]=>.br (Aj (ile 0 y) (ilt y 100)) (.leaf (.str (lbC y),[])) .fail
 | _=>.fail
noncomputable def tb104:A9:=(147,P9)::[]
theorem tb104_ok:Ao Tryz.prog Gl tb104:=.cons Am6 .nil
theorem Am8:An Tryz.prog Gl 104 lbT:=by
 refine Al A2 mixed Tryz.func104 (by kernel_rfl) (by kernel_rfl) λvs v h' h=>?_;unfold lbT at h;split at h
 ·rename_i y
  have hx:=AU tb104_ok [] (G:=Gl);obtain ⟨hy,h⟩:=Ac h;cases Aa h;have hs:∀ l:List UInt8,l.length <= 100->WI l (CW y)=true:=λl hl=>QX hl (Ni y);exact ⟨_,cxA Gl tb104 [],_,Bz.refl _,rfl,hx.1,hx.2,DW.ok (.c (ilt y 10) (λh1=>.k h1 <| .k hy <| .k (hs [76,67,48] (by decide)) <| .e (by unfold lbC; rw [h1,cond_true])) λh1=>.k h1 <| .k hy <| .k (hs [76,67] (by decide)) <| .e (by unfold lbC; rw [h1,cond_false])) (by kernel_rfl),Ap.refl _⟩
 ·cases h
end Go.Proofs.YtkbafjceglhjhaaGreatDoor.Er
namespace Go.Proofs.YtkbafjceglhjhaaGreatDoor.Er
open Go.Sy Go Go.Proofs.YtkbafjceglhjhaaGreatDoor.Ed Go.Proofs.YtkbafjceglhjhaaGreatDoor.Sh
set_option maxRecDepth 100000
set_option maxHeartbeats 1000000
theorem eSq (l:List UInt8):seq l l=true:=by simp [seq]
theorem Aba {a b:Int} (h:ilt a b=true):ilt b a=false:=decide_eq_false (by have:=of_decide_eq_true h; omega)
theorem Xj (a:Int):ilt a a=false:=decide_eq_false (by omega)
noncomputable def pB (p:Prop):Bool:=@decide p (Classical.propDecidable p)
theorem Gr {p:Prop} (h:p):pB p=true:=@decide_eq_true p (Classical.propDecidable p) h
theorem I5 {p:Prop} (h:pB p=true):p:=@of_decide_eq_true p (Classical.propDecidable p) h
def rgB (z:Int):Bool:=Aj (ile 0 z) (ile z 31)
def rgT:List V->A3
 | [.val (.int .i64 z)]=>.br (rgB z) (.leaf (bV true,[])) .fail
 | _=>.fail
theorem p84:An Tryz.prog Gl 84 rgT:=by
 refine Al A2 mixed Tryz.func84 (by kernel_rfl) (by kernel_rfl) λvs v h' h=>?_;unfold rgT at h;split at h
 ·rename_i z
  have hx:=AU BS [] (G:=Gl);exact ⟨_,cxA Gl tb0 [],_,Bz.refl _,rfl,hx.1,hx.2,DK.of h (.g λh0=>.r 3 (AM h0).1 <| .e (congrArg (λb=>(bV b,([]:List Blk))) (AM h0).2)) (by kernel_rfl),Ap.refl _⟩
 ·cases h
def VP (n:Nat):List UInt8:=bif ieq (Int.ofNat (Cb (CW (Int.ofNat n)))) 1 then DD [76,67] (DD [48] (CW (Int.ofNat n))) else DD [76,67] (CW (Int.ofNat n))
def nmB (t:List UInt8):Bool:=(List.range 32).any λk=>seq t (VP k)
def nmT:List V->A3
 | [.str t]=>.br (nmB t) (.leaf (bV true,[])) .fail
 | _=>.fail
def tB:Option (V×List Blk)->Bool
 | some (.val (.bool true),[])=>true
 | _=>false
theorem Alx {o:Option (V×List Blk)} (h:tB o=true):o=some (bV true,[]):=by
 unfold tB at h;split at h
 ·rfl
 ·cases h
noncomputable def Aix:A9:=Ka tab Gl [] [(126,Tryz.f126),(127,Tryz.f127)]
theorem Ad8:Ao Tryz.prog Gl Aix:=QH A2 mixed .nil (.cons Tryz.func126 (by kernel_rfl) <| .cons Tryz.func127 (by kernel_rfl) .nil)
theorem AjC:(List.range 32).all (λk=>tB (A0 (Ai tab (cxC Gl Aix) Tryz.f83 [.str (VP k)] [])).sem)=true:=by kernel_rfl
theorem AmL {t:List UInt8} (h:nmB t=true):∃ k,k<32∧t=VP k:=by
 obtain ⟨k,hk,h⟩:=List.any_eq_true.1 h;exact ⟨k,by simpa using hk,by simpa [seq] using h⟩
theorem p83:An Tryz.prog Gl 83 nmT:=by
 refine Al A2 mixed Tryz.func83 (by kernel_rfl) (by kernel_rfl) λvs v h' h=>?_;unfold nmT at h;split at h
 ·obtain ⟨h1,h2⟩:=Ac h
  obtain ⟨k,hk,rfl⟩:=AmL h1;have hx:=LX Ad8;have:=Aa h2;simp only [Prod.mk.injEq] at this;obtain ⟨rfl,rfl⟩:=this;exact ⟨_,cxC Gl Aix,_,Bz.refl _,rfl,hx.1,hx.2,Alx (List.all_eq_true.1 AjC k (by simpa using hk)),Ap.refl _⟩
 ·cases h
def Ad1:V->Option In8
 | .agg [.val (.int .i64 a),.val (.int .i64 b),.val (.int .i64 c),.val (.int .i64 d),.val (.int .i64 e),.str f,.str g,.val (.int .i64 k)]=>some ⟨a,b,c,d,e,f,g,k⟩
 | _=>none
theorem Yp {v:V} {e:In8} (h:Ad1 v=some e):v=i8V e:=by
 unfold Ad1 at h;split at h
 ·simp only [Option.some.injEq] at h
  subst h;rfl
 ·cases h
def LD (v:V):Bool:=match Ad1 v with
 | some _=>true
 | none=>false
def Sm (v:V):In8:=match Ad1 v with
 | some e=>e
 | none=>zI
theorem LC {v:V} (h:LD v=true):v=i8V (Sm v):=by
 unfold LD at h;unfold Sm;split at h
 ·rename_i e he
  exact Yp he
 ·cases h
def AcF:Cod In8:=⟨8,i8V,LD,Sm,λv h S w c hv=>by rw [<- LC h]; exact hv⟩
inductive IsI:In8->Prop where
 | lw {d a:Int} (hd:rgB d=true) (ha:rgB a=true):IsI ⟨6,d,a,0,0,[],[],0⟩
 | sw {a:Int} (ha:rgB a=true) (h5:ilt 5 a=true):IsI ⟨7,0,a,5,0,[],[],0⟩
 | ori {a m:Int} (ha:rgB a=true) (hm:ile (-2048) m=true) (hm2:ile m 2047=true):IsI ⟨8,5,a,0,m,[],[],0⟩
 | xor {d a:Int} (hd:rgB d=true) (ha:rgB a=true):IsI ⟨9,d,a,a,0,[],[],0⟩
 | add {b:Int} (hb:rgB b=true) (h6:ilt 6 b=true):IsI ⟨10,6,6,b,0,[],[],0⟩
 | bne {a:Int} {t:List UInt8} (ha:rgB a=true) (h0:ilt 0 a=true) (ht:nmB t=true):IsI ⟨11,0,a,0,0,[],t,0⟩
 | lab {t:List UInt8} (ht:nmB t=true):IsI ⟨12,0,0,0,0,[],t,0⟩
 | fen {f:Int} (hf:ile 2 f=true) (hf2:ile f 11=true):IsI ⟨13,0,0,0,0,[],[],f⟩
noncomputable def XQ:List V->A3
 | [v]=>.br (LD v) (.br (pB (IsI (Sm v))) (.leaf (iV 0,[])) .fail) .fail
 | _=>.fail
noncomputable def tb55:A9:=(83,nmT)::(84,rgT)::[]
theorem tb55_ok:Ao Tryz.prog Gl tb55:=.cons p83 <| .cons p84 .nil
theorem Ali (d a:Int) (hd:rgB d=true) (ha:rgB a=true):(A0 (Ai tab (cxA Gl tb55 []) Tryz.f55 [.agg [iV 6,iV d,iV a,iV 0,iV 0,.str [],.str [],iV 0]] [])).sem=some (iV 0,[]):=DK.of (C:=.leaf (iV 0,[])) rfl (.k (eI 6) <| .r 4 (eN eT) <| .r 3 (eN (eA (eI 6) (eA (eI d) (eA (eI a) (eA (eI 0) (eA (eI 0) (eA (eSq []) (eA (eSq []) (eA (eI 0) eT))))))))) <| .k hd <| .r 2 (eN (eA (eI 6) (eA (eI d) (eA (eI a) (eA (eI 0) (eA (eI 0) (eA (eSq []) (eA (eSq []) (eA (eI 0) eT))))))))) <| .r 3 (eN eT) <| .k ha <| .r 5 (eN eT) <| .k (show rgB 0=true from rfl) <| .r 3 (eN eT) <| .l) (by kernel_rfl)
theorem Alh (a:Int) (ha:rgB a=true) (h5:ilt 5 a=true):(A0 (Ai tab (cxA Gl tb55 []) Tryz.f55 [.agg [iV 7,iV 0,iV a,iV 5,iV 0,.str [],.str [],iV 0]] [])).sem=some (iV 0,[]):=DK.of (C:=.leaf (iV 0,[])) rfl (.k (show ieq 7 6=false from rfl) <| .k (eI 7) <| .r 4 (eN eT) <| .r 3 (eN (eA (eI 7) (eA (eI 0) (eA (eI a) (eA (eI 5) (eA (eI 0) (eA (eSq []) (eA (eSq []) (eA (eI 0) eT))))))))) <| .k (show rgB 0=true from rfl) <| .r 2 (eN (eA (eI 7) (eA (eI 0) (eA (eI a) (eA (eI 5) (eA (eI 0) (eA (eSq []) (eA (eSq []) (eA (eI 0) eT))))))))) <| .r 3 (eN eT) <| .k ha <| .r 5 (eN eT) <| .k (show rgB 5=true from rfl) <| .r 3 (eN eT) <| .l) (by kernel_rfl)
theorem AhZ (a m:Int) (ha:rgB a=true) (hm:ile (-2048) m=true) (hm2:ile m 2047=true):(A0 (Ai tab (cxA Gl tb55 []) Tryz.f55 [.agg [iV 8,iV 5,iV a,iV 0,iV m,.str [],.str [],iV 0]] [])).sem=some (iV 0,[]):=DK.of (C:=.leaf (iV 0,[])) rfl (.k (show ieq 8 6=false from rfl) <| .k (show ieq 8 7=false from rfl) <| .k (eI 8) <| .r 4 hm <| .r 4 (eN hm2) <| .r 3 (eN (eA (eI 8) (eA (eI 5) (eA (eI a) (eA (eI 0) (eA (eI m) (eA (eSq []) (eA (eSq []) (eA (eI 0) eT))))))))) <| .k (show rgB 5=true from rfl) <| .r 2 (eN (eA (eI 8) (eA (eI 5) (eA (eI a) (eA (eI 0) (eA (eI m) (eA (eSq []) (eA (eSq []) (eA (eI 0) eT))))))))) <| .r 3 (eN eT) <| .k ha <| .r 5 (eN eT) <| .k (show rgB 0=true from rfl) <| .r 3 (eN eT) <| .l) (by kernel_rfl)
theorem AhY (d a:Int) (hd:rgB d=true) (ha:rgB a=true):(A0 (Ai tab (cxA Gl tb55 []) Tryz.f55 [.agg [iV 9,iV d,iV a,iV a,iV 0,.str [],.str [],iV 0]] [])).sem=some (iV 0,[]):=DK.of (C:=.leaf (iV 0,[])) rfl (.k (show ieq 9 6=false from rfl) <| .k (show ieq 9 7=false from rfl) <| .k (show ieq 9 8=false from rfl) <| .r 2 (eI 9) <| .r 4 (eN eT) <| .r 3 (eN (eA (eI 9) (eA (eI d) (eA (eI a) (eA (eI a) (eA (eI 0) (eA (eSq []) (eA (eSq []) (eA (eI 0) eT))))))))) <| .k hd <| .r 2 (eN (eA (eI 9) (eA (eI d) (eA (eI a) (eA (eI a) (eA (eI 0) (eA (eSq []) (eA (eSq []) (eA (eI 0) eT))))))))) <| .r 3 (eN eT) <| .k ha <| .r 5 (eN eT) <| .k ha <| .r 3 (eN eT) <| .l) (by kernel_rfl)
theorem Aid (b:Int) (hb:rgB b=true) (h6:ilt 6 b=true):(A0 (Ai tab (cxA Gl tb55 []) Tryz.f55 [.agg [iV 10,iV 6,iV 6,iV b,iV 0,.str [],.str [],iV 0]] [])).sem=some (iV 0,[]):=DK.of (C:=.leaf (iV 0,[])) rfl (.k (show ieq 10 6=false from rfl) <| .k (show ieq 10 7=false from rfl) <| .k (show ieq 10 8=false from rfl) <| .k (show ieq 10 9=false from rfl) <| .k (eI 10) <| .r 4 (eN eT) <| .r 3 (eN (eA (eI 10) (eA (eI 6) (eA (eI 6) (eA (eI b) (eA (eI 0) (eA (eSq []) (eA (eSq []) (eA (eI 0) eT))))))))) <| .k (show rgB 6=true from rfl) <| .r 2 (eN (eA (eI 10) (eA (eI 6) (eA (eI 6) (eA (eI b) (eA (eI 0) (eA (eSq []) (eA (eSq []) (eA (eI 0) eT))))))))) <| .r 3 (eN eT) <| .k (show rgB 6=true from rfl) <| .r 5 (eN eT) <| .k hb <| .r 3 (eN eT) <| .l) (by kernel_rfl)
theorem Aic (a:Int) (t:List UInt8) (ha:rgB a=true) (h0:ilt 0 a=true) (ht:nmB t=true):(A0 (Ai tab (cxA Gl tb55 []) Tryz.f55 [.agg [iV 11,iV 0,iV a,iV 0,iV 0,.str [],.str t,iV 0]] [])).sem=some (iV 0,[]):=DK.of (C:=.leaf (iV 0,[])) rfl (.k (show ieq 11 6=false from rfl) <| .k (show ieq 11 7=false from rfl) <| .k (show ieq 11 8=false from rfl) <| .k (show ieq 11 9=false from rfl) <| .k (show ieq 11 10=false from rfl) <| .k (eI 11) <| .k ht <| .r 4 (eN eT) <| .r 3 (eN (eA (eI 11) (eA (eI 0) (eA (eI a) (eA (eI 0) (eA (eI 0) (eA (eSq []) (eA (eSq t) (eA (eI 0) eT))))))))) <| .k (show rgB 0=true from rfl) <| .r 2 (eN (eA (eI 11) (eA (eI 0) (eA (eI a) (eA (eI 0) (eA (eI 0) (eA (eSq []) (eA (eSq t) (eA (eI 0) eT))))))))) <| .r 3 (eN eT) <| .k ha <| .r 5 (eN eT) <| .k (show rgB 0=true from rfl) <| .r 3 (eN eT) <| .l) (by kernel_rfl)
theorem Aia (t:List UInt8) (ht:nmB t=true):(A0 (Ai tab (cxA Gl tb55 []) Tryz.f55 [.agg [iV 12,iV 0,iV 0,iV 0,iV 0,.str [],.str t,iV 0]] [])).sem=some (iV 0,[]):=DK.of (C:=.leaf (iV 0,[])) rfl (.k (show ieq 12 6=false from rfl) <| .k (show ieq 12 7=false from rfl) <| .k (show ieq 12 8=false from rfl) <| .k (show ieq 12 9=false from rfl) <| .k (show ieq 12 10=false from rfl) <| .k (show ieq 12 11=false from rfl) <| .k (eI 12) <| .k ht <| .r 4 (eN eT) <| .r 3 (eN (eA (eI 12) (eA (eI 0) (eA (eI 0) (eA (eI 0) (eA (eI 0) (eA (eSq []) (eA (eSq t) (eA (eI 0) eT))))))))) <| .k (show rgB 0=true from rfl) <| .r 2 (eN (eA (eI 12) (eA (eI 0) (eA (eI 0) (eA (eI 0) (eA (eI 0) (eA (eSq []) (eA (eSq t) (eA (eI 0) eT))))))))) <| .r 3 (eN eT) <| .k (show rgB 0=true from rfl) <| .r 5 (eN eT) <| .k (show rgB 0=true from rfl) <| .r 3 (eN eT) <| .l) (by kernel_rfl)
theorem Aib (f:Int) (hf:ile 2 f=true) (hf2:ile f 11=true):(A0 (Ai tab (cxA Gl tb55 []) Tryz.f55 [.agg [iV 13,iV 0,iV 0,iV 0,iV 0,.str [],.str [],iV f]] [])).sem=some (iV 0,[]):=DK.of (C:=.leaf (iV 0,[])) rfl (.k (show ieq 13 6=false from rfl) <| .k (show ieq 13 7=false from rfl) <| .k (show ieq 13 8=false from rfl) <| .k (show ieq 13 9=false from rfl) <| .k (show ieq 13 10=false from rfl) <| .k (show ieq 13 11=false from rfl) <| .k (show ieq 13 12=false from rfl) <| .k (eI 13) <| .r 4 hf <| .r 4 (eN hf2) <| .r 3 (eN (eA (eI 13) (eA (eI 0) (eA (eI 0) (eA (eI 0) (eA (eI 0) (eA (eSq []) (eA (eSq []) (eA (eI f) eT))))))))) <| .k (show rgB 0=true from rfl) <| .r 2 (eN (eA (eI 13) (eA (eI 0) (eA (eI 0) (eA (eI 0) (eA (eI 0) (eA (eSq []) (eA (eSq []) (eA (eI f) eT))))))))) <| .r 3 (eN eT) <| .k (show rgB 0=true from rfl) <| .r 5 (eN eT) <| .k (show rgB 0=true from rfl) <| .r 3 (eN eT) <| .l) (by kernel_rfl)
theorem p55:An Tryz.prog Gl 55 XQ:=by
 refine Al A2 mixed Tryz.func55 (by kernel_rfl) (by kernel_rfl) λvs v h' h=>?_;unfold XQ at h;split at h
 ·rename_i u
  obtain ⟨h1,h⟩:=Ac h;obtain ⟨h2,h⟩:=Ac h;have:=Aa h;simp only [Prod.mk.injEq] at this;obtain ⟨rfl,rfl⟩:=this;have hx:=AU tb55_ok [] (G:=Gl);refine ⟨_,cxA Gl tb55 [],_,Bz.refl _,rfl,hx.1,hx.2,?_,Ap.refl _⟩;rw [LC h1];generalize Sm u=I at h2;cases I5 h2 with
  | lw hd ha=>exact Ali _ _ hd ha
  | sw ha h5=>exact Alh _ ha h5
  | ori ha hm hm2=>exact AhZ _ _ ha hm hm2
  | xor hd ha=>exact AhY _ _ hd ha
  | add hb h6=>exact Aid _ hb h6
  | bne ha h0 ht=>exact Aic _ _ ha h0 ht
  | lab ht=>exact Aia _ ht
  | fen hf hf2=>exact Aib _ hf hf2
 ·cases h
def dsI (I:In8):Int:=bif ieq I.op 6 then I.d else bif ieq I.op 8 then 5 else bif ieq I.op 9 then I.d else bif ieq I.op 10 then 6 else -1
noncomputable def ZE:List V->A3
 | [v]=>.br (LD v) (.br (pB (IsI (Sm v))) (.leaf (.tup [.und,iV (dsI (Sm v)),iV 0],[])) .fail) .fail
 | _=>.fail
noncomputable def P0:A9:=(55,XQ)::[]
theorem AdO:Ao Tryz.prog Gl P0:=.cons p55 .nil
theorem Alk (d a:Int) (hd:rgB d=true) (ha:rgB a=true):(Si [false,true,true] (Ai tab (cxA Gl P0 []) Tryz.f30 [.agg [iV 6,iV d,iV a,iV 0,iV 0,.str [],.str [],iV 0]] [])).sem=some (.tup [.und,iV d,iV 0],[]):=DK.of (C:=.leaf (.tup [.und,iV d,iV 0],[])) rfl (.k (show LD (.agg [iV 6,iV d,iV a,iV 0,iV 0,.str [],.str [],iV 0])=true from rfl) <| .k (Gr (IsI.lw hd ha)) <| .k (eN (eI 0)) <| .k (show ieq 6 12=false from rfl) <| .k (show ieq 6 13=false from rfl) <| .r 2 (eI 6) <| .r 7 eF <| .k (show Bp 0 1 8=true from by decide) <| .r 7 eF <| .l) (by kernel_rfl)
theorem Alj (a:Int) (ha:rgB a=true) (h5:ilt 5 a=true):(Si [false,true,true] (Ai tab (cxA Gl P0 []) Tryz.f30 [.agg [iV 7,iV 0,iV a,iV 5,iV 0,.str [],.str [],iV 0]] [])).sem=some (.tup [.und,iV (-1),iV 0],[]):=DK.of (C:=.leaf (.tup [.und,iV (-1),iV 0],[])) rfl (.k (show LD (.agg [iV 7,iV 0,iV a,iV 5,iV 0,.str [],.str [],iV 0])=true from rfl) <| .k (Gr (IsI.sw ha h5)) <| .k (eN (eI 0)) <| .k (show ieq 7 12=false from rfl) <| .k (show ieq 7 13=false from rfl) <| .k (show ieq 7 6=false from rfl) <| .k (show ieq 7 8=false from rfl) <| .k (show ieq 7 9=false from rfl) <| .k (show ieq 7 10=false from rfl) <| .r 2 (eI 7) <| .r 6 eT <| .k h5 <| .k (show Bp 0 1 8=true from by decide) <| .k (show Bp (AD 0 1) 1 8=true from by decide) <| .r 6 eT <| .k (Aba h5) <| .l) (by kernel_rfl)
theorem Aif (a m:Int) (ha:rgB a=true) (hm:ile (-2048) m=true) (hm2:ile m 2047=true):(Si [false,true,true] (Ai tab (cxA Gl P0 []) Tryz.f30 [.agg [iV 8,iV 5,iV a,iV 0,iV m,.str [],.str [],iV 0]] [])).sem=some (.tup [.und,iV 5,iV 0],[]):=DK.of (C:=.leaf (.tup [.und,iV 5,iV 0],[])) rfl (.k (show LD (.agg [iV 8,iV 5,iV a,iV 0,iV m,.str [],.str [],iV 0])=true from rfl) <| .k (Gr (IsI.ori ha hm hm2)) <| .k (eN (eI 0)) <| .k (show ieq 8 12=false from rfl) <| .k (show ieq 8 13=false from rfl) <| .k (show ieq 8 6=false from rfl) <| .k (eI 8) <| .r 7 eF <| .k (show Bp 0 1 8=true from by decide) <| .r 7 eF <| .l) (by kernel_rfl)
theorem Aie (d a:Int) (hd:rgB d=true) (ha:rgB a=true):(Si [false,true,true] (Ai tab (cxA Gl P0 []) Tryz.f30 [.agg [iV 9,iV d,iV a,iV a,iV 0,.str [],.str [],iV 0]] [])).sem=some (.tup [.und,iV d,iV 0],[]):=DK.of (C:=.leaf (.tup [.und,iV d,iV 0],[])) rfl (.k (show LD (.agg [iV 9,iV d,iV a,iV a,iV 0,.str [],.str [],iV 0])=true from rfl) <| .k (Gr (IsI.xor hd ha)) <| .k (eN (eI 0)) <| .k (show ieq 9 12=false from rfl) <| .k (show ieq 9 13=false from rfl) <| .k (show ieq 9 6=false from rfl) <| .k (show ieq 9 8=false from rfl) <| .r 2 (eI 9) <| .r 6 eT <| .k (Xj a) <| .k (show Bp 0 1 8=true from by decide) <| .r 6 eT <| .k (Xj a) <| .l) (by kernel_rfl)
theorem Aij (b:Int) (hb:rgB b=true) (h6:ilt 6 b=true):(Si [false,true,true] (Ai tab (cxA Gl P0 []) Tryz.f30 [.agg [iV 10,iV 6,iV 6,iV b,iV 0,.str [],.str [],iV 0]] [])).sem=some (.tup [.und,iV 6,iV 0],[]):=DK.of (C:=.leaf (.tup [.und,iV 6,iV 0],[])) rfl (.k (show LD (.agg [iV 10,iV 6,iV 6,iV b,iV 0,.str [],.str [],iV 0])=true from rfl) <| .k (Gr (IsI.add hb h6)) <| .k (eN (eI 0)) <| .k (show ieq 10 12=false from rfl) <| .k (show ieq 10 13=false from rfl) <| .k (show ieq 10 6=false from rfl) <| .k (show ieq 10 8=false from rfl) <| .k (show ieq 10 9=false from rfl) <| .k (eI 10) <| .r 6 eT <| .k (Aba h6) <| .k (show Bp 0 1 8=true from by decide) <| .r 6 eT <| .k h6 <| .k (show Bp (AD 0 1) 1 8=true from by decide) <| .l) (by kernel_rfl)
theorem Aii (a:Int) (t:List UInt8) (ha:rgB a=true) (h0:ilt 0 a=true) (ht:nmB t=true):(Si [false,true,true] (Ai tab (cxA Gl P0 []) Tryz.f30 [.agg [iV 11,iV 0,iV a,iV 0,iV 0,.str [],.str t,iV 0]] [])).sem=some (.tup [.und,iV (-1),iV 0],[]):=DK.of (C:=.leaf (.tup [.und,iV (-1),iV 0],[])) rfl (.k (show LD (.agg [iV 11,iV 0,iV a,iV 0,iV 0,.str [],.str t,iV 0])=true from rfl) <| .k (Gr (IsI.bne ha h0 ht)) <| .k (eN (eI 0)) <| .k (show ieq 11 12=false from rfl) <| .k (show ieq 11 13=false from rfl) <| .k (show ieq 11 6=false from rfl) <| .k (show ieq 11 8=false from rfl) <| .k (show ieq 11 9=false from rfl) <| .k (show ieq 11 10=false from rfl) <| .k (show ieq 11 7=false from rfl) <| .k (eI 11) <| .r 6 eT <| .k h0 <| .k (show Bp 0 1 8=true from by decide) <| .k (show Bp (AD 0 1) 1 8=true from by decide) <| .r 6 eT <| .k (Aba h0) <| .l) (by kernel_rfl)
theorem Aig (t:List UInt8) (ht:nmB t=true):(Si [false,true,true] (Ai tab (cxA Gl P0 []) Tryz.f30 [.agg [iV 12,iV 0,iV 0,iV 0,iV 0,.str [],.str t,iV 0]] [])).sem=some (.tup [.und,iV (-1),iV 0],[]):=DK.of (C:=.leaf (.tup [.und,iV (-1),iV 0],[])) rfl (.k (show LD (.agg [iV 12,iV 0,iV 0,iV 0,iV 0,.str [],.str t,iV 0])=true from rfl) <| .k (Gr (IsI.lab ht)) <| .k (eN (eI 0)) <| .r 2 (eI 12) <| .l) (by kernel_rfl)
theorem Aih (f:Int) (hf:ile 2 f=true) (hf2:ile f 11=true):(Si [false,true,true] (Ai tab (cxA Gl P0 []) Tryz.f30 [.agg [iV 13,iV 0,iV 0,iV 0,iV 0,.str [],.str [],iV f]] [])).sem=some (.tup [.und,iV (-1),iV 0],[]):=DK.of (C:=.leaf (.tup [.und,iV (-1),iV 0],[])) rfl (.k (show LD (.agg [iV 13,iV 0,iV 0,iV 0,iV 0,.str [],.str [],iV f])=true from rfl) <| .k (Gr (IsI.fen hf hf2)) <| .k (eN (eI 0)) <| .k (show ieq 13 12=false from rfl) <| .k (eI 13) <| .l) (by kernel_rfl)
theorem p30:An Tryz.prog Gl 30 ZE:=by
 refine NJ A2 mixed Tryz.func30 (by kernel_rfl) (by kernel_rfl) [false,true,true] λvs v h' h=>?_;unfold ZE at h;split at h
 ·rename_i u
  obtain ⟨h1,h⟩:=Ac h;obtain ⟨h2,h⟩:=Ac h;have:=Aa h;simp only [Prod.mk.injEq] at this;obtain ⟨rfl,rfl⟩:=this;have hx:=AU AdO [] (G:=Gl);refine ⟨_,cxA Gl P0 [],Bz.refl _,rfl,hx.1,hx.2,?_⟩;rw [LC h1];revert h2;generalize Sm u=I;intro h2;have e:∀ I,Sm (i8V I)=I:=λ_=>rfl;cases I5 h2 with
  | lw hd ha=>exact Alk _ _ hd ha
  | sw ha h5=>exact Alj _ ha h5
  | ori ha hm hm2=>exact Aif _ _ ha hm hm2
  | xor hd ha=>exact Aie _ _ hd ha
  | add hb h6=>exact Aij _ hb h6
  | bne ha h0 ht=>exact Aii _ _ ha h0 ht
  | lab ht=>exact Aig _ ht
  | fen hf hf2=>exact Aih _ hf hf2
 ·cases h
end Go.Proofs.YtkbafjceglhjhaaGreatDoor.Er
