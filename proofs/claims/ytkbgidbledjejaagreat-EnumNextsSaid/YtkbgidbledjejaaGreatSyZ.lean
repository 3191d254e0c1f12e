/-
  A function's tree held against its closed form: one derivation for all its ways. Conditions: none.
-/
import Derived.Test.YtkbgidbledjejaaGreatSyR
namespace Go.Sy
inductive DT (α:Type) where
 | lf (a:α)
 | fl
 | kn (b c:Bool) (d:DT α)
 | ak (o:Option (Ex×St)) (r:Ex×St) (d:DT α)
 | sp (d e:DT α)
def DT.cs {α:Type}:DT α->List Bool
 | .lf _=>[]
 | .fl=>[]
 | .kn b _ d=>b::d.cs
 | .ak _ _ d=>d.cs
 | .sp d e=>d.cs++e.cs
def DT.os {α:Type}:DT α->List (Option (Ex×St))
 | .lf _=>[]
 | .fl=>[]
 | .kn _ _ d=>d.os
 | .ak o _ d=>o::d.os
 | .sp d e=>d.os++e.os
def DT.ls {α:Type}:DT α->List α
 | .lf a=>[a]
 | .fl=>[]
 | .kn _ _ d=>d.ls
 | .ak _ _ d=>d.ls
 | .sp d e=>d.ls++e.ls
def DT.run {α:Type}:DT α->T α->Option (List Bool×List (Option (Ex×St))×List α)
 | .lf _,.leaf a=>some ([],[],[a])
 | .fl,_=>some ([],[],[])
 | .kn _ c d,.br b x y=>match (match c with | true=>d.run x | false=>d.run y) with
  | some (cs,os,ls)=>some (b::cs,os,ls)
  | none=>none
 | .ak _ r d,.ask o k=>match d.run (k r) with
  | some (cs,os,ls)=>some (cs,o::os,ls)
  | none=>none
 | .sp d e,t=>match d.run t,e.run t with
  | some (cs,os,ls),some (cs',os',ls')=>some (cs++cs',os++os',ls++ls')
  | _,_=>none
 | _,_=>none
inductive DK {α β:Type} (L:β->α):T β->DT α->Prop where
 | e {a:β} {b:α} (h:b=L a):DK L (.leaf a) (.lf b)
 | f:DK L .fail .fl
 | k {C:T β} {b c:Bool} {d:DT α} (h:b=c) (w:DK L C d):DK L C (.kn b c d)
 | a {C:T β} {o:Option (Ex×St)} {r:Ex×St} {d:DT α} (h:o=some r) (w:DK L C d):DK L C (.ak o r d)
 | c {b:Bool} {X Y:T β} {d e:DT α} (w:b=true->DK L X d) (u:b=false->DK L Y e):DK L (.br b X Y) (.sp d e)
 | g {b:Bool} {X:T β} {d:DT α} (w:b=true->DK L X d):DK L (.br b X .fail) d
def DT.knR {α:Type}:Nat->Bool->Bool->DT α->DT α
 | 0,_,_,d=>d
 | n+1,b,c,d=>.kn b c (knR n b c d)
theorem DK.r {α β:Type} {L:β->α} {C:T β} {b c:Bool} {d:DT α} (n:Nat) (h:b=c) (w:DK L C d):DK L C (DT.knR n b c d):=by
 induction n with
 | zero=>exact w
 | succ n ih=>exact .k h ih
theorem DK.l {α β:Type} {L:β->α} {a:β}:DK L (.leaf a) (.lf (L a)):=.e rfl
theorem DT.run_len {α:Type} {d:DT α}:∀ {t:T α} {cs:List Bool} {os:List (Option (Ex×St))} {ls:List α},d.run t=some (cs,os,ls)->cs.length=d.cs.length∧os.length=d.os.length∧ls.length=d.ls.length:=by
 induction d with
 | lf a =>intro t cs os ls h;cases t <;> cases h;exact ⟨rfl,rfl,rfl⟩
 | fl=>intro t cs os ls h; simp only [DT.run] at h; cases h; exact ⟨rfl,rfl,rfl⟩
 | kn b c d ih =>
  intro t cs os ls h;cases t with
  | br b' x y =>
   simp only [DT.run] at h;split at h
   ·rename_i cs' os' ls' hr
    cases h;cases c <;> (obtain ⟨e1,e2⟩:=ih hr; exact ⟨congrArg Nat.succ e1,e2⟩)
   ·cases h
  | _=>cases h
 | ak o r d ih =>
  intro t cs os ls h;cases t with
  | ask o' k =>
   simp only [DT.run] at h;split at h
   ·rename_i hr
    cases h;obtain ⟨e1,e2,e3⟩:=ih hr;exact ⟨e1,congrArg Nat.succ e2,e3⟩
   ·cases h
  | _=>cases h
 | sp d e ih ih' =>
  intro t cs os ls h;simp only [DT.run] at h;split at h
  ·rename_i hx hy
   cases h;obtain ⟨e1,e2,e3⟩:=ih hx;obtain ⟨f1,f2,f3⟩:=ih' hy;simp only [DT.cs,DT.os,DT.ls,List.length_append,e1,e2,e3,f1,f2,f3,and_self]
  ·cases h
theorem DK.ok {α β:Type} {L:β->α} {C:T β} {d:DT α} (w:DK L C d):∀ {t:T α},d.run t=some (d.cs,d.os,d.ls)->∀ {r:β},C.sem=some r->t.sem=some (L r):=by
 induction w with
 | e hab =>
  intro t h r hr;cases t with
  | leaf b =>simp only [DT.run,DT.cs,DT.os,DT.ls,Option.some.injEq,Prod.mk.injEq,List.cons.injEq,and_true,true_and] at h;subst h;rw [hab];exact congrArg (λo=>o.map L) hr
  | _=>cases h
 | f=>intro t h r hr; cases hr
 | k hb w ih =>
  rename_i C b c d;intro t h r hr;cases t with
  | br b' x y =>
   simp only [DT.run] at h;split at h
   ·rename_i hx
    simp only [DT.cs,DT.os,DT.ls,Option.some.injEq,Prod.mk.injEq,List.cons.injEq] at h;obtain ⟨⟨rfl,rfl⟩,rfl,rfl⟩:=h;subst hb;cases b' with
    | true=>exact ih hx hr
    | false=>exact ih hx hr
   ·cases h
  | _=>cases h
 | a ho w ih =>
  rename_i C o q d;intro t h r hr;cases t with
  | ask o' k =>
   simp only [DT.run] at h;split at h
   ·rename_i hx
    simp only [DT.cs,DT.os,DT.ls,Option.some.injEq,Prod.mk.injEq,List.cons.injEq] at h;obtain ⟨rfl,⟨rfl,rfl⟩,rfl⟩:=h;subst ho;exact ih hx hr
   ·cases h
  | _=>cases h
 | c w u ih ih' =>
  rename_i b X Y d e;intro t h r hr;simp only [DT.run] at h;split at h
  ·rename_i hx hy
   simp only [DT.cs,DT.os,DT.ls,Option.some.injEq,Prod.mk.injEq] at h;obtain ⟨hc,ho,hl⟩:=h;obtain ⟨e1,e2,e3⟩:=DT.run_len hx;obtain ⟨rfl,rfl⟩:=List.append_inj hc e1;obtain ⟨rfl,rfl⟩:=List.append_inj ho e2;obtain ⟨rfl,rfl⟩:=List.append_inj hl e3;cases hb:b with
   | true=>rw [hb] at hr; exact ih hb hx hr
   | false=>rw [hb] at hr; exact ih' hb hy hr
  ·cases h
 | g w ih =>intro t h r hr;obtain ⟨hb,hr⟩:=Ab hr;exact ih hb h hr
theorem DK.of {α:Type} {C t:T α} {r:α} (h:C.sem=some r) {d:DT α} (w:DK (λa=>a) C d) (e:d.run t=some (d.cs,d.os,d.ls)):t.sem=some r:=w.ok e h
def DO {σ ρ:Type} (g:Nat->σ->T (σ ⊕ ρ)) (fin:σ->ρ):Nat->Nat->σ->Option ρ
 | 0,_,a=>some (fin a)
 | d+1,i,a=>match (g i a).sem with
  | some (.inl b)=>DO g fin d (i+1) b
  | some (.inr e)=>some e
  | none=>none
def goR {σ ρ:Type} (S:Int->σ->(Nat->V)->St) (R:ρ->Ex×St) (i:Nat):σ ⊕ ρ->Ex×St
 | .inl b=>(.nm,S (wr .i64 (Aj (Int.ofNat i) 1)) b λ_=>.und)
 | .inr e=>R e
theorem Tm {i n:Nat} (h:i<n) (hn:n <= 4611686018427387904):wr .i64 (Aj (Int.ofNat i) 1)=Int.ofNat (i+1):=by
 unfold wr Aj IntKind.wrap;simp [IntKind.bits,IntKind.signed];omega
theorem Ef {σ ρ:Type} {f:St->T (Ex×St)} {lp:Lp} {S:Int->σ->(Nat->V)->St} {R:ρ->Ex×St} (hR:∀ e,(R e).1 ≠ .nm) {n:Nat} (hn:n <= 4611686018427387904) {g:Nat->σ->T (σ ⊕ ρ)} {fin:σ->ρ}
  (h:∀ i a j r,i<n->(g i a).sem=some r->Ap f lp (S (Int.ofNat i) a j)=some (goR S R i r)) (h0:∀ a j,Ap f lp (S (Int.ofNat n) a j)=some (R (fin a))) :
  ∀ {d i:Nat} {a:σ} {j:Nat->V} {q:Nat} {e:ρ},n=i+d->d<q->DO g fin d i a=some e->(Ax f lp q (S (Int.ofNat i) a j)).sem=some (R e):=by
 have stop:∀ {o:Nat} {e:ρ},AdZ f lp o (some (R e))=some (R e):=fun {o e}=>by
  have:=hR e;cases hr:R e with
  | mk x s =>rw [hr] at this;cases x <;> first | exact absurd rfl this | rfl
 intro d
 induction d with
 | zero =>
  intro i a j q e hi hq he;obtain ⟨q,rfl⟩:∃ o,q=o+1:=⟨q-1,by omega⟩;obtain rfl:n=i:=by omega
  simp only [DO,Option.some.injEq] at he;rw [Ae (h0 a j),stop,he]
 | succ d ih =>
  intro i a j q e hi hq he;obtain ⟨q,rfl⟩:∃ o,q=o+1:=⟨q-1,by omega⟩;simp only [DO] at he;split at he
  ·rename_i b hb
   rw [Ae (h i a j _ (by omega) hb)];show (Ax f lp q (S (wr .i64 (Aj (Int.ofNat i) 1)) b λ_=>.und)).sem=_;rw [Tm (show i<n by omega) hn];exact ih (by omega) (by omega) he
  ·rename_i b hb
   rw [Ae (h i a j _ (by omega) hb)];simp only [Option.some.injEq] at he;subst he;exact stop
  ·cases he
def nzE:Ex->Ex
 | .nm=>.rt
 | e=>e
def exR (e:Ex×St):Ex×St:=(nzE e.1,e.2)
theorem Ha (e:Ex×St):(exR e).1 ≠ .nm:=by
 obtain ⟨x,s⟩:=e;cases x <;> exact λh=>by cases h
def K9 (st:St):List (Nat×(Nat->V))->St
 | []=>st
 | (id,g)::l=>K9 (match st.h[id]? with
   | some (.row e s 0 _)=>⟨st.t,st.h.set id (.row e s 0 g)⟩
   | some (.jag j)=>⟨st.t,st.h.set id (.jag { j with mem:=λk q=>bif Nat.blt q (j.len k) then j.mem k q else g q })⟩
   | _=>st) l
theorem MJ {Γ:Cx0}:∀ (l:List (Nat×(Nat->V))) (st:St),LE Γ st (K9 st l)
 | [],st=>LE.refl st
 | (id,g)::l,st=>by
   refine LE.trans ?_ (MJ l _);split
   ·rename_i hb
    exact Afd hb λj hj=>absurd hj (Nat.not_lt_zero _)
   ·rename_i j hb
    exact Afe hb (λ_ _=>rfl) (λ_ _=>rfl) (λ_ _=>rfl) λk _ q hq=>by
     show (bif Nat.blt q (j.len k) then j.mem k q else g q)=_;rw [show Nat.blt q (j.len k)=true from Nat.ble_eq_true_of_le hq];rfl
   ·exact LE.refl st
def C6 (ls:List (Nat×Lp×List (Nat×(Nat->V)))) (id:Nat) (f:St->T (Ex×St)) (st:St):T (Ex×St) :=
 match Jb id ls with
 | some (l,z)=>.ask (Ax f l l.fuel (K9 (FK l.ks l.n st) z)).sem .leaf
 | none=>.fail
theorem MD (c:FuncId->List V->St->T (V×Res)) (G:Nat->V) (ls:List (Nat×Lp×List (Nat×(Nat->V)))):Cb ⟨c,C6 ls,G⟩:=λid f st r hr=>by
 have hr:(C6 ls id f st).sem=some r:=hr;unfold C6 at hr;split at hr
 ·rename_i l z _
  cases hi:(Ax f l l.fuel (K9 (FK l.ks l.n st) z)).sem with
  | none=>rw [hi] at hr; cases hr
  | some r' =>rw [hi] at hr;cases hr;exact .run (.weak ((HG _ _ _).trans (MJ _ _)) (GA hi))
 ·cases hr
def cxA (G:Nat->V) (tbl:AH) (ls:List (Nat×Lp×List (Nat×(Nat->V)))):Cx:=⟨A6 tbl,C6 ls,G⟩
theorem Ba {P:Program} {G:Nat->V} {tbl:AH} (h:Ao P G tbl) (ls:List (Nat×Lp×List (Nat×(Nat->V)))):Bb P (cxA G tbl ls).base∧Cb (cxA G tbl ls):=⟨Ep rfl h,MD _ _ _⟩
theorem Abk {v v':V} {l:List V} (h:∀ (S:Nat->Prop) (w:World) (u:Value),VR S w v noK u->VR S w v' noK u):B0 (v::l) (v'::l):=λS w cs hv=>by
 obtain ⟨c,m,e,q1,q2⟩:=hv;exact ⟨c,m,e,h S w c q1,q2⟩
theorem eN {b c:Bool} (h:b=c):AL b=AL c:=congrArg AL h
theorem eT:true=true:=rfl
theorem eF:false=false:=rfl
theorem eI (x:Int):ieq x x=true:=by simp [ieq]
theorem eJ (n:Nat):Fz n n=true:=Nat.beq_refl n
theorem eG:∀ l:List Nat,Cg (l.map λn=>.jag ⟨0,0,n,λ_=>.und,0,0,0,λ_=>true,λ_=>0,λ_ _=>.und,none⟩)=true
 | []=>rfl
 | n::l=>by simpa [Cg] using eG l
end Go.Sy
namespace Go.Proofs.YtkbgidbledjejaaGreat.Ed
open Go.Sy Go
theorem eL (n:Nat):CQ n (λ_=>true)=true:=Bd.2 λ_ _=>rfl
theorem Ap1 {i n:Nat} (h:i<n):ieq (Int.ofNat n) 0=false:=by simp [ieq]; omega
section
variable {σ ρ:Type} {g:Nat->σ->T (σ ⊕ ρ)} {fin:σ->ρ} {p:Nat->Bool} {a:σ} {x:ρ} {n:Nat} (hc:∀ i,i<n->(g i a).sem=sel (p i) (some (.inl a)) (some (.inr x)))
include hc
theorem Q1:∀ d i,i+d=n->(∀ k,k<i->p k=true)->DO g fin d i a=some (sel (CQ n p) (fin a) x)
 | 0,i,h,hb=>by
  rw [show CQ n p=true from Bd.2 λk hk=>hb k (by omega)];rfl
 | d+1,i,h,hb=>by
  rw [DO,hc i (by omega)];cases hp:p i with
  | true =>
   exact Q1 d (i+1) (by omega) λk hk=>by
    by_cases e:k=i
    ·rw [e]; exact hp
    ·exact hb k (by omega)
  | false =>
   cases ha:CQ n p with
   | false=>rfl
   | true =>have:=Bd.1 ha i (by omega);rw [hp] at this;cases this
theorem ZM (h:CQ n p=true):DO g fin n 0 a=some (fin a):=by
 rw [Q1 hc n 0 (Nat.zero_add n) λ_ h=>absurd h (Nat.not_lt_zero _),h];rfl
theorem Ai6 (h:CQ n p=false):DO g fin n 0 a=some x:=by
 rw [Q1 hc n 0 (Nat.zero_add n) λ_ h=>absurd h (Nat.not_lt_zero _),h];rfl
end
end Go.Proofs.YtkbgidbledjejaaGreat.Ed
namespace Go.Proofs.YtkbgidbledjejaaGreat.Ed
open Go.Sy
def BG (n:Nat):Bool:=decide (n * 40 <= 140737488355328)
section
variable (L:LT)
end
end Go.Proofs.YtkbgidbledjejaaGreat.Ed
namespace Go.Proofs.YtkbgidbledjejaaGreat.Ed
open Go.Sy
end Go.Proofs.YtkbgidbledjejaaGreat.Ed
namespace Go.Proofs.YtkbgidbledjejaaGreat.Ed
open Go.Sy
end Go.Proofs.YtkbgidbledjejaaGreat.Ed
namespace Go.Proofs.YtkbgidbledjejaaGreat.Ed
open Go.Sy
def Mw:List Int->List Int->Int
 | [],[]=>0
 | [],_::_=>-1
 | _::_,[]=>1
 | a::x,b::y=>sel (ilt a b) (-1) (sel (ilt b a) 1 (Mw x y))
theorem OL {a b:Int}:ilt a b=true↔a<b:=by simp [ilt]
theorem Ta (a b:Int) (x y:List Int):(a<b∧Mw (a::x) (b::y) = -1) ∨ (b<a∧Mw (a::x) (b::y)=1) ∨ (a=b∧Mw (a::x) (b::y)=Mw x y):=by
 have h0:Mw (a::x) (b::y)=sel (ilt a b) (-1) (sel (ilt b a) 1 (Mw x y)):=rfl;rw [h0];cases h1:ilt a b with
 | true=>exact .inl ⟨OL.1 h1,rfl⟩
 | false =>
  have h1':¬ a<b:=λh=>by rw [OL.2 h] at h1; cases h1
  cases h2:ilt b a with
  | true=>exact .inr (.inl ⟨OL.1 h2,rfl⟩)
  | false =>
   have h2':¬ b<a:=λh=>by rw [OL.2 h] at h2; cases h2
   exact .inr (.inr ⟨by omega,rfl⟩)
def BH (n:Nat) (f:Nat->E6):List Int:=(List.range n).map λi=>Al (f i)
theorem El (n i:Nat) (f:Nat->E6) (h:i<n):(BH n f).drop i=Al (f i)::(BH n f).drop (i+1):=by
 have hl:i<(BH n f).length:=by simp [BH,h]
 rw [List.drop_eq_getElem_cons hl];simp [BH]
theorem IQ (n i:Nat) (f:Nat->E6) (h:n <= i):(BH n f).drop i=[]:=by
 rw [List.drop_eq_nil_iff];simp [BH,h]
def By (n:Nat) (f:Nat->E6):Bool:=CQ n λi=>ieq (AB (f i)) 0
def Mx (n:Nat) (f:Nat->E6) (m:Nat) (g:Nat->E6):Int:=sel (Av (By n f) (By m g)) 0 30
def EG (n:Nat) (f:Nat->E6) (m:Nat) (g:Nat->E6):Int:=sel (Av (By n f) (By m g)) (Mw (BH n f) (BH m g)) 0
theorem Bw {n:Nat} {f:Nat->E6}:By n f=true↔∀ i,i<n->AB (f i)=0:=by
 unfold By;rw [Bd];simp [ieq]
theorem IP (f g:Nat->E6):∀ d i,FI f g d i=true↔∀ j,i <= j->j<i+d->f j=g j
 | 0,i=>by
  simp only [FI,true_iff];intro j h1 h2; omega
 | d+1,i=>by
  unfold FI;cases h:eqE (f i) (g i) with
  | true =>
   have h0:=(Dd _ _).1 h;show FI f g d (i+1)=true↔_;rw [IP f g d (i+1)];constructor
   ·intro q j h1 h2
    by_cases hj:j=i
    ·subst hj; exact h0
    ·exact q j (by omega) (by omega)
   ·intro q j h1 h2; exact q j (by omega) (by omega)
  | false =>
   constructor
   ·intro q; cases q
   ·intro q
    have:=(Dd _ _).2 (q i (Nat.le_refl _) (by omega));rw [this] at h; cases h
theorem Abg {a b:E6} (ha:AB a=0) (hb:AB b=0) (h:Al a=Al b):a=b:=by
 rcases BK a with ⟨k,_,_,h1,h2,_⟩ | ⟨h1,_⟩
 ·rcases BK b with ⟨j,_,_,g1,g2,_⟩ | ⟨g1,_⟩
  ·rw [h1,g1] at h
   have:=Int.ofNat.inj h;subst this;rw [<- h2,<- g2]
  ·rw [g1] at hb; cases hb
 ·rw [h1] at ha; cases ha
theorem Xh (n:Nat) (f:Nat->E6):EB n f n f=true:=by
 unfold EB;rw [AdV];exact (IP f f n 0).2 λ_ _ _=>rfl
end Go.Proofs.YtkbgidbledjejaaGreat.Ed
namespace Go.Proofs.YtkbgidbledjejaaGreat.Ed
open Go.Sy
open Int (ofNat)
theorem Abo {n:Nat}:CQ n (λ_=>true)=true:=Bd.2 λ_ _=>rfl
def kL (n:Nat):Kn:=⟨CQ n λ_=>true,true,Abo⟩
def BN (g:Nat->V):Nat->Nat->V
 | 0=>λ_=>.und
 | i+1=>AA i (BN g i) (g i)
theorem HQ (g:Nat->V):∀ n j,j<n->BN g n j=g j
 | 0,j,h=>by omega
 | n+1,j,h=>by
  rw [show BN g (n+1) j=AA n (BN g n) (g n) j from rfl,BS];show (bif Nat.beq j n then g n else BN g n j)=_;cases hb:Nat.beq j n with
  | true =>rw [Nat.eq_of_beq_eq_true hb];rfl
  | false =>have:=Nat.ne_of_beq_eq_false hb;exact HQ g n j (by omega)
theorem NG {i n b c:Nat} (h:i<n) (hb:b <= c) (hn:n * c <= 140737488355328):Ci i 1 b=true:=by
 refine decide_eq_true ?_;have h1:(i+1) * b <= n * b:=Nat.mul_le_mul_right b (by omega);have h2:n * b <= n * c:=Nat.mul_le_mul_left n hb;omega
theorem Ey {n:Nat} (hn:BG n=true):n <= 4611686018427387904:=by
 have hn:n * 40 <= 140737488355328:=of_decide_eq_true hn;omega
def X5 (n:Nat) (f:Nat->E6):Lp:=⟨bmK 29 0 [0,2,3,4,9,10,11],2,bmK 29 0 [2,3,4],4,n+1⟩
def WX (n:Nat) (f:Nat->E6) (i k:Nat) (x:Nat->V) (j:Nat->V):St:=⟨jsV 29 0 j [(0,.sl 6 n λi=>eV (f i)),(2,.ref 0),(3,iV 0),(4,.ref 1),(9,.sl 6 n λi=>eV (f i)),(10,nV n),(11,nV i)],[.row 3 1 0 λ_=>.und,.row 3 1 k x]⟩
def Wp (n:Nat) (f:Nat->E6) (i k:Nat) (x:Nat->V):Ex×St:=(.ex 0,⟨jsV 29 0 Ac [(2,.ref 0),(3,iV 0),(4,.ref 1)],[.row 3 1 0 λ_=>.und,.row 3 1 k x]⟩)
def QJ (n:Nat) (f:Nat->E6) (i k:Nat) (x:Nat->V):Ex×St:=(.rt,⟨jsV 29 0 Ac [(2,.ref 3),(3,iV (AB (f i))),(4,.ref 1)],[.row 3 1 0 λ_=>.und,.row 3 1 k x,.cells [iV (f i).kind,bV (f i).ext,bV (f i).same,iV (f i).src,iV (f i).dst,iV (f i).fence],.row 3 1 0 λ_=>.und]⟩)
noncomputable def Lc (L:LT):St->T (Ex×St):=λst=>A8 tab ⟨A6 tb8,L,Gl⟩ (A0 Tryz.f93 0) 0 st
theorem O9 (L:LT) (n:Nat) (f:Nat->E6) (i k:Nat) (x:Nat->V) (j:Nat->V):Ap (Lc L) (X5 n f) (WX n f i k x j)
 = (sel (ilt (ofNat i) (ofNat n)) (sel (Av (ile 0 (ofNat i)) (ilt (ofNat i) (ofNat n))) (sel (AL (ieq (AB (f i)) 0)) (some (.rt,⟨[.und,.und,.ref 3,iV (AB (f i)),.ref 1,.und,.und,.und,.und,.und,.und,.und,.und,.und,.und,.und,.und,.und,.und,.und,.und,.und,.und,.und,.und,.und,.und,.und,.und],[.row 3 1 0 Ac,.row 3 1 k x,.cells [iV (f i).kind,bV (f i).ext,bV (f i).same,iV (f i).src,iV (f i).dst,iV (f i).fence],.row 3 1 0 Ac]⟩)) (sel (Ci k 1 8) (some (.nm,⟨[.sl 6 n (λi=>eV (f i)),.und,.ref 0,iV 0,.ref 1,.und,.und,.und,.und,.sl 6 n (λi=>eV (f i)),nV n,iV (wr .i64 (Aj (ofNat i) 1)),.und,.und,.und,.und,.und,.und,.und,.und,.und,.und,.und,.und,.und,.und,.und,.und,.und],[.row 3 1 0 Ac,.row 3 1 (Bh k 1) (AA k x (iV (Al (f i))))]⟩)) none)) none) (some ((.ex 0),⟨[.und,.und,.ref 0,iV 0,.ref 1,.und,.und,.und,.und,.und,.und,.und,.und,.und,.und,.und,.und,.und,.und,.und,.und,.und,.und,.und,.und,.und,.und,.und,.und],[.row 3 1 0 Ac,.row 3 1 k x]⟩))):=by kernel_rfl
def AaM (n:Nat) (f:Nat->E6) :Nat->V:=lkV A5 []
section
variable (L:LT) (p0:PT) (n:Nat) (f:Nat->E6) (i k:Nat) (x:Nat->V)
include L p0 n f i k x
theorem AbB:(AK (Ar tab ⟨A6 tb8,onP 0 p0 (Wp n f i k x) L,Gl⟩ Tryz.f93 [Am n f] [])).path [true]=some ([p0 (Lc (onP 0 p0 (Wp n f i k x) L)) (WX n f 0 0 Ac (AaM n f ))],((.tup [.ref 0,iV 0]),[.row 3 1 k x])):=by kernel_rfl
theorem AiO  (hp0:p0 (Lc (onP 0 p0 (Wp n f i k x) L)) (WX n f 0 0 Ac (AaM n f ))=true):(AK (Ar tab ⟨A6 tb8,onP 0 p0 (Wp n f i k x) L,Gl⟩ Tryz.f93 [Am n f] [])).sem=some ((.tup [.ref 0,iV 0]),[.row 3 1 k x]) :=
 A9 (AbB L p0 n f i k x) (by simp only [hp0] <;> rfl)
theorem AbA:(AK (Ar tab ⟨A6 tb8,onP 0 p0 (QJ n f i k x) L,Gl⟩ Tryz.f93 [Am n f] [])).path [true]=some ([p0 (Lc (onP 0 p0 (QJ n f i k x) L)) (WX n f 0 0 Ac (AaM n f ))],((.tup [.ref 0,iV (AB (f i))]),[.row 3 1 0 Ac])):=by kernel_rfl
theorem AiN  (hp0:p0 (Lc (onP 0 p0 (QJ n f i k x) L)) (WX n f 0 0 Ac (AaM n f ))=true):(AK (Ar tab ⟨A6 tb8,onP 0 p0 (QJ n f i k x) L,Gl⟩ Tryz.f93 [Am n f] [])).sem=some ((.tup [.ref 0,iV (AB (f i))]),[.row 3 1 0 Ac]) :=
 A9 (AbA L p0 n f i k x) (by simp only [hp0] <;> rfl)
end
def cdV (f:Nat->E6):Nat->V:=λi=>iV (Al (f i))
theorem Ac1 (L:LT) (n:Nat) (f:Nat->E6) (hn:BG n=true) (ho:∀ t,t<n->AB (f t)=0):∀ (d i:Nat) (j:Nat->V) (q:Nat),n=i+d->d<q ->
  (Ax (Lc L) (X5 n f) q (WX n f i i (BN (cdV f) i) j)).sem=some (Wp n f 0 n (BN (cdV f) n))
 | 0,i,j,q+1,h1,_=>by
  have hi:i=n:=by omega
  subst hi;rw [Ae (O9 L i f i i _ j),A4 (Nat.le_refl i)];rfl
 | d+1,i,j,q+1,h1,h2=>by
  have hi:i<n:=by omega
  rw [Ae (O9 L n f i i _ j),Af hi,ofNat_lt hi,NG hi (by decide) (of_decide_eq_true hn),AY hi (Ey hn),ho i hi];exact Ac1 L n f hn ho d (i+1) Ac q (by omega) (by omega)
theorem Ac0 (L:LT) (n:Nat) (f:Nat->E6) (hn:BG n=true) (e:Nat) (he:e<n) (hb:AB (f e)=30) (ho:∀ t,t<e->AB (f t)=0):∀ (d i:Nat) (j:Nat->V) (q:Nat),e=i+d->d<q ->
  (Ax (Lc L) (X5 n f) q (WX n f i i (BN (cdV f) i) j)).sem=some (QJ n f e e (BN (cdV f) e))
 | 0,i,j,q+1,h1,_=>by
  have hi:i=e:=by omega
  subst hi;rw [Ae (O9 L n f i i _ j),Af he,ofNat_lt he,hb];show some _=some (QJ n f i i _);unfold QJ;rw [hb] <;> rfl
 | d+1,i,j,q+1,h1,h2=>by
  have hi:i<n:=by omega
  rw [Ae (O9 L n f i i _ j),Af hi,ofNat_lt hi,NG hi (by decide) (of_decide_eq_true hn),AY hi (Ey hn),ho i (by omega)];exact Ac0 L n f hn e he hb ho d (i+1) Ac q (by omega) (by omega)
theorem Mk (p:Nat->Bool):∀ n,CQ n p=false->∃ e,e<n∧p e=false∧∀ t,t<e->p t=true
 | 0,h=>by cases h
 | n+1,h=>by
  cases hn:CQ n p with
  | false =>obtain ⟨e,h1,h2,h3⟩:=Mk p n hn;exact ⟨e,by omega,h2,h3⟩
  | true =>
   refine ⟨n,by omega,?_,λt ht=>Bd.1 hn t ht⟩;cases hp:p n with
   | false=>rfl
   | true =>
    have:CQ (n+1) p=true:=Bd.2 λi hi=>by
     by_cases hi':i=n
     ·rw [hi',hp]
     ·exact Bd.1 hn i (by omega)
    rw [this] at h; cases h
theorem Ae8 {e:E6} (h:AB e ≠ 0):AB e=30:=by
 rcases BK e with ⟨_,_,h1,_⟩ | ⟨h1,_⟩
 ·exact absurd h1 h
 ·exact h1
theorem PW {n:Nat} {f:Nat->E6} (h:By n f=false):∃ e,e<n∧AB (f e)=30∧∀ t,t<e->AB (f t)=0:=by
 obtain ⟨e,h1,h2,h3⟩:=Mk _ n h;refine ⟨e,h1,Ae8 λh0=>?_,λt ht=>by simpa [ieq] using h3 t ht⟩;rw [h0] at h2;cases h2
def U1:List V->A2:=NI λn f=>.br (BG n) (.br (By n f) (.leaf (.tup [.ref 0,iV 0],[.row 3 1 n λi=>iV (Al (f i))])) (.leaf (.tup [.ref 0,iV 30],[.row 3 1 0 λ_=>.und]))) .fail
theorem p81:As Tryz.prog Gl 93 U1:=by
 refine Ah Az mixed Tryz.func93 (by kernel_rfl) (by kernel_rfl) λvs v h' h=>?_;obtain ⟨n,f,ha,h⟩:=CH h;obtain ⟨hn,h⟩:=Ab h;have hx:=Bm Po [(0,X5 n f)];cases hm:By n f with
 | true =>
  rw [hm] at h;have:=Aa h;simp only [Prod.mk.injEq] at this;obtain ⟨rfl,rfl⟩:=this;exact ⟨_,cx9 [(0,X5 n f)],_,ha,rfl,hx.1,hx.2,Bp (Bn (AW _) (AW _)) _ (AiO _ _ n f 0 n _ (AP (Ac1 _ n f hn (Bw.1 hm) n 0 (AaM n f) (n+1) (by omega) (by omega)))),
   Au.one λj hj=>(HQ (cdV f) n j hj).symm⟩
 | false =>rw [hm] at h;have:=Aa h;simp only [Prod.mk.injEq] at this;obtain ⟨rfl,rfl⟩:=this;obtain ⟨e,h1,h2,h3⟩:=PW hm;have hw:=Bp (Bn (AW _) (AW _)) _ (AiN (B9 [(0,X5 n f)]) _ n f e e _ (AP (Ac0 _ n f hn e h1 h2 h3 e 0 (AaM n f) (n+1) (by omega) (by omega))));rw [h2] at hw;exact ⟨_,cx9 [(0,X5 n f)],_,ha,rfl,hx.1,hx.2,hw,Au.refl _⟩
end Go.Proofs.YtkbgidbledjejaaGreat.Ed
namespace Go.Proofs.YtkbgidbledjejaaGreat.Ed
open Go.Sy
end Go.Proofs.YtkbgidbledjejaaGreat.Ed
namespace Go.Proofs.YtkbgidbledjejaaGreat.Ed
open Go.Sy
open Int (ofNat)
def D6 (e:E6):Bool:=Av (ile 1 e.kind) (ile e.kind 3)
def BX (e:E6):Bool:=Av (D6 e) e.ext
def BM (e:E6):Bool:=Av (AL (D6 e)) (AL e.same)
theorem Afu (e:E6):(AK (Ar tab (BP Gl [] []) Tryz.f109 [eV e] [])).sem=(sel (ile 1 (e).kind) (sel (ile 1 (e).kind) (sel (ile 1 (e).kind) (sel (ile 1 (e).kind) (some ((bV (ile (e).kind 3)),[])) (some ((bV false),[]))) (sel (ile 1 (e).kind) (some (A5,[])) (some ((bV false),[])))) (sel (ile 1 (e).kind) none (sel (ile 1 (e).kind) (some (A5,[])) (some ((bV false),[]))))) (sel (ile 1 (e).kind) none (sel (ile 1 (e).kind) none (sel (ile 1 (e).kind) (some (A5,[])) (some ((bV false),[])))))):=by kernel_rfl
theorem p108:As Tryz.prog Gl 109 (Co λe=>bV (D6 e)):=by
 refine As.congr (AO Az mixed Tryz.func109 (by kernel_rfl) (by kernel_rfl) (Γ:=BP Gl [] []) (Bm Ao.nil _)) λvs r h=>?_;obtain ⟨e,rfl,rfl⟩:=Dy h;refine (Afu e).trans ?_;unfold D6;cases ile 1 e.kind <;> rfl
theorem FN (i:Nat):ile 0 (ofNat i)=true:=OF (by simp)
noncomputable def AbS:AH:=(109,Co λe=>bV (D6 e))::[]
theorem Y5:Ao Tryz.prog Gl AbS:=.cons p108 .nil
theorem AiS (e:E6):(AK (Ar tab (BP Gl AbS []) Tryz.f87 [eV e] [])).sem=(sel (D6 e) (sel (D6 e) (sel (D6 e) (some ((bV (e).ext),[])) (some ((bV false),[]))) (sel (D6 e) (some (A5,[])) (some ((bV false),[])))) (sel (D6 e) none (sel (D6 e) (some (A5,[])) (some ((bV false),[]))))):=by kernel_rfl
theorem p88:As Tryz.prog Gl 87 (Co λe=>bV (BX e)):=by
 refine As.congr (AO Az mixed Tryz.func87 (by kernel_rfl) (by kernel_rfl) (Γ:=BP Gl AbS []) (Bm Y5 _)) λvs r h=>?_;obtain ⟨e,rfl,rfl⟩:=Dy h;refine (AiS e).trans ?_;unfold BX;cases D6 e <;> rfl
theorem AiR (e:E6):(AK (Ar tab (BP Gl AbS []) Tryz.f88 [eV e] [])).sem=(sel (AL (D6 e)) (sel (AL (D6 e)) (sel (AL (D6 e)) (sel (AL (D6 e)) (some ((bV (AL (e).same)),[])) (some ((bV false),[]))) (sel (AL (D6 e)) (some (A5,[])) (some ((bV false),[])))) (sel (AL (D6 e)) none (sel (AL (D6 e)) (some (A5,[])) (some ((bV false),[]))))) (sel (AL (D6 e)) none (sel (AL (D6 e)) none (sel (AL (D6 e)) (some (A5,[])) (some ((bV false),[])))))):=by kernel_rfl
theorem p89:As Tryz.prog Gl 88 (Co λe=>bV (BM e)):=by
 refine As.congr (AO Az mixed Tryz.func88 (by kernel_rfl) (by kernel_rfl) (Γ:=BP Gl AbS []) (Bm Y5 _)) λvs r h=>?_;obtain ⟨e,rfl,rfl⟩:=Dy h;refine (AiR e).trans ?_;unfold BM;cases D6 e <;> rfl
theorem Wv (e:E6):D6 e=bor (ieq e.kind 1) (bor (ieq e.kind 2) (ieq e.kind 3)):=by
 unfold D6;rw [Bool.eq_iff_iff];simp [Av,bor,ile,ieq];omega
theorem AiU (e:E6):(AK (Ar tab (BP Gl [] []) Tryz.f47 [eV e] [])).sem=(sel (ieq (e).kind 1) (sel (ieq (e).kind 1) (sel (ieq (e).kind 1) (sel (ieq (e).kind 1) (some ((bV (e).ext),[])) none) none) none) (sel (ieq (e).kind 1) (sel (ieq (e).kind 1) (sel (ieq (e).kind 1) (some ((bV (e).ext),[])) none) none) (sel (ieq (e).kind 1) (sel (ieq (e).kind 1) (some ((bV (e).ext),[])) none) (sel (ieq (e).kind 1) (some ((bV (e).ext),[])) (sel (ieq (e).kind 2) (sel (ieq (e).kind 2) (sel (ieq (e).kind 2) (sel (ieq (e).kind 2) (some ((bV (e).ext),[])) none) none) none) (sel (ieq (e).kind 2) (sel (ieq (e).kind 2) (sel (ieq (e).kind 2) (some ((bV (e).ext),[])) none) none) (sel (ieq (e).kind 2) (sel (ieq (e).kind 2) (some ((bV (e).ext),[])) none) (sel (ieq (e).kind 2) (some ((bV (e).ext),[])) (sel (ieq (e).kind 3) (sel (ieq (e).kind 3) (sel (ieq (e).kind 3) (some ((bV (e).ext),[])) (some ((bV false),[]))) (sel (ieq (e).kind 3) (some (A5,[])) (some ((bV false),[])))) (sel (ieq (e).kind 3) none (sel (ieq (e).kind 3) (some (A5,[])) (some ((bV false),[]))))))))))))):=by kernel_rfl
theorem p60:As Tryz.prog Gl 47 (Co λe=>bV (BX e)):=by
 refine As.congr (AO Az mixed Tryz.func47 (by kernel_rfl) (by kernel_rfl) (Γ:=BP Gl [] []) (Bm Ao.nil _)) λvs r h=>?_;obtain ⟨e,rfl,rfl⟩:=Dy h;refine (AiU e).trans ?_;unfold BX;rw [Wv];cases ieq e.kind 1 <;> cases ieq e.kind 2 <;> cases ieq e.kind 3 <;> rfl
theorem AiT (e:E6):(AK (Ar tab (BP Gl [] []) Tryz.f48 [eV e] [])).sem=(sel (AL (ieq (e).kind 1)) (sel (AL (ieq (e).kind 1)) (sel (AL (ieq (e).kind 1)) (sel (AL (ieq (e).kind 1)) (sel (AL (ieq (e).kind 2)) (sel (AL (ieq (e).kind 2)) (sel (AL (ieq (e).kind 2)) (sel (AL (ieq (e).kind 2)) (sel (AL (ieq (e).kind 3)) (sel (AL (ieq (e).kind 3)) (sel (AL (ieq (e).kind 3)) (sel (AL (ieq (e).kind 3)) (some ((bV (AL (e).same)),[])) (some ((bV false),[]))) (sel (AL (ieq (e).kind 3)) (some (A5,[])) (some ((bV false),[])))) (sel (AL (ieq (e).kind 3)) none (sel (AL (ieq (e).kind 3)) (some (A5,[])) (some ((bV false),[]))))) (sel (AL (ieq (e).kind 3)) none (sel (AL (ieq (e).kind 3)) none (sel (AL (ieq (e).kind 3)) (some (A5,[])) (some ((bV false),[])))))) (some ((bV false),[]))) (sel (AL (ieq (e).kind 2)) none (some ((bV false),[])))) (sel (AL (ieq (e).kind 2)) none (sel (AL (ieq (e).kind 2)) none (some ((bV false),[]))))) (sel (AL (ieq (e).kind 2)) none (sel (AL (ieq (e).kind 2)) none (sel (AL (ieq (e).kind 2)) none (some ((bV false),[])))))) (some ((bV false),[]))) (sel (AL (ieq (e).kind 1)) none (some ((bV false),[])))) (sel (AL (ieq (e).kind 1)) none (sel (AL (ieq (e).kind 1)) none (some ((bV false),[]))))) (sel (AL (ieq (e).kind 1)) none (sel (AL (ieq (e).kind 1)) none (sel (AL (ieq (e).kind 1)) none (some ((bV false),[])))))):=by kernel_rfl
theorem p61:As Tryz.prog Gl 48 (Co λe=>bV (BM e)):=by
 refine As.congr (AO Az mixed Tryz.func48 (by kernel_rfl) (by kernel_rfl) (Γ:=BP Gl [] []) (Bm Ao.nil _)) λvs r h=>?_;obtain ⟨e,rfl,rfl⟩:=Dy h;refine (AiT e).trans ?_;unfold BM;rw [Wv];cases ieq e.kind 1 <;> cases ieq e.kind 2 <;> cases ieq e.kind 3 <;> rfl
noncomputable def tbY:AH:=(45,Co λe=>iV (AB e))::(87,Co λe=>bV (BX e))::(88,Co λe=>bV (BM e))::[]
theorem WP:Ao Tryz.prog Gl tbY:=.cons p29 <| .cons p88 <| .cons p89 .nil
def Qb (n:Nat) (f:Nat->E6):Lp:=⟨bmK 21 0 [1,5,8,9,10],0,bmK 21 0 [5],0,n+1⟩
def US (n:Nat) (f:Nat->E6) (s:Int) (i:Nat) (j:Nat->V):St:=⟨jsV 21 0 j [(1,.fn 87 []),(5,iV s),(8,.sl 6 n (λi=>eV (f i))),(9,nV n),(10,nV i)],[]⟩
def XU (n:Nat) (f:Nat->E6) (s:Int) (i:Nat):Ex×St:=(.ex 0,⟨jsV 21 0 Ac [(5,iV s)],[]⟩)
noncomputable def M7 (L:LT):St->T (Ex×St):=λst=>A8 tab ⟨A6 tbY,L,Gl⟩ (A0 Tryz.f86 0) 0 st
section
variable (L:LT) (n:Nat) (f:Nat->E6) (s:Int) (i:Nat)  (j:Nat->V)
include L n f s i j
theorem Aj8 (h0:ilt (ofNat i) (ofNat n)=false):Ap (M7 L) (Qb n f) (US n f s i j)=some ((.ex 0),⟨jsV 21 0 Ac [(5,iV s)],[]⟩):=by
 exact Ag (ks:=[kn h0]) (by kernel_rfl)
theorem Aj6 (h0:ilt (ofNat i) (ofNat n)=true) (h10:ile 0 (ofNat i)=true) (h1:BX (f i)=true):Ap (M7 L) (Qb n f) (US n f s i j)=some (.nm,⟨jsV 21 0 Ac [(1,.fn 87 []),(5,iV (wr .i64 (Aj s 1))),(8,.sl 6 n (λi=>eV (f i))),(9,nV n),(10,iV (wr .i64 (Aj (ofNat i) 1)))],[]⟩):=by
 exact Ag (ks:=[kn h0,kA (kn h10) (kn h0),kn h1]) (by kernel_rfl)
theorem Aj7 (h0:ilt (ofNat i) (ofNat n)=true) (h10:ile 0 (ofNat i)=true) (h1:BX (f i)=false):Ap (M7 L) (Qb n f) (US n f s i j)=some (.nm,⟨jsV 21 0 Ac [(1,.fn 87 []),(5,iV s),(8,.sl 6 n (λi=>eV (f i))),(9,nV n),(10,iV (wr .i64 (Aj (ofNat i) 1)))],[]⟩):=by
 exact Ag (ks:=[kn h0,kA (kn h10) (kn h0),kn h1]) (by kernel_rfl)
end
def An3 (n:Nat) (f:Nat->E6) :Nat->V:=lkV A5 [(0,.sl 6 n (λi=>eV (f i))),(4,iV 0)]
theorem Alu (L:LT) (p0:PT) (n:Nat) (f:Nat->E6) (s:Int) (i:Nat)  (hp0:p0 (M7 (onP 0 p0 (XU n f s i) L)) (US n f 0 0 (An3 n f ))=true):(AK (Ar tab ⟨A6 tbY,onP 0 p0 (XU n f s i) L,Gl⟩ Tryz.f86 [Am n f,.fn 87 []] [])).sem=some ((iV s),[]):=by
 exact Ag (ks:=[kn hp0]) (by kernel_rfl)
def Qc (n:Nat) (f:Nat->E6):Lp:=⟨bmK 21 0 [1,5,8,9,10],0,bmK 21 0 [5],0,n+1⟩
def UT (n:Nat) (f:Nat->E6) (s:Int) (i:Nat) (j:Nat->V):St:=⟨jsV 21 0 j [(1,.fn 88 []),(5,iV s),(8,.sl 6 n (λi=>eV (f i))),(9,nV n),(10,nV i)],[]⟩
def XV (n:Nat) (f:Nat->E6) (s:Int) (i:Nat):Ex×St:=(.ex 0,⟨jsV 21 0 Ac [(5,iV s)],[]⟩)
noncomputable def M8 (L:LT):St->T (Ex×St):=λst=>A8 tab ⟨A6 tbY,L,Gl⟩ (A0 Tryz.f86 0) 0 st
section
variable (L:LT) (n:Nat) (f:Nat->E6) (s:Int) (i:Nat)  (j:Nat->V)
include L n f s i j
theorem AjB (h0:ilt (ofNat i) (ofNat n)=false):Ap (M8 L) (Qc n f) (UT n f s i j)=some ((.ex 0),⟨jsV 21 0 Ac [(5,iV s)],[]⟩):=by
 exact Ag (ks:=[kn h0]) (by kernel_rfl)
theorem Aj9 (h0:ilt (ofNat i) (ofNat n)=true) (h10:ile 0 (ofNat i)=true) (h1:BM (f i)=true):Ap (M8 L) (Qc n f) (UT n f s i j)=some (.nm,⟨jsV 21 0 Ac [(1,.fn 88 []),(5,iV (wr .i64 (Aj s 1))),(8,.sl 6 n (λi=>eV (f i))),(9,nV n),(10,iV (wr .i64 (Aj (ofNat i) 1)))],[]⟩):=by
 exact Ag (ks:=[kn h0,kA (kn h10) (kn h0),kn h1]) (by kernel_rfl)
theorem AjA (h0:ilt (ofNat i) (ofNat n)=true) (h10:ile 0 (ofNat i)=true) (h1:BM (f i)=false):Ap (M8 L) (Qc n f) (UT n f s i j)=some (.nm,⟨jsV 21 0 Ac [(1,.fn 88 []),(5,iV s),(8,.sl 6 n (λi=>eV (f i))),(9,nV n),(10,iV (wr .i64 (Aj (ofNat i) 1)))],[]⟩):=by
 exact Ag (ks:=[kn h0,kA (kn h10) (kn h0),kn h1]) (by kernel_rfl)
end
def An4 (n:Nat) (f:Nat->E6) :Nat->V:=lkV A5 [(0,.sl 6 n (λi=>eV (f i))),(4,iV 0)]
theorem Alv (L:LT) (p0:PT) (n:Nat) (f:Nat->E6) (s:Int) (i:Nat)  (hp0:p0 (M8 (onP 0 p0 (XV n f s i) L)) (UT n f 0 0 (An4 n f ))=true):(AK (Ar tab ⟨A6 tbY,onP 0 p0 (XV n f s i) L,Gl⟩ Tryz.f86 [Am n f,.fn 88 []] [])).sem=some ((iV s),[]):=by
 exact Ag (ks:=[kn hp0]) (by kernel_rfl)
def AD (p:Nat->Bool):Nat->Nat
 | 0=>0
 | i+1=>match p i with
  | true=>AD p i+1
  | false=>AD p i
theorem EO (p:Nat->Bool):∀ i,AD p i <= i
 | 0=>Nat.le_refl _
 | i+1=>by
  have:=EO p i;unfold AD;split <;> omega
theorem Xi (L:LT) (n:Nat) (f:Nat->E6) (hn:n <= 4611686018427387904):∀ (e i:Nat) (j:Nat->V) (q:Nat),n=i+e->e<q ->
  (Ax (M7 L) (Qb n f) q (US n f (ofNat (AD (λk=>BX (f k)) i)) i j)).sem=some (XU n f (ofNat (AD (λk=>BX (f k)) n)) 0)
 | 0,i,j,q+1,h,_=>by
  have:n=i:=by omega
  subst this;exact Ae (Aj8 L n f _ _ j (A4 (Nat.le_refl _)))
 | e+1,i,j,q+1,h,h2=>by
  have hc:=EO (λk=>BX (f k)) i;cases hp:BX (f i) with
  | true =>
   rw [Ae (Aj6 L n f _ i j (ofNat_lt (by omega)) (FN _) hp),AN,AY (show i<n by omega) hn,AY (show AD (λk=>BX (f k)) i<n by omega) hn,
    show AD (λk=>BX (f k)) i+1=AD (λk=>BX (f k)) (i+1) by rw [AD,hp]]
   exact Xi L n f hn e (i+1) Ac q (by omega) (by omega)
  | false =>
   rw [Ae (Aj7 L n f _ i j (ofNat_lt (by omega)) (FN _) hp),AN,AY (show i<n by omega) hn,
    show AD (λk=>BX (f k)) i=AD (λk=>BX (f k)) (i+1) by rw [AD,hp]]
   exact Xi L n f hn e (i+1) Ac q (by omega) (by omega)
theorem Xj (L:LT) (n:Nat) (f:Nat->E6) (hn:n <= 4611686018427387904):∀ (e i:Nat) (j:Nat->V) (q:Nat),n=i+e->e<q ->
  (Ax (M8 L) (Qc n f) q (UT n f (ofNat (AD (λk=>BM (f k)) i)) i j)).sem=some (XV n f (ofNat (AD (λk=>BM (f k)) n)) 0)
 | 0,i,j,q+1,h,_=>by
  have:n=i:=by omega
  subst this;exact Ae (AjB L n f _ _ j (A4 (Nat.le_refl _)))
 | e+1,i,j,q+1,h,h2=>by
  have hc:=EO (λk=>BM (f k)) i;cases hp:BM (f i) with
  | true =>
   rw [Ae (Aj9 L n f _ i j (ofNat_lt (by omega)) (FN _) hp),AN,AY (show i<n by omega) hn,AY (show AD (λk=>BM (f k)) i<n by omega) hn,
    show AD (λk=>BM (f k)) i+1=AD (λk=>BM (f k)) (i+1) by rw [AD,hp]]
   exact Xj L n f hn e (i+1) Ac q (by omega) (by omega)
  | false =>
   rw [Ae (AjA L n f _ i j (ofNat_lt (by omega)) (FN _) hp),AN,AY (show i<n by omega) hn,
    show AD (λk=>BM (f k)) i=AD (λk=>BM (f k)) (i+1) by rw [AD,hp]]
   exact Xj L n f hn e (i+1) Ac q (by omega) (by omega)
def Yh:List V->A2
 | [v,.fn g []]=>apL v λn f=>.br (Cr n) (match Nat.beq g 87,Nat.beq g 88 with
  | true,_=>out (iV (ofNat (AD (λk=>BX (f k)) n)))
  | false,true=>out (iV (ofNat (AD (λk=>BM (f k)) n)))
  | false,false=>.fail) .fail
 | _=>.fail
theorem p87:As Tryz.prog Gl 86 Yh:=by
 refine Ah Az mixed Tryz.func86 (by kernel_rfl) (by kernel_rfl) λvs v h' h=>?_;unfold Yh at h;split at h
 ·rename_i u g
  obtain ⟨n,f,ha,h1⟩:=AQ h;obtain ⟨hn,hq⟩:=Ab h1;clear h h1;have hn:n <= 4611686018427387904:=of_decide_eq_true hn;have hA:B0 [u,.fn g []] [Am n f,.fn g []]:=λS w cs hv=>by
   obtain ⟨c,l,rfl,q1,q2⟩:=hv;exact ⟨c,l,rfl,ha S w c q1,q2⟩
  split at hq
  ·rename_i h1
   have h1:=Nat.eq_of_beq_eq_true h1;subst h1;have:=Aa hq;simp only [Prod.mk.injEq] at this;obtain ⟨rfl,rfl⟩:=this;have hx:=Bm WP [(0,Qb n f)];have hL:=AW [(0,Qb n f)];exact ⟨_,BP Gl tbY [(0,Qb n f)],[],hA,rfl,hx.1,hx.2,Bp (Bn hL hL) _ (Alu _ _ n f _ 0 (AP (Xi _ n f hn n 0 _ (n+1) (by omega) (by omega)))),Au.refl _⟩
  ·rename_i h2
   have h2:=Nat.eq_of_beq_eq_true h2;subst h2;have:=Aa hq;simp only [Prod.mk.injEq] at this;obtain ⟨rfl,rfl⟩:=this;have hx:=Bm WP [(0,Qc n f)];have hL:=AW [(0,Qc n f)];exact ⟨_,BP Gl tbY [(0,Qc n f)],[],hA,rfl,hx.1,hx.2,Bp (Bn hL hL) _ (Alv _ _ n f _ 0 (AP (Xj _ n f hn n 0 _ (n+1) (by omega) (by omega)))),Au.refl _⟩
  ·cases hq
 ·cases h
end Go.Proofs.YtkbgidbledjejaaGreat.Ed
namespace Go.Sy
end Go.Sy
