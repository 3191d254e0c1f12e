/-
  A function's tree held against its closed form: one derivation for all its ways. Conditions: none.
-/
import Derived.Test.YtkbgidbledjejaaGreatSyR
namespace Go.Sy
inductive DT (α:Type) where
 | lf (a:α)
 | fl
 | kn (b c:Bool) (d:DT α)
 | ak (o:Option (Ex×St)) (r:Ex×St) (d:DT α)
 | sp (d e:DT α)
def DT.cs {α:Type}:DT α->List Bool
 | .lf _=>[]
 | .fl=>[]
 | .kn b _ d=>b::d.cs
 | .ak _ _ d=>d.cs
 | .sp d e=>d.cs++e.cs
def DT.os {α:Type}:DT α->List (Option (Ex×St))
 | .lf _=>[]
 | .fl=>[]
 | .kn _ _ d=>d.os
 | .ak o _ d=>o::d.os
 | .sp d e=>d.os++e.os
def DT.ls {α:Type}:DT α->List α
 | .lf a=>[a]
 | .fl=>[]
 | .kn _ _ d=>d.ls
 | .ak _ _ d=>d.ls
 | .sp d e=>d.ls++e.ls
def DT.run {α:Type}:DT α->T α->Option (List Bool×List (Option (Ex×St))×List α)
 | .lf _,.leaf a=>some ([],[],[a])
 | .fl,_=>some ([],[],[])
 | .kn _ c d,.br b x y=>match (match c with | true=>d.run x | false=>d.run y) with
  | some (cs,os,ls)=>some (b::cs,os,ls)
  | none=>none
 | .ak _ r d,.ask o k=>match d.run (k r) with
  | some (cs,os,ls)=>some (cs,o::os,ls)
  | none=>none
 | .sp d e,t=>match d.run t,e.run t with
  | some (cs,os,ls),some (cs',os',ls')=>some (cs++cs',os++os',ls++ls')
  | _,_=>none
 | _,_=>none
inductive DK {α β:Type} (L:β->α):T β->DT α->Prop where
 | e {a:β} {b:α} (h:b=L a):DK L (.leaf a) (.lf b)
 | f:DK L .fail .fl
 | k {C:T β} {b c:Bool} {d:DT α} (h:b=c) (w:DK L C d):DK L C (.kn b c d)
 | a {C:T β} {o:Option (Ex×St)} {r:Ex×St} {d:DT α} (h:o=some r) (w:DK L C d):DK L C (.ak o r d)
 | c {b:Bool} {X Y:T β} {d e:DT α} (w:b=true->DK L X d) (u:b=false->DK L Y e):DK L (.br b X Y) (.sp d e)
 | g {b:Bool} {X:T β} {d:DT α} (w:b=true->DK L X d):DK L (.br b X .fail) d
def DT.knR {α:Type}:Nat->Bool->Bool->DT α->DT α
 | 0,_,_,d=>d
 | n+1,b,c,d=>.kn b c (knR n b c d)
theorem DK.r {α β:Type} {L:β->α} {C:T β} {b c:Bool} {d:DT α} (n:Nat) (h:b=c) (w:DK L C d):DK L C (DT.knR n b c d):=by
 induction n with
 | zero=>exact w
 | succ n ih=>exact .k h ih
theorem DK.l {α β:Type} {L:β->α} {a:β}:DK L (.leaf a) (.lf (L a)):=.e rfl
theorem DT.run_len {α:Type} {d:DT α}:∀ {t:T α} {cs:List Bool} {os:List (Option (Ex×St))} {ls:List α},d.run t=some (cs,os,ls)->cs.length=d.cs.length∧os.length=d.os.length∧ls.length=d.ls.length:=by
 induction d with
 | lf a =>intro t cs os ls h;cases t <;> cases h;exact ⟨rfl,rfl,rfl⟩
 | fl=>intro t cs os ls h; simp only [DT.run] at h; cases h; exact ⟨rfl,rfl,rfl⟩
 | kn b c d ih =>
  intro t cs os ls h;cases t with
  | br b' x y =>
   simp only [DT.run] at h;split at h
   ·rename_i cs' os' ls' hr
    cases h;cases c <;> (obtain ⟨e1,e2⟩:=ih hr; exact ⟨congrArg Nat.succ e1,e2⟩)
   ·cases h
  | _=>cases h
 | ak o r d ih =>
  intro t cs os ls h;cases t with
  | ask o' k =>
   simp only [DT.run] at h;split at h
   ·rename_i hr
    cases h;obtain ⟨e1,e2,e3⟩:=ih hr;exact ⟨e1,congrArg Nat.succ e2,e3⟩
   ·cases h
  | _=>cases h
 | sp d e ih ih' =>
  intro t cs os ls h;simp only [DT.run] at h;split at h
  ·rename_i hx hy
   cases h;obtain ⟨e1,e2,e3⟩:=ih hx;obtain ⟨f1,f2,f3⟩:=ih' hy;simp only [DT.cs,DT.os,DT.ls,List.length_append,e1,e2,e3,f1,f2,f3,and_self]
  ·cases h
theorem DK.ok {α β:Type} {L:β->α} {C:T β} {d:DT α} (w:DK L C d):∀ {t:T α},d.run t=some (d.cs,d.os,d.ls)->∀ {r:β},C.sem=some r->t.sem=some (L r):=by
 induction w with
 | e hab =>
  intro t h r hr;cases t with
  | leaf b =>simp only [DT.run,DT.cs,DT.os,DT.ls,Option.some.injEq,Prod.mk.injEq,List.cons.injEq,and_true,true_and] at h;subst h;rw [hab];exact congrArg (λo=>o.map L) hr
  | _=>cases h
 | f=>intro t h r hr; cases hr
 | k hb w ih =>
  rename_i C b c d;intro t h r hr;cases t with
  | br b' x y =>
   simp only [DT.run] at h;split at h
   ·rename_i hx
    simp only [DT.cs,DT.os,DT.ls,Option.some.injEq,Prod.mk.injEq,List.cons.injEq] at h;obtain ⟨⟨rfl,rfl⟩,rfl,rfl⟩:=h;subst hb;cases b' with
    | true=>exact ih hx hr
    | false=>exact ih hx hr
   ·cases h
  | _=>cases h
 | a ho w ih =>
  rename_i C o q d;intro t h r hr;cases t with
  | ask o' k =>
   simp only [DT.run] at h;split at h
   ·rename_i hx
    simp only [DT.cs,DT.os,DT.ls,Option.some.injEq,Prod.mk.injEq,List.cons.injEq] at h;obtain ⟨rfl,⟨rfl,rfl⟩,rfl⟩:=h;subst ho;exact ih hx hr
   ·cases h
  | _=>cases h
 | c w u ih ih' =>
  rename_i b X Y d e;intro t h r hr;simp only [DT.run] at h;split at h
  ·rename_i hx hy
   simp only [DT.cs,DT.os,DT.ls,Option.some.injEq,Prod.mk.injEq] at h;obtain ⟨hc,ho,hl⟩:=h;obtain ⟨e1,e2,e3⟩:=DT.run_len hx;obtain ⟨rfl,rfl⟩:=List.append_inj hc e1;obtain ⟨rfl,rfl⟩:=List.append_inj ho e2;obtain ⟨rfl,rfl⟩:=List.append_inj hl e3;cases hb:b with
   | true=>rw [hb] at hr; exact ih hb hx hr
   | false=>rw [hb] at hr; exact ih' hb hy hr
  ·cases h
 | g w ih =>intro t h r hr;obtain ⟨hb,hr⟩:=Ab hr;exact ih hb h hr
theorem DK.of {α:Type} {C t:T α} {r:α} (h:C.sem=some r) {d:DT α} (w:DK (λa=>a) C d) (e:d.run t=some (d.cs,d.os,d.ls)):t.sem=some r:=w.ok e h
def DF {σ ρ:Type} (g:Nat->σ->T (σ ⊕ ρ)) (fin:σ->ρ):Nat->Nat->σ->Option ρ
 | 0,_,a=>some (fin a)
 | d+1,i,a=>match (g i a).sem with
  | some (.inl b)=>DF g fin d (i+1) b
  | some (.inr e)=>some e
  | none=>none
def goR {σ ρ:Type} (S:Int->σ->(Nat->V)->St) (R:ρ->Ex×St) (i:Nat):σ ⊕ ρ->Ex×St
 | .inl b=>(.nm,S (wr .i64 (Am (Int.ofNat i) 1)) b λ_=>.und)
 | .inr e=>R e
theorem SK {i n:Nat} (h:i<n) (hn:n <= 4611686018427387904):wr .i64 (Am (Int.ofNat i) 1)=Int.ofNat (i+1):=by
 unfold wr Am IntKind.wrap;simp [IntKind.bits,IntKind.signed];omega
theorem Ec {σ ρ:Type} {f:St->T (Ex×St)} {lp:Lp} {S:Int->σ->(Nat->V)->St} {R:ρ->Ex×St} (hR:∀ e,(R e).1 ≠ .nm) {n:Nat} (hn:n <= 4611686018427387904) {g:Nat->σ->T (σ ⊕ ρ)} {fin:σ->ρ}
  (h:∀ i a j r,i<n->(g i a).sem=some r->Ap f lp (S (Int.ofNat i) a j)=some (goR S R i r)) (h0:∀ a j,Ap f lp (S (Int.ofNat n) a j)=some (R (fin a))) :
  ∀ {d i:Nat} {a:σ} {j:Nat->V} {q:Nat} {e:ρ},n=i+d->d<q->DF g fin d i a=some e->(Ay f lp q (S (Int.ofNat i) a j)).sem=some (R e):=by
 have stop:∀ {o:Nat} {e:ρ},Adz f lp o (some (R e))=some (R e):=fun {o e}=>by
  have:=hR e;cases hr:R e with
  | mk x s =>rw [hr] at this;cases x <;> first | exact absurd rfl this | rfl
 intro d
 induction d with
 | zero =>
  intro i a j q e hi hq he;obtain ⟨q,rfl⟩:∃ o,q=o+1:=⟨q-1,by omega⟩;obtain rfl:n=i:=by omega
  simp only [DF,Option.some.injEq] at he;rw [Ae (h0 a j),stop,he]
 | succ d ih =>
  intro i a j q e hi hq he;obtain ⟨q,rfl⟩:∃ o,q=o+1:=⟨q-1,by omega⟩;simp only [DF] at he;split at he
  ·rename_i b hb
   rw [Ae (h i a j _ (by omega) hb)];show (Ay f lp q (S (wr .i64 (Am (Int.ofNat i) 1)) b λ_=>.und)).sem=_;rw [SK (show i<n by omega) hn];exact ih (by omega) (by omega) he
  ·rename_i b hb
   rw [Ae (h i a j _ (by omega) hb)];simp only [Option.some.injEq] at he;subst he;exact stop
  ·cases he
def nzE:Ex->Ex
 | .nm=>.rt
 | e=>e
def exR (e:Ex×St):Ex×St:=(nzE e.1,e.2)
theorem Hd (e:Ex×St):(exR e).1 ≠ .nm:=by
 obtain ⟨x,s⟩:=e;cases x <;> exact λh=>by cases h
def K5 (st:St):List (Nat×(Nat->V))->St
 | []=>st
 | (id,g)::l=>K5 (match st.h[id]? with
   | some (.row e s 0 _)=>⟨st.t,st.h.set id (.row e s 0 g)⟩
   | some (.jag j)=>⟨st.t,st.h.set id (.jag { j with mem:=λk q=>bif Nat.blt q (j.len k) then j.mem k q else g q })⟩
   | _=>st) l
theorem ME {Γ:Cx0}:∀ (l:List (Nat×(Nat->V))) (st:St),LE Γ st (K5 st l)
 | [],st=>LE.refl st
 | (id,g)::l,st=>by
   refine LE.trans ?_ (ME l _);split
   ·rename_i hb
    exact Aex hb λj hj=>absurd hj (Nat.not_lt_zero _)
   ·rename_i j hb
    exact Aey hb (λ_ _=>rfl) (λ_ _=>rfl) (λ_ _=>rfl) λk _ q hq=>by
     show (bif Nat.blt q (j.len k) then j.mem k q else g q)=_;rw [show Nat.blt q (j.len k)=true from Nat.ble_eq_true_of_le hq];rfl
   ·exact LE.refl st
def C3 (ls:List (Nat×Lp×List (Nat×(Nat->V)))) (id:Nat) (f:St->T (Ex×St)) (st:St):T (Ex×St) :=
 match Jy id ls with
 | some (l,z)=>.ask (Ay f l l.fuel (K5 (EC l.ks l.n st) z)).sem .leaf
 | none=>.fail
theorem M8 (c:FuncId->List V->St->T (V×Res)) (G:Nat->V) (ls:List (Nat×Lp×List (Nat×(Nat->V)))):BX ⟨c,C3 ls,G⟩:=λid f st r hr=>by
 have hr:(C3 ls id f st).sem=some r:=hr;unfold C3 at hr;split at hr
 ·rename_i l z _
  cases hi:(Ay f l l.fuel (K5 (EC l.ks l.n st) z)).sem with
  | none=>rw [hi] at hr; cases hr
  | some r' =>rw [hi] at hr;cases hr;exact .run (.weak ((Fv _ _ _).trans (ME _ _)) (GE hi))
 ·cases hr
def cxA (G:Nat->V) (tbl:AD) (ls:List (Nat×Lp×List (Nat×(Nat->V)))):Cx:=⟨A9 tbl,C3 ls,G⟩
theorem AZ {P:Program} {G:Nat->V} {tbl:AD} (h:Al P G tbl) (ls:List (Nat×Lp×List (Nat×(Nat->V)))):AY P (cxA G tbl ls).base∧BX (cxA G tbl ls):=⟨Ek rfl h,M8 _ _ _⟩
theorem AaD {v v':V} {l:List V} (h:∀ (S:Nat->Prop) (w:World) (u:Value),VR S w v noK u->VR S w v' noK u):B2 (v::l) (v'::l):=λS w cs hv=>by
 obtain ⟨c,m,e,q1,q2⟩:=hv;exact ⟨c,m,e,h S w c q1,q2⟩
theorem eN {b c:Bool} (h:b=c):AI b=AI c:=congrArg AI h
theorem eT:true=true:=rfl
theorem eF:false=false:=rfl
theorem eI (x:Int):ieq x x=true:=by simp [ieq]
theorem eJ (n:Nat):Fy n n=true:=Nat.beq_refl n
theorem eG:∀ l:List Nat,BB (l.map λn=>.jag ⟨0,0,n,λ_=>.und,0,0,0,λ_=>true,λ_=>0,λ_ _=>.und,none⟩)=true
 | []=>rfl
 | n::l=>by simpa [BB] using eG l
end Go.Sy
namespace Go.Proofs.YtkbgidbledjejaaGreat.Ed
open Go.Sy Go
theorem eL (n:Nat):DL n (λ_=>true)=true:=BR.2 λ_ _=>rfl
theorem Aog {i n:Nat} (h:i<n):ieq (Int.ofNat n) 0=false:=by simp [ieq]; omega
section
variable {σ ρ:Type} {g:Nat->σ->T (σ ⊕ ρ)} {fin:σ->ρ} {p:Nat->Bool} {a:σ} {x:ρ} {n:Nat} (hc:∀ i,i<n->(g i a).sem=sel (p i) (some (.inl a)) (some (.inr x)))
include hc
theorem Qh:∀ d i,i+d=n->(∀ k,k<i->p k=true)->DF g fin d i a=some (sel (DL n p) (fin a) x)
 | 0,i,h,hb=>by
  rw [show DL n p=true from BR.2 λk hk=>hb k (by omega)];rfl
 | d+1,i,h,hb=>by
  rw [DF,hc i (by omega)];cases hp:p i with
  | true =>
   exact Qh d (i+1) (by omega) λk hk=>by
    by_cases e:k=i
    ·rw [e]; exact hp
    ·exact hb k (by omega)
  | false =>
   cases ha:DL n p with
   | false=>rfl
   | true =>have:=BR.1 ha i (by omega);rw [hp] at this;cases this
theorem Zs (h:DL n p=true):DF g fin n 0 a=some (fin a):=by
 rw [Qh hc n 0 (Nat.zero_add n) λ_ h=>absurd h (Nat.not_lt_zero _),h];rfl
theorem Ah5 (h:DL n p=false):DF g fin n 0 a=some x:=by
 rw [Qh hc n 0 (Nat.zero_add n) λ_ h=>absurd h (Nat.not_lt_zero _),h];rfl
end
end Go.Proofs.YtkbgidbledjejaaGreat.Ed
namespace Go.Proofs.YtkbgidbledjejaaGreat.Ed
open Go.Sy
def BZ (n:Nat):Bool:=decide (n * 40 <= 140737488355328)
def lp37 (n:Nat):Lp:=⟨bmK 19 0 [0,2,3,4],2,bmK 19 0 [0,2,3],2,n+1⟩
section
variable (L:LT)
end
end Go.Proofs.YtkbgidbledjejaaGreat.Ed
namespace Go.Proofs.YtkbgidbledjejaaGreat.Ed
open Go.Sy
theorem allT_some {vs:List V} {r:V×List Blk} (h:(allT vs).sem=some r):∃ a,vs=[iV a]∧((a=1∧r=(.tup [.ref 0,iV 0],[.row 46 6 22 λi=>eV (Ag1 1 i)])) ∨ (a=2∧r=(.tup [.ref 0,iV 0],[.row 46 6 104 λi=>eV (Ag1 2 i)])) ∨
  (AI (Bg a)=true∧r=(.tup [.ref 0,iV 1],[.row 46 6 0 λ_=>.und]))):=by
 obtain ⟨a,rfl,h⟩:=M9 K4 h;refine ⟨a,rfl,?_⟩;have h:sel (ieq a 1) (some _) (sel (ieq a 2) (some _) (some _))=some r:=h;cases h1:ieq a 1 with
 | true =>rw [h1] at h;have h:some _=some r:=h;exact .inl ⟨by simpa [ieq] using h1,(Option.some.inj h).symm⟩
 | false =>
  rw [h1] at h;cases h2:ieq a 2 with
  | true =>rw [h2] at h;have h:some _=some r:=h;exact .inr (.inl ⟨by simpa [ieq] using h2,(Option.some.inj h).symm⟩)
  | false =>rw [h2] at h;have h:some _=some r:=h;exact .inr (.inr ⟨by simp [Bg,h1,h2,AI,bor],(Option.some.inj h).symm⟩)
noncomputable def tb10:AD:=(21,Kx)::(66,ap2 gI toE λa e=>out (Nh a e))::(46,ap2 gI toE λa e=>out (Nh a e))::tb8
theorem tb10_ok:Al Tryz.prog Gl tb10:=.cons p36 <| .cons p32 <| .cons p33 KD
end Go.Proofs.YtkbgidbledjejaaGreat.Ed
namespace Go.Proofs.YtkbgidbledjejaaGreat.Ed
open Go.Sy
noncomputable def cx10:Cx:=BQ Gl tb10 []
end Go.Proofs.YtkbgidbledjejaaGreat.Ed
namespace Go.Proofs.YtkbgidbledjejaaGreat.Ed
open Go.Sy
def Fz:List Int->List Int->Int
 | [],[]=>0
 | [],_::_=>-1
 | _::_,[]=>1
 | a::x,b::y=>sel (ilt a b) (-1) (sel (ilt b a) 1 (Fz x y))
theorem OA {a b:Int}:ilt a b=true↔a<b:=by simp [ilt]
theorem FI (a b:Int) (x y:List Int):(a<b∧Fz (a::x) (b::y) = -1) ∨ (b<a∧Fz (a::x) (b::y)=1) ∨ (a=b∧Fz (a::x) (b::y)=Fz x y):=by
 have h0:Fz (a::x) (b::y)=sel (ilt a b) (-1) (sel (ilt b a) 1 (Fz x y)):=rfl;rw [h0];cases h1:ilt a b with
 | true=>exact .inl ⟨OA.1 h1,rfl⟩
 | false =>
  have h1':¬ a<b:=λh=>by rw [OA.2 h] at h1; cases h1
  cases h2:ilt b a with
  | true=>exact .inr (.inl ⟨OA.1 h2,rfl⟩)
  | false =>
   have h2':¬ b<a:=λh=>by rw [OA.2 h] at h2; cases h2
   exact .inr (.inr ⟨by omega,rfl⟩)
theorem S9:∀ x y,Fz y x = - Fz x y
 | [],[]=>rfl
 | [],_::_=>rfl
 | _::_,[]=>rfl
 | a::x,b::y=>by
  have ih:=S9 x y;rcases FI a b x y with ⟨h1,h⟩ | ⟨h1,h⟩ | ⟨h1,h⟩ <;> rcases FI b a y x with ⟨g1,g⟩ | ⟨g1,g⟩ | ⟨g1,g⟩ <;> omega
theorem S8:∀ x y,Fz x y=0↔x=y
 | [],[]=>by simp [Fz]
 | [],_::_=>by simp [Fz]
 | _::_,[]=>by simp [Fz]
 | a::x,b::y=>by
  have ih:=S8 x y;rcases FI a b x y with ⟨h1,h⟩ | ⟨h1,h⟩ | ⟨h1,h⟩
  ·rw [h]; simp; omega
  ·rw [h]; simp; omega
  ·rw [h,ih]; simp [h1]
def Bt (n:Nat) (f:Nat->E6):List Int:=(List.range n).map λi=>Aj (f i)
theorem Eh (n i:Nat) (f:Nat->E6) (h:i<n):(Bt n f).drop i=Aj (f i)::(Bt n f).drop (i+1):=by
 have hl:i<(Bt n f).length:=by simp [Bt,h]
 rw [List.drop_eq_getElem_cons hl];simp [Bt]
theorem IQ (n i:Nat) (f:Nat->E6) (h:n <= i):(Bt n f).drop i=[]:=by
 rw [List.drop_eq_nil_iff];simp [Bt,h]
def Bv (n:Nat) (f:Nat->E6):Bool:=DL n λi=>ieq (AA (f i)) 0
def Ms (n:Nat) (f:Nat->E6) (m:Nat) (g:Nat->E6):Int:=sel (Av (Bv n f) (Bv m g)) 0 30
def Ge (n:Nat) (f:Nat->E6) (m:Nat) (g:Nat->E6):Int:=sel (Av (Bv n f) (Bv m g)) (Fz (Bt n f) (Bt m g)) 0
theorem Bh {n:Nat} {f:Nat->E6}:Bv n f=true↔∀ i,i<n->AA (f i)=0:=by
 unfold Bv;rw [BR];simp [ieq]
theorem IP (f g:Nat->E6):∀ d i,FG f g d i=true↔∀ j,i <= j->j<i+d->f j=g j
 | 0,i=>by
  simp only [FG,true_iff];intro j h1 h2; omega
 | d+1,i=>by
  unfold FG;cases h:eqE (f i) (g i) with
  | true =>
   have h0:=(G6 _ _).1 h;show FG f g d (i+1)=true↔_;rw [IP f g d (i+1)];constructor
   ·intro q j h1 h2
    by_cases hj:j=i
    ·subst hj; exact h0
    ·exact q j (by omega) (by omega)
   ·intro q j h1 h2; exact q j (by omega) (by omega)
  | false =>
   constructor
   ·intro q; cases q
   ·intro q
    have:=(G6 _ _).2 (q i (Nat.le_refl _) (by omega));rw [this] at h; cases h
theorem AaA {a b:E6} (ha:AA a=0) (hb:AA b=0) (h:Aj a=Aj b):a=b:=by
 rcases BH a with ⟨k,_,_,h1,h2,_⟩ | ⟨h1,_⟩
 ·rcases BH b with ⟨j,_,_,g1,g2,_⟩ | ⟨g1,_⟩
  ·rw [h1,g1] at h
   have:=Int.ofNat.inj h;subst this;rw [<- h2,<- g2]
  ·rw [g1] at hb; cases hb
 ·rw [h1] at ha; cases ha
theorem WM (n:Nat) (f:Nat->E6):Gx n f n f=true:=by
 unfold Gx;rw [Ads];exact (IP f f n 0).2 λ_ _ _=>rfl
end Go.Proofs.YtkbgidbledjejaaGreat.Ed
namespace Go.Proofs.YtkbgidbledjejaaGreat.Ed
open Go.Sy
open Int (ofNat)
theorem AaH {n:Nat}:DL n (λ_=>true)=true:=BR.2 λ_ _=>rfl
def kL (n:Nat):Kn:=⟨DL n λ_=>true,true,AaH⟩
def BL (g:Nat->V):Nat->Nat->V
 | 0=>λ_=>.und
 | i+1=>AE i (BL g i) (g i)
theorem HY (g:Nat->V):∀ n j,j<n->BL g n j=g j
 | 0,j,h=>by omega
 | n+1,j,h=>by
  rw [show BL g (n+1) j=AE n (BL g n) (g n) j from rfl,Ca];show (bif Nat.beq j n then g n else BL g n j)=_;cases hb:Nat.beq j n with
  | true =>rw [Nat.eq_of_beq_eq_true hb];rfl
  | false =>have:=Nat.ne_of_beq_eq_false hb;exact HY g n j (by omega)
theorem N5 {i n b c:Nat} (h:i<n) (hb:b <= c) (hn:n * c <= 140737488355328):CJ i 1 b=true:=by
 refine decide_eq_true ?_;have h1:(i+1) * b <= n * b:=Nat.mul_le_mul_right b (by omega);have h2:n * b <= n * c:=Nat.mul_le_mul_left n hb;omega
theorem Eu {n:Nat} (hn:BZ n=true):n <= 4611686018427387904:=by
 have hn:n * 40 <= 140737488355328:=of_decide_eq_true hn;omega
def Xk (n:Nat) (f:Nat->E6):Lp:=⟨bmK 29 0 [0,2,3,4,9,10,11],2,bmK 29 0 [2,3,4],4,n+1⟩
def WB (n:Nat) (f:Nat->E6) (i k:Nat) (x:Nat->V) (j:Nat->V):St:=⟨jsV 29 0 j [(0,.sl 6 n λi=>eV (f i)),(2,.ref 0),(3,iV 0),(4,.ref 1),(9,.sl 6 n λi=>eV (f i)),(10,nV n),(11,nV i)],[.row 3 1 0 λ_=>.und,.row 3 1 k x]⟩
def VV (n:Nat) (f:Nat->E6) (i k:Nat) (x:Nat->V):Ex×St:=(.ex 0,⟨jsV 29 0 Ac [(2,.ref 0),(3,iV 0),(4,.ref 1)],[.row 3 1 0 λ_=>.und,.row 3 1 k x]⟩)
def Q1 (n:Nat) (f:Nat->E6) (i k:Nat) (x:Nat->V):Ex×St:=(.rt,⟨jsV 29 0 Ac [(2,.ref 3),(3,iV (AA (f i))),(4,.ref 1)],[.row 3 1 0 λ_=>.und,.row 3 1 k x,.cells [iV (f i).kind,bV (f i).ext,bV (f i).same,iV (f i).src,iV (f i).dst,iV (f i).fence],.row 3 1 0 λ_=>.und]⟩)
noncomputable def Le (L:LT):St->T (Ex×St):=λst=>A8 tab ⟨A9 tb8,L,Gl⟩ (A1 Tryz.f93 0) 0 st
theorem Ox (L:LT) (n:Nat) (f:Nat->E6) (i k:Nat) (x:Nat->V) (j:Nat->V):Ap (Le L) (Xk n f) (WB n f i k x j)
 = (sel (ilt (ofNat i) (ofNat n)) (sel (Av (ile 0 (ofNat i)) (ilt (ofNat i) (ofNat n))) (sel (AI (ieq (AA (f i)) 0)) (some (.rt,⟨[.und,.und,.ref 3,iV (AA (f i)),.ref 1,.und,.und,.und,.und,.und,.und,.und,.und,.und,.und,.und,.und,.und,.und,.und,.und,.und,.und,.und,.und,.und,.und,.und,.und],[.row 3 1 0 Ac,.row 3 1 k x,.cells [iV (f i).kind,bV (f i).ext,bV (f i).same,iV (f i).src,iV (f i).dst,iV (f i).fence],.row 3 1 0 Ac]⟩)) (sel (CJ k 1 8) (some (.nm,⟨[.sl 6 n (λi=>eV (f i)),.und,.ref 0,iV 0,.ref 1,.und,.und,.und,.und,.sl 6 n (λi=>eV (f i)),nV n,iV (wr .i64 (Am (ofNat i) 1)),.und,.und,.und,.und,.und,.und,.und,.und,.und,.und,.und,.und,.und,.und,.und,.und,.und],[.row 3 1 0 Ac,.row 3 1 (Cd k 1) (AE k x (iV (Aj (f i))))]⟩)) none)) none) (some ((.ex 0),⟨[.und,.und,.ref 0,iV 0,.ref 1,.und,.und,.und,.und,.und,.und,.und,.und,.und,.und,.und,.und,.und,.und,.und,.und,.und,.und,.und,.und,.und,.und,.und,.und],[.row 3 1 0 Ac,.row 3 1 k x]⟩))):=by kernel_rfl
def Aaq (n:Nat) (f:Nat->E6) :Nat->V:=lkV A7 []
section
variable (L:LT) (p0:PT) (n:Nat) (f:Nat->E6) (i k:Nat) (x:Nat->V)
include L p0 n f i k x
theorem Abf:(AM (Au tab ⟨A9 tb8,onP 0 p0 (VV n f i k x) L,Gl⟩ Tryz.f93 [Ao n f] [])).path [true]=some ([p0 (Le (onP 0 p0 (VV n f i k x) L)) (WB n f 0 0 Ac (Aaq n f ))],((.tup [.ref 0,iV 0]),[.row 3 1 k x])):=by kernel_rfl
theorem AhP  (hp0:p0 (Le (onP 0 p0 (VV n f i k x) L)) (WB n f 0 0 Ac (Aaq n f ))=true):(AM (Au tab ⟨A9 tb8,onP 0 p0 (VV n f i k x) L,Gl⟩ Tryz.f93 [Ao n f] [])).sem=some ((.tup [.ref 0,iV 0]),[.row 3 1 k x]) :=
 A6 (Abf L p0 n f i k x) (by simp only [hp0] <;> rfl)
theorem Abe:(AM (Au tab ⟨A9 tb8,onP 0 p0 (Q1 n f i k x) L,Gl⟩ Tryz.f93 [Ao n f] [])).path [true]=some ([p0 (Le (onP 0 p0 (Q1 n f i k x) L)) (WB n f 0 0 Ac (Aaq n f ))],((.tup [.ref 0,iV (AA (f i))]),[.row 3 1 0 Ac])):=by kernel_rfl
theorem AhO  (hp0:p0 (Le (onP 0 p0 (Q1 n f i k x) L)) (WB n f 0 0 Ac (Aaq n f ))=true):(AM (Au tab ⟨A9 tb8,onP 0 p0 (Q1 n f i k x) L,Gl⟩ Tryz.f93 [Ao n f] [])).sem=some ((.tup [.ref 0,iV (AA (f i))]),[.row 3 1 0 Ac]) :=
 A6 (Abe L p0 n f i k x) (by simp only [hp0] <;> rfl)
end
def cdV (f:Nat->E6):Nat->V:=λi=>iV (Aj (f i))
theorem AbO (L:LT) (n:Nat) (f:Nat->E6) (hn:BZ n=true) (ho:∀ t,t<n->AA (f t)=0):∀ (d i:Nat) (j:Nat->V) (q:Nat),n=i+d->d<q ->
  (Ay (Le L) (Xk n f) q (WB n f i i (BL (cdV f) i) j)).sem=some (VV n f 0 n (BL (cdV f) n))
 | 0,i,j,q+1,h1,_=>by
  have hi:i=n:=by omega
  subst hi;rw [Ae (Ox L i f i i _ j),A4 (Nat.le_refl i)];rfl
 | d+1,i,j,q+1,h1,h2=>by
  have hi:i<n:=by omega
  rw [Ae (Ox L n f i i _ j),Af hi,ofNat_lt hi,N5 hi (by decide) (of_decide_eq_true hn),Bc hi (Eu hn),ho i hi];exact AbO L n f hn ho d (i+1) Ac q (by omega) (by omega)
theorem AbN (L:LT) (n:Nat) (f:Nat->E6) (hn:BZ n=true) (e:Nat) (he:e<n) (hb:AA (f e)=30) (ho:∀ t,t<e->AA (f t)=0):∀ (d i:Nat) (j:Nat->V) (q:Nat),e=i+d->d<q ->
  (Ay (Le L) (Xk n f) q (WB n f i i (BL (cdV f) i) j)).sem=some (Q1 n f e e (BL (cdV f) e))
 | 0,i,j,q+1,h1,_=>by
  have hi:i=e:=by omega
  subst hi;rw [Ae (Ox L n f i i _ j),Af he,ofNat_lt he,hb];show some _=some (Q1 n f i i _);unfold Q1;rw [hb] <;> rfl
 | d+1,i,j,q+1,h1,h2=>by
  have hi:i<n:=by omega
  rw [Ae (Ox L n f i i _ j),Af hi,ofNat_lt hi,N5 hi (by decide) (of_decide_eq_true hn),Bc hi (Eu hn),ho i (by omega)];exact AbN L n f hn e he hb ho d (i+1) Ac q (by omega) (by omega)
theorem Qr (p:Nat->Bool):∀ n,DL n p=false->∃ e,e<n∧p e=false∧∀ t,t<e->p t=true
 | 0,h=>by cases h
 | n+1,h=>by
  cases hn:DL n p with
  | false =>obtain ⟨e,h1,h2,h3⟩:=Qr p n hn;exact ⟨e,by omega,h2,h3⟩
  | true =>
   refine ⟨n,by omega,?_,λt ht=>BR.1 hn t ht⟩;cases hp:p n with
   | false=>rfl
   | true =>
    have:DL (n+1) p=true:=BR.2 λi hi=>by
     by_cases hi':i=n
     ·rw [hi',hp]
     ·exact BR.1 hn i (by omega)
    rw [this] at h; cases h
theorem AdV {e:E6} (h:AA e ≠ 0):AA e=30:=by
 rcases BH e with ⟨_,_,h1,_⟩ | ⟨h1,_⟩
 ·exact absurd h1 h
 ·exact h1
theorem P8 {n:Nat} {f:Nat->E6} (h:Bv n f=false):∃ e,e<n∧AA (f e)=30∧∀ t,t<e->AA (f t)=0:=by
 obtain ⟨e,h1,h2,h3⟩:=Qr _ n h;refine ⟨e,h1,AdV λh0=>?_,λt ht=>by simpa [ieq] using h3 t ht⟩;rw [h0] at h2;cases h2
def Q5:List V->A3:=QJ λn f=>.br (BZ n) (.br (Bv n f) (.leaf (.tup [.ref 0,iV 0],[.row 3 1 n λi=>iV (Aj (f i))])) (.leaf (.tup [.ref 0,iV 30],[.row 3 1 0 λ_=>.und]))) .fail
theorem p81:Ar Tryz.prog Gl 93 Q5:=by
 refine Ah A0 mixed Tryz.func93 (by kernel_rfl) (by kernel_rfl) λvs v h' h=>?_;obtain ⟨n,f,ha,h⟩:=D7 h;obtain ⟨hn,h⟩:=Ab h;have hx:=Bu KD [(0,Xk n f)];cases hm:Bv n f with
 | true =>
  rw [hm] at h;have:=Aa h;simp only [Prod.mk.injEq] at this;obtain ⟨rfl,rfl⟩:=this;exact ⟨_,cx9 [(0,Xk n f)],_,ha,rfl,hx.1,hx.2,Bw (B9 (Bd _) (Bd _)) _ (AhP _ _ n f 0 n _ (AW (AbO _ n f hn (Bh.1 hm) n 0 (Aaq n f) (n+1) (by omega) (by omega)))),
   As.one λj hj=>(HY (cdV f) n j hj).symm⟩
 | false =>rw [hm] at h;have:=Aa h;simp only [Prod.mk.injEq] at this;obtain ⟨rfl,rfl⟩:=this;obtain ⟨e,h1,h2,h3⟩:=P8 hm;have hw:=Bw (B9 (Bd _) (Bd _)) _ (AhO (BO [(0,Xk n f)]) _ n f e e _ (AW (AbN _ n f hn e h1 h2 h3 e 0 (Aaq n f) (n+1) (by omega) (by omega))));rw [h2] at hw;exact ⟨_,cx9 [(0,Xk n f)],_,ha,rfl,hx.1,hx.2,hw,As.refl _⟩
end Go.Proofs.YtkbgidbledjejaaGreat.Ed
namespace Go.Proofs.YtkbgidbledjejaaGreat.Ed
open Go.Sy
def AcQ (n:Nat):List (Nat×Lp):=[(0,⟨[],1000,[],1000,n⟩),(1,⟨[],1000,[],1000,n⟩),(2,⟨[],1000,[],1000,n⟩),(3,⟨[],1000,[],1000,n⟩),(4,⟨[],1000,[],1000,n⟩),(5,⟨[],1000,[],1000,n⟩),(6,⟨[],1000,[],1000,n⟩)]
noncomputable def cy0:AD:=[(21,Rz To),(32,ap2 gI toE λa e=>out (Nh a e)),(28,Cj λe=>iV (AA e))]
noncomputable def B83:List V->A3:=λvs=>AM (Au tab (BQ Gl cy0 (AcQ 30)) Tryz.f102 vs [])
noncomputable def Ao2:AD:=(83,B83)::cy0
noncomputable def B108:List V->A3:=λvs=>AM (Au tab (BQ Gl Ao2 (AcQ 30)) Tryz.f109 vs [])
end Go.Proofs.YtkbgidbledjejaaGreat.Ed
