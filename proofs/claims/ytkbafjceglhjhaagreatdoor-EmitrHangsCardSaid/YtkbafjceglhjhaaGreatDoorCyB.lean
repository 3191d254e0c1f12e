/-
  Loops gone through by rounds, each told by one fact. Conditions: as before.
-/
import Derived.Test.YtkbafjceglhjhaaGreatDoorSyU
import Derived.Test.YtkbafjceglhjhaaGreatDoorEdK
namespace Go.Sy
def Ajl (l:Lp) (r:Ex×St):Ex×St :=
 match r.1 with
 | .nm=>(.nm,I1 l.ks l.n r.2)
 | .ex i=>(.ex i,I1 l.ke l.ne r.2)
 | .rt=>(.rt,I1 l.ke l.ne r.2)
def Au (f:St->T (Ex×St)) (l:Lp) (st:St):Option (Ex×St):=((f st).bind λr=>T.leaf (Ajl l r)).sem
def Ab8 (f:St->T (Ex×St)) (l:Lp) (m:Nat):Option (Ex×St)->Option (Ex×St)
 | some (.nm,st)=>(A3 f l m st).sem
 | some (e,st)=>some (e,st)
 | none=>none
theorem Ag {f:St->T (Ex×St)} {l:Lp} {m:Nat} {st:St} {t:Option (Ex×St)} (h:Au f l st=t):(A3 f l (m+1) st).sem=Ab8 f l m t:=by
 subst h;show ((f st).bind _).sem=_;unfold Au;rw [C3,C3];cases (f st).sem with
 | none=>rfl
 | some r =>obtain ⟨e,s⟩:=r;cases e <;> rfl
theorem AW {f:St->T (Ex×St)} {l:Lp} {m:Nat} {st:St}:Ab8 f l m (some (.nm,st))=(A3 f l m st).sem:=rfl
theorem PS {f:St->T (Ex×St)} {l:Lp} {m:Nat} {st:St}:Ab8 f l m (some (.rt,st))=some (.rt,st):=rfl
theorem XA {α:Type} (x y:α):sel true x y=x:=rfl
theorem Wb {α:Type} (x y:α):sel false x y=y:=rfl
def TLe {α:Type} (t t':T α):Prop:=∀ r,t.sem=some r->t'.sem=some r
theorem TLe.refl {α:Type} (t:T α):TLe t t:=λ_ h=>h
theorem TLe.bind {α β:Type} {t t':T α} {f f':α->T β} (h:TLe t t') (hf:∀ a,TLe (f a) (f' a)):TLe (t.bind f) (t'.bind f'):=λr hr=>by
 obtain ⟨a,h1,h2⟩:=Af hr;rw [C3,h a h1];exact hf a r h2
def LLe (M L:Nat->(St->T (Ex×St))->St->T (Ex×St)):Prop:=∀ id f f' st,(∀ st,TLe (f st) (f' st))->TLe (M id f st) (L id f' st)
theorem R2 {f f':St->T (Ex×St)} (h:∀ st,TLe (f st) (f' st)) (l:Lp):∀ (m:Nat) (st:St),TLe (A3 f l m st) (A3 f' l m st)
 | 0,_=>TLe.refl _
 | m+1,st=>by
  refine TLe.bind (h st) λr=>?_;cases r.1 with
  | nm=>exact R2 h l m _
  | ex i=>exact TLe.refl _
  | rt=>exact TLe.refl _
theorem Bd (ls:List (Nat×Lp)):LLe (Cq ls) (Cq ls):=λid f f' st h=>by
 unfold Cq;split
 ·exact R2 h _ _ _
 ·exact TLe.refl _
def onP (k:Nat) (p:(St->T (Ex×St))->St->Bool) (r:Ex×St) (L:Nat->(St->T (Ex×St))->St->T (Ex×St)):Nat->(St->T (Ex×St))->St->T (Ex×St) :=
 λid f st=>match Nat.beq id k with
  | true=>.br (p f st) (.leaf r) .fail
  | false=>L id f st
noncomputable def isP (L:Nat->(St->T (Ex×St))->St->T (Ex×St)) (k:Nat) (r:Ex×St):(St->T (Ex×St))->St->Bool :=
 λf st=>@decide ((L k f st).sem=some r) (Classical.propDecidable _)
theorem A5 {L:Nat->(St->T (Ex×St))->St->T (Ex×St)} {k:Nat} {r:Ex×St} {f:St->T (Ex×St)} {st:St} (h:(L k f st).sem=some r):isP L k r f st=true:=by
 unfold isP;exact @decide_eq_true _ (Classical.propDecidable _) h
theorem Bc {M L:Nat->(St->T (Ex×St))->St->T (Ex×St)} {k:Nat} {r:Ex×St} (hM:LLe M L) (hL:LLe L L):LLe (onP k (isP L k r) r M) L:=λid f f' st hf r' hr=>by
 unfold onP at hr;cases hk:Nat.beq id k with
 | true =>rw [hk] at hr;obtain ⟨h1,h2⟩:=Ab hr;rw [Aa h2];unfold isP at h1;have h1:=@of_decide_eq_true _ (Classical.propDecidable _) h1;rw [Nat.eq_of_beq_eq_true hk];exact hL k f f' st hf _ h1
 | false =>rw [hk] at hr;exact hM id f f' st hf _ hr
theorem Zd {τ:List Ty} {Γ:Cx} {L L':Nat->(St->T (Ex×St))->St->T (Ex×St)} (h:LLe L L') :
  ∀ (c:Code) (id:Nat) (st:St),TLe (AI τ { Γ with loop:=L } c id st) (AI τ { Γ with loop:=L' } c id st):=by
 intro c
 induction c with
 | skip=>intro id st; exact TLe.refl _
 | region i ops draw=>intro id st; exact TLe.refl _
 | seq a b iha ihb =>
  intro id st;refine TLe.bind (iha id st) λr=>?_;cases r.1 with
  | nm=>exact ihb id r.2
  | ex j=>exact TLe.refl _
  | rt=>exact TLe.refl _
 | cond x a b iha ihb =>
  intro id st;show TLe (match ev ⟨Γ.call,Γ.glob⟩ st x with | .val (.bool q)=>T.br q (AI τ { Γ with loop:=L } a id st) (AI τ { Γ with loop:=L } b id st) | _=>.fail) (match ev ⟨Γ.call,Γ.glob⟩ st x with | .val (.bool q)=>T.br q (AI τ { Γ with loop:=L' } a id st) (AI τ { Γ with loop:=L' } b id st) | _=>.fail)
  split
  ·rename_i q _
   cases q with
   | true=>exact iha id st
   | false=>exact ihb id st
  ·exact TLe.refl _
 | block i c ih =>
  intro id st;refine TLe.bind (ih i st) λr=>?_;cases r.1 with
  | nm=>exact TLe.refl _
  | ex j=>exact TLe.refl _
  | rt=>exact TLe.refl _
 | loop c ih =>intro id st;exact h id _ _ st (ih id)
 | exit i=>intro id st; exact TLe.refl _
 | ret=>intro id st; exact TLe.refl _
 | _=>intro id st; exact TLe.refl _
theorem Bb {τ:List Ty} {call:FuncId->List V->St->T (V×Res)} {G:Nat->V} {fn:Func} {vs:List V} {L L':Nat->(St->T (Ex×St))->St->T (Ex×St)}
  (h:LLe L L'):TLe (A7 (An τ ⟨call,L,G⟩ fn vs [])) (A7 (An τ ⟨call,L',G⟩ fn vs [])):=by
 refine TLe.bind ?_ λ_=>TLe.refl _;unfold An;cases fn.body with
 | none=>exact TLe.refl _
 | some c=>exact TLe.bind (Zd (Γ:=⟨call,L,G⟩) h c 0 _) λ_=>TLe.refl _
def AhS (v:V):Blk->Blk
 | .row e s 0 _=>.row e s 0 λ_=>v
 | .jag j=>.jag { j with mem:=λi k=>Xg (AaR k (j.len i)) (j.mem i k) v }
 | b=>b
def Adc (h:List Blk) (id:Nat) (v:V):List Blk :=
 match h[id]? with
 | some b=>h.set id (AhS v b)
 | none=>h
def JH (st:St):List (Nat×V)->St
 | []=>st
 | (id,v)::l=>JH ⟨st.t,Adc st.h id v⟩ l
theorem VN {Γ:Cx0}:∀ (l:List (Nat×V)) (st:St),LE Γ st (JH st l)
 | [],st=>LE.refl st
 | (id,v)::l,st=>by
   refine LE.trans ?_ (VN l _);unfold Adc;cases hb:st.h[id]? with
   | none=>exact LE.refl st
   | some b =>
    have same:st.h.set id b=st.h:=by
     have hl:=(List.getElem?_eq_some_iff.1 hb).1;have:=(List.getElem?_eq_some_iff.1 hb).2;rw [<- this,List.set_getElem_self]
    cases b with
    | row e s n g =>
     cases n with
     | zero=>exact ZL hb λj hj=>by omega
     | succ n =>show LE Γ st ⟨st.t,st.h.set id (.row e s (n+1) g)⟩;rw [same];exact LE.refl st
    | cells cs =>show LE Γ st ⟨st.t,st.h.set id (.cells cs)⟩;rw [same];exact LE.refl st
    | imap t n get =>show LE Γ st ⟨st.t,st.h.set id (.imap t n get)⟩;rw [same];exact LE.refl st
    | xrow lk e s n g =>show LE Γ st ⟨st.t,st.h.set id (.xrow lk e s n g)⟩;rw [same];exact LE.refl st
    | jag j =>
     refine ZM hb (λ_ _=>rfl) (λ_ _=>rfl) (λ_ _=>rfl) λk _ q hq=>?_;have:AaR q (j.len k)=true:=by
      unfold AaR;simpa using hq
     rw [this,FB];rfl
    | saved vs =>show LE Γ st ⟨st.t,st.h.set id (.saved vs)⟩;rw [same];exact LE.refl st
    | dead =>show LE Γ st ⟨st.t,st.h.set id .dead⟩;rw [same];exact LE.refl st
def GQ (zs:List (Nat×List (Nat×V))) (loops:List (Nat×Lp)) (id:Nat) (f:St->T (Ex×St)) (st:St):T (Ex×St) :=
 match J7 id zs with
 | some l=>Cq loops id f (JH st l)
 | none=>Cq loops id f st
theorem K7 (zs:List (Nat×List (Nat×V))) (ls:List (Nat×Lp)):LLe (GQ zs ls) (GQ zs ls):=λid f f' st h=>by
 unfold GQ;split
 ·exact Bd ls id f f' _ h
 ·exact Bd ls id f f' _ h
def cxZ (G:Nat->V) (tbl:AK) (zs:List (Nat×List (Nat×V))) (loops:List (Nat×Lp)):Cx:=⟨Az tbl,GQ zs loops,G⟩
theorem Ul {P:Program} {G:Nat->V} {tbl:AK} (h:Ar P G tbl) (zs:List (Nat×List (Nat×V))) (loops:List (Nat×Lp)):Bg P (cxZ G tbl zs loops).base∧Cg (cxZ G tbl zs loops):=by
 refine ⟨F5 rfl h,λid f st r hr=>?_⟩;have hr:(GQ zs loops id f st).sem=some r:=hr;have by':∀ st,(Cq loops id f st).sem=some r->LRun (cxZ G tbl zs loops).base f st r:=λst hr=>by
  unfold Cq at hr;split at hr
  ·exact Im hr
  ·cases hr
 unfold GQ at hr;split at hr
 ·exact .weak (VN _ _) (by' _ hr)
 ·exact by' _ hr
noncomputable def isR (Γ:Cx0) (r:Ex×St):(St->T (Ex×St))->St->Bool:=λf st=>@decide (LRun Γ f st r) (Classical.propDecidable _)
end Go.Sy
namespace Go.Proofs.YtkbafjceglhjhaaGreatDoor.Ed
open Go.Sy
def DX (n:Nat) (f:Nat->E6):Bool:=Ba n λi=>ieq (AZ (f i)) 0
theorem Fx {n:Nat} {f:Nat->E6}:DX n f=true↔∀ i,i<n->AZ (f i)=0:=by
 unfold DX;rw [AG];simp [ieq]
theorem Nn (f g:Nat->E6):∀ d i,F3 f g d i=true↔∀ j,i <= j->j<i+d->f j=g j
 | 0,i=>by
  simp only [F3,true_iff];intro j h1 h2; omega
 | d+1,i=>by
  unfold F3;cases h:eqE (f i) (g i) with
  | true =>
   have h0:=(Iq _ _).1 h;show F3 f g d (i+1)=true↔_;rw [Nn f g d (i+1)];constructor
   ·intro q j h1 h2
    by_cases hj:j=i
    ·subst hj; exact h0
    ·exact q j (by omega) (by omega)
   ·intro q j h1 h2; exact q j (by omega) (by omega)
  | false =>
   constructor
   ·intro q; cases q
   ·intro q
    have:=(Iq _ _).2 (q i (Nat.le_refl _) (by omega));rw [this] at h; cases h
end Go.Proofs.YtkbafjceglhjhaaGreatDoor.Ed
namespace Go.Proofs.YtkbafjceglhjhaaGreatDoor.Ed
open Go.Sy
theorem WT {n:Nat}:Ba n (λ_=>true)=true:=AG.2 λ_ _=>rfl
def kL (n:Nat):Kn:=⟨Ba n λ_=>true,true,WT⟩
def Cp (g:Nat->V):Nat->Nat->V
 | 0=>λ_=>.und
 | i+1=>Be i (Cp g i) (g i)
theorem J0 (g:Nat->V):∀ n j,j<n->Cp g n j=g j
 | 0,j,h=>by omega
 | n+1,j,h=>by
  rw [show Cp g (n+1) j=Be n (Cp g n) (g n) j from rfl,BA];show (bif Nat.beq j n then g n else Cp g n j)=_;cases hb:Nat.beq j n with
  | true =>rw [Nat.eq_of_beq_eq_true hb];rfl
  | false =>have:=Nat.ne_of_beq_eq_false hb;exact J0 g n j (by omega)
theorem Qw {i n b c:Nat} (h:i<n) (hb:b <= c) (hn:n * c <= 140737488355328):Dk i 1 b=true:=by
 refine decide_eq_true ?_;have h1:(i+1) * b <= n * b:=Nat.mul_le_mul_right b (by omega);have h2:n * b <= n * c:=Nat.mul_le_mul_left n hb;omega
theorem Ip {n:Nat} (hn:CJ n=true):n <= 4611686018427387904:=by
 have hn:n * 40 <= 140737488355328:=of_decide_eq_true hn;omega
def cdV (f:Nat->E6):Nat->V:=λi=>iV (BG (f i))
theorem RQ (p:Nat->Bool):∀ n,Ba n p=false->∃ e,e<n∧p e=false∧∀ t,t<e->p t=true
 | 0,h=>by cases h
 | n+1,h=>by
  cases hn:Ba n p with
  | false =>obtain ⟨e,h1,h2,h3⟩:=RQ p n hn;exact ⟨e,by omega,h2,h3⟩
  | true =>
   refine ⟨n,by omega,?_,λt ht=>AG.1 hn t ht⟩;cases hp:p n with
   | false=>rfl
   | true =>
    have:Ba (n+1) p=true:=AG.2 λi hi=>by
     by_cases hi':i=n
     ·rw [hi',hp]
     ·exact AG.1 hn i (by omega)
    rw [this] at h; cases h
theorem Zw {e:E6} (h:AZ e ≠ 0):AZ e=30:=by
 rcases EI e with ⟨_,_,h1,_⟩ | ⟨h1,_⟩
 ·exact absurd h1 h
 ·exact h1
theorem Yq {n:Nat} {f:Nat->E6} (h:DX n f=false):∃ e,e<n∧AZ (f e)=30∧∀ t,t<e->AZ (f t)=0:=by
 obtain ⟨e,h1,h2,h3⟩:=RQ _ n h;refine ⟨e,h1,Zw λh0=>?_,λt ht=>by simpa [ieq] using h3 t ht⟩;rw [h0] at h2;cases h2
def Zv:List V->AB:=G8 λn f=>.br (CJ n) (.br (DX n f) (.leaf (.tup [.ref 0,iV 0],[.row 3 1 n λi=>iV (BG (f i))])) (.leaf (.tup [.ref 0,iV 30],[.row 3 1 0 λ_=>.und]))) .fail
end Go.Proofs.YtkbafjceglhjhaaGreatDoor.Ed
namespace Go.Proofs.YtkbafjceglhjhaaGreatDoor.Ed
open Go.Sy
def Ge (n:Nat):List (Nat×Lp):=[(0,⟨[],1000,[],1000,n⟩),(1,⟨[],1000,[],1000,n⟩),(2,⟨[],1000,[],1000,n⟩),(3,⟨[],1000,[],1000,n⟩),(4,⟨[],1000,[],1000,n⟩),(5,⟨[],1000,[],1000,n⟩),(6,⟨[],1000,[],1000,n⟩)]
noncomputable def cy0:AK:=[(21,NV P1),(32,ap2 gI toE λa e=>out (MM a e)),(28,BI λe=>iV (AZ e))]
noncomputable def B83:List V->AB:=λvs=>A7 (An tab (Br Gl cy0 (Ge 30)) Tryz.f105 vs [])
noncomputable def Aie:AK:=(83,B83)::cy0
noncomputable def Ajv:List V->AB:=λvs=>A7 (An tab (Br Gl Aie (Ge 30)) Tryz.f193 vs [])
noncomputable def Adf:AK:=(108,Ajv)::Aie
noncomputable def B88:List V->AB:=λvs=>A7 (An tab (Br Gl Adf (Ge 30)) Tryz.f171 vs [])
noncomputable def Aic:AK:=(88,B88)::Adf
noncomputable def B89:List V->AB:=λvs=>A7 (An tab (Br Gl Aic (Ge 30)) Tryz.f172 vs [])
noncomputable def Aib:AK:=(89,B89)::Aic
noncomputable def B90:List V->AB:=λvs=>A7 (An tab (Br Gl Aib (Ge 30)) Tryz.f173 vs [])
noncomputable def Aia:AK:=(90,B90)::Aib
noncomputable def B93:List V->AB:=λvs=>A7 (An tab (Br Gl Aia (Ge 30)) Tryz.f176 vs [])
noncomputable def AhY:AK:=(93,B93)::Aia
noncomputable def B87:List V->AB:=λvs=>A7 (An tab (Br Gl AhY (Ge 30)) Tryz.f170 vs [])
noncomputable def Aid:AK:=(87,B87)::AhY
noncomputable def B92:List V->AB:=λvs=>A7 (An tab (Br Gl Aid (Ge 30)) Tryz.f175 vs [])
noncomputable def AhZ:AK:=(92,B92)::Aid
noncomputable def B91:List V->AB:=λvs=>A7 (An tab (Br Gl AhZ (Ge 30)) Tryz.f174 vs [])
noncomputable def Ajk:AK:=(91,B91)::AhZ
noncomputable def B86:List V->AB:=λvs=>A7 (An tab (Br Gl Ajk (Ge 30)) Tryz.f169 vs [])
end Go.Proofs.YtkbafjceglhjhaaGreatDoor.Ed
namespace Go.Proofs.YtkbafjceglhjhaaGreatDoor.Ed
open Go.Sy
open Int (ofNat)
def Bw (e:E6):Bool:=Aj (ile 1 e.kind) (ile e.kind 3)
def Ay (e:E6):Bool:=Aj (Bw e) e.ext
def A4 (e:E6):Bool:=Aj (AL (Bw e)) (AL e.same)
theorem ZS (e:E6):(A7 (An tab (Br Gl [] []) Tryz.f193 [eV e] [])).sem=(sel (ile 1 (e).kind) (sel (ile 1 (e).kind) (sel (ile 1 (e).kind) (sel (ile 1 (e).kind) (some ((bV (ile (e).kind 3)),[])) (some ((bV false),[]))) (sel (ile 1 (e).kind) (some (AD,[])) (some ((bV false),[])))) (sel (ile 1 (e).kind) none (sel (ile 1 (e).kind) (some (AD,[])) (some ((bV false),[]))))) (sel (ile 1 (e).kind) none (sel (ile 1 (e).kind) none (sel (ile 1 (e).kind) (some (AD,[])) (some ((bV false),[])))))):=by kernel_rfl
theorem AiK:As Tryz.prog Gl 193 (BI λe=>bV (Bw e)):=by
 refine As.congr (AH AA mixed Tryz.func193 (by kernel_rfl) (by kernel_rfl) (Γ:=Br Gl [] []) (Bh Ar.nil _)) λvs r h=>?_;obtain ⟨e,rfl,rfl⟩:=BO h;refine (ZS e).trans ?_;unfold Bw;cases ile 1 e.kind <;> rfl
theorem Ci (i:Nat):ile 0 (ofNat i)=true:=Va (by simp)
noncomputable def Xq:AK:=(193,BI λe=>bV (Bw e))::[]
theorem U6:Ar Tryz.prog Gl Xq:=.cons AiK .nil
theorem AdI (e:E6):(A7 (An tab (Br Gl Xq []) Tryz.f171 [eV e] [])).sem=(sel (Bw e) (sel (Bw e) (sel (Bw e) (some ((bV (e).ext),[])) (some ((bV false),[]))) (sel (Bw e) (some (AD,[])) (some ((bV false),[])))) (sel (Bw e) none (sel (Bw e) (some (AD,[])) (some ((bV false),[]))))):=by kernel_rfl
theorem p88:As Tryz.prog Gl 171 (BI λe=>bV (Ay e)):=by
 refine As.congr (AH AA mixed Tryz.func171 (by kernel_rfl) (by kernel_rfl) (Γ:=Br Gl Xq []) (Bh U6 _)) λvs r h=>?_;obtain ⟨e,rfl,rfl⟩:=BO h;refine (AdI e).trans ?_;unfold Ay;cases Bw e <;> rfl
theorem AdH (e:E6):(A7 (An tab (Br Gl Xq []) Tryz.f172 [eV e] [])).sem=(sel (AL (Bw e)) (sel (AL (Bw e)) (sel (AL (Bw e)) (sel (AL (Bw e)) (some ((bV (AL (e).same)),[])) (some ((bV false),[]))) (sel (AL (Bw e)) (some (AD,[])) (some ((bV false),[])))) (sel (AL (Bw e)) none (sel (AL (Bw e)) (some (AD,[])) (some ((bV false),[]))))) (sel (AL (Bw e)) none (sel (AL (Bw e)) none (sel (AL (Bw e)) (some (AD,[])) (some ((bV false),[])))))):=by kernel_rfl
theorem p89:As Tryz.prog Gl 172 (BI λe=>bV (A4 e)):=by
 refine As.congr (AH AA mixed Tryz.func172 (by kernel_rfl) (by kernel_rfl) (Γ:=Br Gl Xq []) (Bh U6 _)) λvs r h=>?_;obtain ⟨e,rfl,rfl⟩:=BO h;refine (AdH e).trans ?_;unfold A4;cases Bw e <;> rfl
theorem Nt (e:E6):Bw e=bor (ieq e.kind 1) (bor (ieq e.kind 2) (ieq e.kind 3)):=by
 unfold Bw;rw [Bool.eq_iff_iff];simp [Aj,bor,ile,ieq];omega
theorem AdK (e:E6):(A7 (An tab (Br Gl [] []) Tryz.f152 [eV e] [])).sem=(sel (ieq (e).kind 1) (sel (ieq (e).kind 1) (sel (ieq (e).kind 1) (sel (ieq (e).kind 1) (some ((bV (e).ext),[])) none) none) none) (sel (ieq (e).kind 1) (sel (ieq (e).kind 1) (sel (ieq (e).kind 1) (some ((bV (e).ext),[])) none) none) (sel (ieq (e).kind 1) (sel (ieq (e).kind 1) (some ((bV (e).ext),[])) none) (sel (ieq (e).kind 1) (some ((bV (e).ext),[])) (sel (ieq (e).kind 2) (sel (ieq (e).kind 2) (sel (ieq (e).kind 2) (sel (ieq (e).kind 2) (some ((bV (e).ext),[])) none) none) none) (sel (ieq (e).kind 2) (sel (ieq (e).kind 2) (sel (ieq (e).kind 2) (some ((bV (e).ext),[])) none) none) (sel (ieq (e).kind 2) (sel (ieq (e).kind 2) (some ((bV (e).ext),[])) none) (sel (ieq (e).kind 2) (some ((bV (e).ext),[])) (sel (ieq (e).kind 3) (sel (ieq (e).kind 3) (sel (ieq (e).kind 3) (some ((bV (e).ext),[])) (some ((bV false),[]))) (sel (ieq (e).kind 3) (some (AD,[])) (some ((bV false),[])))) (sel (ieq (e).kind 3) none (sel (ieq (e).kind 3) (some (AD,[])) (some ((bV false),[]))))))))))))):=by kernel_rfl
theorem p60:As Tryz.prog Gl 152 (BI λe=>bV (Ay e)):=by
 refine As.congr (AH AA mixed Tryz.func152 (by kernel_rfl) (by kernel_rfl) (Γ:=Br Gl [] []) (Bh Ar.nil _)) λvs r h=>?_;obtain ⟨e,rfl,rfl⟩:=BO h;refine (AdK e).trans ?_;unfold Ay;rw [Nt];cases ieq e.kind 1 <;> cases ieq e.kind 2 <;> cases ieq e.kind 3 <;> rfl
theorem AdJ (e:E6):(A7 (An tab (Br Gl [] []) Tryz.f153 [eV e] [])).sem=(sel (AL (ieq (e).kind 1)) (sel (AL (ieq (e).kind 1)) (sel (AL (ieq (e).kind 1)) (sel (AL (ieq (e).kind 1)) (sel (AL (ieq (e).kind 2)) (sel (AL (ieq (e).kind 2)) (sel (AL (ieq (e).kind 2)) (sel (AL (ieq (e).kind 2)) (sel (AL (ieq (e).kind 3)) (sel (AL (ieq (e).kind 3)) (sel (AL (ieq (e).kind 3)) (sel (AL (ieq (e).kind 3)) (some ((bV (AL (e).same)),[])) (some ((bV false),[]))) (sel (AL (ieq (e).kind 3)) (some (AD,[])) (some ((bV false),[])))) (sel (AL (ieq (e).kind 3)) none (sel (AL (ieq (e).kind 3)) (some (AD,[])) (some ((bV false),[]))))) (sel (AL (ieq (e).kind 3)) none (sel (AL (ieq (e).kind 3)) none (sel (AL (ieq (e).kind 3)) (some (AD,[])) (some ((bV false),[])))))) (some ((bV false),[]))) (sel (AL (ieq (e).kind 2)) none (some ((bV false),[])))) (sel (AL (ieq (e).kind 2)) none (sel (AL (ieq (e).kind 2)) none (some ((bV false),[]))))) (sel (AL (ieq (e).kind 2)) none (sel (AL (ieq (e).kind 2)) none (sel (AL (ieq (e).kind 2)) none (some ((bV false),[])))))) (some ((bV false),[]))) (sel (AL (ieq (e).kind 1)) none (some ((bV false),[])))) (sel (AL (ieq (e).kind 1)) none (sel (AL (ieq (e).kind 1)) none (some ((bV false),[]))))) (sel (AL (ieq (e).kind 1)) none (sel (AL (ieq (e).kind 1)) none (sel (AL (ieq (e).kind 1)) none (some ((bV false),[])))))):=by kernel_rfl
theorem p61:As Tryz.prog Gl 153 (BI λe=>bV (A4 e)):=by
 refine As.congr (AH AA mixed Tryz.func153 (by kernel_rfl) (by kernel_rfl) (Γ:=Br Gl [] []) (Bh Ar.nil _)) λvs r h=>?_;obtain ⟨e,rfl,rfl⟩:=BO h;refine (AdJ e).trans ?_;unfold A4;rw [Nt];cases ieq e.kind 1 <;> cases ieq e.kind 2 <;> cases ieq e.kind 3 <;> rfl
noncomputable def tbY:AK:=(121,BI λe=>iV (AZ e))::(171,BI λe=>bV (Ay e))::(172,BI λe=>bV (A4 e))::[]
theorem Mf:Ar Tryz.prog Gl tbY:=.cons p29 <| .cons p88 <| .cons p89 .nil
def MD (n:Nat) (f:Nat->E6):Lp:=⟨bmK 16 0 [0,2,3],0,bmK 16 0 [2],0,n+1⟩
def Ob (n:Nat) (f:Nat->E6) (i:Nat) (j:Nat->V):St:=⟨jsV 16 0 j [(0,.sl 6 n (λi=>eV (f i))),(2,bV false),(3,nV i)],[]⟩
def Ua (n:Nat) (f:Nat->E6) (i:Nat):Ex×St:=(.ex 0,⟨jsV 16 0 Ac [(2,bV false)],[]⟩)
def TZ (n:Nat) (f:Nat->E6) (i:Nat):Ex×St:=(.rt,⟨jsV 16 0 Ac [(2,bV false)],[]⟩)
noncomputable def It (L:LT):St->T (Ex×St):=λst=>AI tab ⟨Az tbY,L,Gl⟩ (A0 Tryz.f79 0) 0 st
section
variable (L:LT) (n:Nat) (f:Nat->E6) (i:Nat)  (j:Nat->V)
include L n f i j
theorem Ag2 (h0:ilt (ofNat i) (ofNat n)=false):Au (It L) (MD n f) (Ob n f i j)=some ((.ex 0),⟨jsV 16 0 Ac [(2,bV false)],[]⟩):=by
 exact Ad (ks:=[kn h0]) (by kernel_rfl)
theorem Ag0 (h0:ilt (ofNat i) (ofNat n)=true) (h10:ile 0 (ofNat i)=true) (h1:ieq (AZ (f i)) 0=false):Au (It L) (MD n f) (Ob n f i j)=some (.rt,⟨jsV 16 0 Ac [(2,bV false)],[]⟩):=by
 exact Ad (ks:=[kn h0,kA (kn h10) (kn h0),kN (kn h1)]) (by kernel_rfl)
theorem Ag1 (h0:ilt (ofNat i) (ofNat n)=true) (h10:ile 0 (ofNat i)=true) (h1:ieq (AZ (f i)) 0=true):Au (It L) (MD n f) (Ob n f i j)=some (.nm,⟨jsV 16 0 Ac [(0,.sl 6 n (λi=>eV (f i))),(2,bV false),(3,iV (wr .i64 (Ah (ofNat i) 1)))],[]⟩):=by
 exact Ad (ks:=[kn h0,kA (kn h10) (kn h0),kN (kn h1)]) (by kernel_rfl)
end
def AcN (n:Nat) (f:Nat->E6) :Nat->V:=lkV AD []
section
variable (L:LT) (p0:PT) (n:Nat) (f:Nat->E6) (i:Nat)
include L p0 n f i
theorem AfM  (hp0:p0 (It (onP 0 p0 (Ua n f i) L)) (Ob n f 0 (AcN n f ))=true):(A7 (An tab ⟨Az tbY,onP 0 p0 (Ua n f i) L,Gl⟩ Tryz.f79 [A9 n f] [])).sem=some ((bV true),[]):=by
 exact Ad (ks:=[kn hp0]) (by kernel_rfl)
theorem AfL  (hp0:p0 (It (onP 0 p0 (TZ n f i) L)) (Ob n f 0 (AcN n f ))=true):(A7 (An tab ⟨Az tbY,onP 0 p0 (TZ n f i) L,Gl⟩ Tryz.f79 [A9 n f] [])).sem=some ((bV false),[]):=by
 exact Ad (ks:=[kn hp0]) (by kernel_rfl)
end
def MG (n:Nat) (f:Nat->E6):Lp:=⟨bmK 21 0 [1,5,8,9,10],0,bmK 21 0 [5],0,n+1⟩
def QL (n:Nat) (f:Nat->E6) (s:Int) (i:Nat) (j:Nat->V):St:=⟨jsV 21 0 j [(1,.fn 171 []),(5,iV s),(8,.sl 6 n (λi=>eV (f i))),(9,nV n),(10,nV i)],[]⟩
def Ub (n:Nat) (f:Nat->E6) (s:Int) (i:Nat):Ex×St:=(.ex 0,⟨jsV 21 0 Ac [(5,iV s)],[]⟩)
noncomputable def Ka (L:LT):St->T (Ex×St):=λst=>AI tab ⟨Az tbY,L,Gl⟩ (A0 Tryz.f170 0) 0 st
section
variable (L:LT) (n:Nat) (f:Nat->E6) (s:Int) (i:Nat)  (j:Nat->V)
include L n f s i j
theorem Ae8 (h0:ilt (ofNat i) (ofNat n)=false):Au (Ka L) (MG n f) (QL n f s i j)=some ((.ex 0),⟨jsV 21 0 Ac [(5,iV s)],[]⟩):=by
 exact Ad (ks:=[kn h0]) (by kernel_rfl)
theorem Ae6 (h0:ilt (ofNat i) (ofNat n)=true) (h10:ile 0 (ofNat i)=true) (h1:Ay (f i)=true):Au (Ka L) (MG n f) (QL n f s i j)=some (.nm,⟨jsV 21 0 Ac [(1,.fn 171 []),(5,iV (wr .i64 (Ah s 1))),(8,.sl 6 n (λi=>eV (f i))),(9,nV n),(10,iV (wr .i64 (Ah (ofNat i) 1)))],[]⟩):=by
 exact Ad (ks:=[kn h0,kA (kn h10) (kn h0),kn h1]) (by kernel_rfl)
theorem Ae7 (h0:ilt (ofNat i) (ofNat n)=true) (h10:ile 0 (ofNat i)=true) (h1:Ay (f i)=false):Au (Ka L) (MG n f) (QL n f s i j)=some (.nm,⟨jsV 21 0 Ac [(1,.fn 171 []),(5,iV s),(8,.sl 6 n (λi=>eV (f i))),(9,nV n),(10,iV (wr .i64 (Ah (ofNat i) 1)))],[]⟩):=by
 exact Ad (ks:=[kn h0,kA (kn h10) (kn h0),kn h1]) (by kernel_rfl)
end
def Ah7 (n:Nat) (f:Nat->E6) :Nat->V:=lkV AD [(0,.sl 6 n (λi=>eV (f i))),(4,iV 0)]
theorem AfN (L:LT) (p0:PT) (n:Nat) (f:Nat->E6) (s:Int) (i:Nat)  (hp0:p0 (Ka (onP 0 p0 (Ub n f s i) L)) (QL n f 0 0 (Ah7 n f ))=true):(A7 (An tab ⟨Az tbY,onP 0 p0 (Ub n f s i) L,Gl⟩ Tryz.f170 [A9 n f,.fn 171 []] [])).sem=some ((iV s),[]):=by
 exact Ad (ks:=[kn hp0]) (by kernel_rfl)
def MH (n:Nat) (f:Nat->E6):Lp:=⟨bmK 21 0 [1,5,8,9,10],0,bmK 21 0 [5],0,n+1⟩
def QM (n:Nat) (f:Nat->E6) (s:Int) (i:Nat) (j:Nat->V):St:=⟨jsV 21 0 j [(1,.fn 172 []),(5,iV s),(8,.sl 6 n (λi=>eV (f i))),(9,nV n),(10,nV i)],[]⟩
def Uc (n:Nat) (f:Nat->E6) (s:Int) (i:Nat):Ex×St:=(.ex 0,⟨jsV 21 0 Ac [(5,iV s)],[]⟩)
noncomputable def Kb (L:LT):St->T (Ex×St):=λst=>AI tab ⟨Az tbY,L,Gl⟩ (A0 Tryz.f170 0) 0 st
section
variable (L:LT) (n:Nat) (f:Nat->E6) (s:Int) (i:Nat)  (j:Nat->V)
include L n f s i j
theorem AeB (h0:ilt (ofNat i) (ofNat n)=false):Au (Kb L) (MH n f) (QM n f s i j)=some ((.ex 0),⟨jsV 21 0 Ac [(5,iV s)],[]⟩):=by
 exact Ad (ks:=[kn h0]) (by kernel_rfl)
theorem Ae9 (h0:ilt (ofNat i) (ofNat n)=true) (h10:ile 0 (ofNat i)=true) (h1:A4 (f i)=true):Au (Kb L) (MH n f) (QM n f s i j)=some (.nm,⟨jsV 21 0 Ac [(1,.fn 172 []),(5,iV (wr .i64 (Ah s 1))),(8,.sl 6 n (λi=>eV (f i))),(9,nV n),(10,iV (wr .i64 (Ah (ofNat i) 1)))],[]⟩):=by
 exact Ad (ks:=[kn h0,kA (kn h10) (kn h0),kn h1]) (by kernel_rfl)
theorem AeA (h0:ilt (ofNat i) (ofNat n)=true) (h10:ile 0 (ofNat i)=true) (h1:A4 (f i)=false):Au (Kb L) (MH n f) (QM n f s i j)=some (.nm,⟨jsV 21 0 Ac [(1,.fn 172 []),(5,iV s),(8,.sl 6 n (λi=>eV (f i))),(9,nV n),(10,iV (wr .i64 (Ah (ofNat i) 1)))],[]⟩):=by
 exact Ad (ks:=[kn h0,kA (kn h10) (kn h0),kn h1]) (by kernel_rfl)
end
def Ah8 (n:Nat) (f:Nat->E6) :Nat->V:=lkV AD [(0,.sl 6 n (λi=>eV (f i))),(4,iV 0)]
theorem AfO (L:LT) (p0:PT) (n:Nat) (f:Nat->E6) (s:Int) (i:Nat)  (hp0:p0 (Kb (onP 0 p0 (Uc n f s i) L)) (QM n f 0 0 (Ah8 n f ))=true):(A7 (An tab ⟨Az tbY,onP 0 p0 (Uc n f s i) L,Gl⟩ Tryz.f170 [A9 n f,.fn 172 []] [])).sem=some ((iV s),[]):=by
 exact Ad (ks:=[kn hp0]) (by kernel_rfl)
def Ahm:List V->AB:=G8 λn f=>.br (Ap n) (out (bV (DX n f))) .fail
theorem Acr (L:LT) (n:Nat) (f:Nat->E6) (hn:n <= 4611686018427387904):∀ (e i:Nat) (j:Nat->V) (q:Nat),n=i+e->e<q->(∀ k,k<i->ieq (AZ (f k)) 0=true) ->
  (A3 (It L) (MD n f) q (Ob n f i j)).sem=some (match DX n f with | true=>Ua n f 0 | false=>TZ n f 0)
 | 0,i,j,q+1,h,_,hb=>by
  have:n=i:=by omega
  subst this;rw [show DX n f=true from AG.2 hb];exact Ag (Ag2 L n f _ j (Av (Nat.le_refl _)))
 | e+1,i,j,q+1,h,h2,hb=>by
  cases hp:ieq (AZ (f i)) 0 with
  | true =>
   rw [Ag (Ag1 L n f i j (ofNat_lt (by omega)) (Ci _) hp),AW,Ax (show i<n by omega) hn];exact Acr L n f hn e (i+1) Ac q (by omega) (by omega) λk hk=>by
    by_cases hki:k=i
    ·subst hki; exact hp
    ·exact hb k (by omega)
  | false =>
   have hm:DX n f=false:=by
    cases hm:DX n f with
    | false=>rfl
    | true =>have:=AG.1 hm i (by omega);rw [hp] at this;cases this
   rw [hm];exact Ag (Ag0 L n f i j (ofNat_lt (by omega)) (Ci _) hp)
theorem p98:As Tryz.prog Gl 79 Ahm:=by
 refine Am AA mixed Tryz.func79 (by kernel_rfl) (by kernel_rfl) λvs v h' h=>?_;obtain ⟨n,f,ha,hq⟩:=CW h;obtain ⟨hn,hq⟩:=Ab hq;have:=Aa hq;simp only [Prod.mk.injEq] at this;obtain ⟨rfl,rfl⟩:=this;have hn:n <= 4611686018427387904:=of_decide_eq_true hn;have hx:=Bh Mf [(0,MD n f)];have hL:=Bd [(0,MD n f)];refine ⟨_,Br Gl tbY [(0,MD n f)],[],ha,rfl,hx.1,hx.2,?_,Aw.refl _⟩;have hr:=λL i=>Acr L n f hn n 0 i (n+1) (by omega) (by omega) (λk hk=>by omega);cases hm:DX n f with
 | true =>rw [hm] at hr;exact Bb (Bc hL hL) _ (AfM _ _ n f 0 (A5 (hr _ _)))
 | false =>rw [hm] at hr;exact Bb (Bc hL hL) _ (AfL _ _ n f 0 (A5 (hr _ _)))
def Ai (p:Nat->Bool):Nat->Nat
 | 0=>0
 | i+1=>match p i with
  | true=>Ai p i+1
  | false=>Ai p i
theorem B5 (p:Nat->Bool):∀ i,Ai p i <= i
 | 0=>Nat.le_refl _
 | i+1=>by
  have:=B5 p i;unfold Ai;split <;> omega
theorem Tm (L:LT) (n:Nat) (f:Nat->E6) (hn:n <= 4611686018427387904):∀ (e i:Nat) (j:Nat->V) (q:Nat),n=i+e->e<q ->
  (A3 (Ka L) (MG n f) q (QL n f (ofNat (Ai (λk=>Ay (f k)) i)) i j)).sem=some (Ub n f (ofNat (Ai (λk=>Ay (f k)) n)) 0)
 | 0,i,j,q+1,h,_=>by
  have:n=i:=by omega
  subst this;exact Ag (Ae8 L n f _ _ j (Av (Nat.le_refl _)))
 | e+1,i,j,q+1,h,h2=>by
  have hc:=B5 (λk=>Ay (f k)) i;cases hp:Ay (f i) with
  | true =>
   rw [Ag (Ae6 L n f _ i j (ofNat_lt (by omega)) (Ci _) hp),AW,Ax (show i<n by omega) hn,Ax (show Ai (λk=>Ay (f k)) i<n by omega) hn,
    show Ai (λk=>Ay (f k)) i+1=Ai (λk=>Ay (f k)) (i+1) by rw [Ai,hp]]
   exact Tm L n f hn e (i+1) Ac q (by omega) (by omega)
  | false =>
   rw [Ag (Ae7 L n f _ i j (ofNat_lt (by omega)) (Ci _) hp),AW,Ax (show i<n by omega) hn,
    show Ai (λk=>Ay (f k)) i=Ai (λk=>Ay (f k)) (i+1) by rw [Ai,hp]]
   exact Tm L n f hn e (i+1) Ac q (by omega) (by omega)
theorem Tn (L:LT) (n:Nat) (f:Nat->E6) (hn:n <= 4611686018427387904):∀ (e i:Nat) (j:Nat->V) (q:Nat),n=i+e->e<q ->
  (A3 (Kb L) (MH n f) q (QM n f (ofNat (Ai (λk=>A4 (f k)) i)) i j)).sem=some (Uc n f (ofNat (Ai (λk=>A4 (f k)) n)) 0)
 | 0,i,j,q+1,h,_=>by
  have:n=i:=by omega
  subst this;exact Ag (AeB L n f _ _ j (Av (Nat.le_refl _)))
 | e+1,i,j,q+1,h,h2=>by
  have hc:=B5 (λk=>A4 (f k)) i;cases hp:A4 (f i) with
  | true =>
   rw [Ag (Ae9 L n f _ i j (ofNat_lt (by omega)) (Ci _) hp),AW,Ax (show i<n by omega) hn,Ax (show Ai (λk=>A4 (f k)) i<n by omega) hn,
    show Ai (λk=>A4 (f k)) i+1=Ai (λk=>A4 (f k)) (i+1) by rw [Ai,hp]]
   exact Tn L n f hn e (i+1) Ac q (by omega) (by omega)
  | false =>
   rw [Ag (AeA L n f _ i j (ofNat_lt (by omega)) (Ci _) hp),AW,Ax (show i<n by omega) hn,
    show Ai (λk=>A4 (f k)) i=Ai (λk=>A4 (f k)) (i+1) by rw [Ai,hp]]
   exact Tn L n f hn e (i+1) Ac q (by omega) (by omega)
def Uo:List V->AB
 | [v,.fn g []]=>apL v λn f=>.br (Ap n) (match Nat.beq g 171,Nat.beq g 172 with
  | true,_=>out (iV (ofNat (Ai (λk=>Ay (f k)) n)))
  | false,true=>out (iV (ofNat (Ai (λk=>A4 (f k)) n)))
  | false,false=>.fail) .fail
 | _=>.fail
theorem p87:As Tryz.prog Gl 170 Uo:=by
 refine Am AA mixed Tryz.func170 (by kernel_rfl) (by kernel_rfl) λvs v h' h=>?_;unfold Uo at h;split at h
 ·rename_i u g
  obtain ⟨n,f,ha,h1⟩:=Ce h;obtain ⟨hn,hq⟩:=Ab h1;clear h h1;have hn:n <= 4611686018427387904:=of_decide_eq_true hn;have hA:BK [u,.fn g []] [A9 n f,.fn g []]:=λS w cs hv=>by
   obtain ⟨c,l,rfl,q1,q2⟩:=hv;exact ⟨c,l,rfl,ha S w c q1,q2⟩
  split at hq
  ·rename_i h1
   have h1:=Nat.eq_of_beq_eq_true h1;subst h1;have:=Aa hq;simp only [Prod.mk.injEq] at this;obtain ⟨rfl,rfl⟩:=this;have hx:=Bh Mf [(0,MG n f)];have hL:=Bd [(0,MG n f)];exact ⟨_,Br Gl tbY [(0,MG n f)],[],hA,rfl,hx.1,hx.2,Bb (Bc hL hL) _ (AfN _ _ n f _ 0 (A5 (Tm _ n f hn n 0 _ (n+1) (by omega) (by omega)))),Aw.refl _⟩
  ·rename_i h2
   have h2:=Nat.eq_of_beq_eq_true h2;subst h2;have:=Aa hq;simp only [Prod.mk.injEq] at this;obtain ⟨rfl,rfl⟩:=this;have hx:=Bh Mf [(0,MH n f)];have hL:=Bd [(0,MH n f)];exact ⟨_,Br Gl tbY [(0,MH n f)],[],hA,rfl,hx.1,hx.2,Bb (Bc hL hL) _ (AfO _ _ n f _ 0 (A5 (Tn _ n f hn n 0 _ (n+1) (by omega) (by omega)))),Aw.refl _⟩
  ·cases hq
 ·cases h
end Go.Proofs.YtkbafjceglhjhaaGreatDoor.Ed
