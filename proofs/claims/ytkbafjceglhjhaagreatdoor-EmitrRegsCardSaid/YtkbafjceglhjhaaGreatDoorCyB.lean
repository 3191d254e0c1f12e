/-
  Loops gone through by rounds, each told by one fact. Conditions: as before.
-/
import Derived.Test.YtkbafjceglhjhaaGreatDoorSyU
import Derived.Test.YtkbafjceglhjhaaGreatDoorEdK
namespace Go.Sy
def AlP (l:Lp) (r:Ex×St):Ex×St :=
 match r.1 with
 | .nm=>(.nm,IE l.ks l.n r.2)
 | .ex i=>(.ex i,IE l.ke l.ne r.2)
 | .rt=>(.rt,IE l.ke l.ne r.2)
def Ay (f:St->T (Ex×St)) (l:Lp) (st:St):Option (Ex×St):=((f st).bind λr=>T.leaf (AlP l r)).sem
def AcZ (f:St->T (Ex×St)) (l:Lp) (m:Nat):Option (Ex×St)->Option (Ex×St)
 | some (.nm,st)=>(A4 f l m st).sem
 | some (e,st)=>some (e,st)
 | none=>none
theorem Ag {f:St->T (Ex×St)} {l:Lp} {m:Nat} {st:St} {t:Option (Ex×St)} (h:Ay f l st=t):(A4 f l (m+1) st).sem=AcZ f l m t:=by
 subst h;show ((f st).bind _).sem=_;unfold Ay;rw [CC,CC];cases (f st).sem with
 | none=>rfl
 | some r =>obtain ⟨e,s⟩:=r;cases e <;> rfl
theorem AZ {f:St->T (Ex×St)} {l:Lp} {m:Nat} {st:St}:AcZ f l m (some (.nm,st))=(A4 f l m st).sem:=rfl
theorem Qx {f:St->T (Ex×St)} {l:Lp} {m:Nat} {st:St}:AcZ f l m (some (.rt,st))=some (.rt,st):=rfl
theorem Y2 {α:Type} (x y:α):sel true x y=x:=rfl
theorem WR {α:Type} (x y:α):sel false x y=y:=rfl
def TLe {α:Type} (t t':T α):Prop:=∀ r,t.sem=some r->t'.sem=some r
theorem TLe.refl {α:Type} (t:T α):TLe t t:=λ_ h=>h
theorem TLe.bind {α β:Type} {t t':T α} {f f':α->T β} (h:TLe t t') (hf:∀ a,TLe (f a) (f' a)):TLe (t.bind f) (t'.bind f'):=λr hr=>by
 obtain ⟨a,h1,h2⟩:=Af hr;rw [CC,h a h1];exact hf a r h2
def LLe (M L:Nat->(St->T (Ex×St))->St->T (Ex×St)):Prop:=∀ id f f' st,(∀ st,TLe (f st) (f' st))->TLe (M id f st) (L id f' st)
theorem Sq {f f':St->T (Ex×St)} (h:∀ st,TLe (f st) (f' st)) (l:Lp):∀ (m:Nat) (st:St),TLe (A4 f l m st) (A4 f' l m st)
 | 0,_=>TLe.refl _
 | m+1,st=>by
  refine TLe.bind (h st) λr=>?_;cases r.1 with
  | nm=>exact Sq h l m _
  | ex i=>exact TLe.refl _
  | rt=>exact TLe.refl _
theorem Bh (ls:List (Nat×Lp)):LLe (Cv ls) (Cv ls):=λid f f' st h=>by
 unfold Cv;split
 ·exact Sq h _ _ _
 ·exact TLe.refl _
def onP (k:Nat) (p:(St->T (Ex×St))->St->Bool) (r:Ex×St) (L:Nat->(St->T (Ex×St))->St->T (Ex×St)):Nat->(St->T (Ex×St))->St->T (Ex×St) :=
 λid f st=>match Nat.beq id k with
  | true=>.br (p f st) (.leaf r) .fail
  | false=>L id f st
noncomputable def isP (L:Nat->(St->T (Ex×St))->St->T (Ex×St)) (k:Nat) (r:Ex×St):(St->T (Ex×St))->St->Bool :=
 λf st=>@decide ((L k f st).sem=some r) (Classical.propDecidable _)
theorem AA {L:Nat->(St->T (Ex×St))->St->T (Ex×St)} {k:Nat} {r:Ex×St} {f:St->T (Ex×St)} {st:St} (h:(L k f st).sem=some r):isP L k r f st=true:=by
 unfold isP;exact @decide_eq_true _ (Classical.propDecidable _) h
theorem Bg {M L:Nat->(St->T (Ex×St))->St->T (Ex×St)} {k:Nat} {r:Ex×St} (hM:LLe M L) (hL:LLe L L):LLe (onP k (isP L k r) r M) L:=λid f f' st hf r' hr=>by
 unfold onP at hr;cases hk:Nat.beq id k with
 | true =>rw [hk] at hr;obtain ⟨h1,h2⟩:=Ac hr;rw [Aa h2];unfold isP at h1;have h1:=@of_decide_eq_true _ (Classical.propDecidable _) h1;rw [Nat.eq_of_beq_eq_true hk];exact hL k f f' st hf _ h1
 | false =>rw [hk] at hr;exact hM id f f' st hf _ hr
theorem Aad {τ:List Ty} {Γ:Cx} {L L':Nat->(St->T (Ex×St))->St->T (Ex×St)} (h:LLe L L') :
  ∀ (c:Code) (id:Nat) (st:St),TLe (AL τ { Γ with loop:=L } c id st) (AL τ { Γ with loop:=L' } c id st):=by
 intro c
 induction c with
 | skip=>intro id st; exact TLe.refl _
 | region i ops draw=>intro id st; exact TLe.refl _
 | seq a b iha ihb =>
  intro id st;refine TLe.bind (iha id st) λr=>?_;cases r.1 with
  | nm=>exact ihb id r.2
  | ex j=>exact TLe.refl _
  | rt=>exact TLe.refl _
 | cond x a b iha ihb =>
  intro id st;show TLe (match ev ⟨Γ.call,Γ.glob⟩ st x with | .val (.bool q)=>T.br q (AL τ { Γ with loop:=L } a id st) (AL τ { Γ with loop:=L } b id st) | _=>.fail) (match ev ⟨Γ.call,Γ.glob⟩ st x with | .val (.bool q)=>T.br q (AL τ { Γ with loop:=L' } a id st) (AL τ { Γ with loop:=L' } b id st) | _=>.fail)
  split
  ·rename_i q _
   cases q with
   | true=>exact iha id st
   | false=>exact ihb id st
  ·exact TLe.refl _
 | block i c ih =>
  intro id st;refine TLe.bind (ih i st) λr=>?_;cases r.1 with
  | nm=>exact TLe.refl _
  | ex j=>exact TLe.refl _
  | rt=>exact TLe.refl _
 | loop c ih =>intro id st;exact h id _ _ st (ih id)
 | exit i=>intro id st; exact TLe.refl _
 | ret=>intro id st; exact TLe.refl _
 | _=>intro id st; exact TLe.refl _
theorem Bf {τ:List Ty} {call:FuncId->List V->St->T (V×Res)} {G:Nat->V} {fn:Func} {vs:List V} {L L':Nat->(St->T (Ex×St))->St->T (Ex×St)}
  (h:LLe L L'):TLe (Ax (Ak τ ⟨call,L,G⟩ fn vs [])) (Ax (Ak τ ⟨call,L',G⟩ fn vs [])):=by
 refine TLe.bind ?_ λ_=>TLe.refl _;unfold Ak;cases fn.body with
 | none=>exact TLe.refl _
 | some c=>exact TLe.bind (Aad (Γ:=⟨call,L,G⟩) h c 0 _) λ_=>TLe.refl _
def Ak1 (v:V):Blk->Blk
 | .row e s 0 _=>.row e s 0 λ_=>v
 | .jag j=>.jag { j with mem:=λi k=>XY (Acb k (j.len i)) (j.mem i k) v }
 | b=>b
def AeJ (h:List Blk) (id:Nat) (v:V):List Blk :=
 match h[id]? with
 | some b=>h.set id (Ak1 v b)
 | none=>h
def Kb (st:St):List (Nat×V)->St
 | []=>st
 | (id,v)::l=>Kb ⟨st.t,AeJ st.h id v⟩ l
theorem WC {Γ:Cx0}:∀ (l:List (Nat×V)) (st:St),LE Γ st (Kb st l)
 | [],st=>LE.refl st
 | (id,v)::l,st=>by
   refine LE.trans ?_ (WC l _);unfold AeJ;cases hb:st.h[id]? with
   | none=>exact LE.refl st
   | some b =>
    have same:st.h.set id b=st.h:=by
     have hl:=(List.getElem?_eq_some_iff.1 hb).1;have:=(List.getElem?_eq_some_iff.1 hb).2;rw [<- this,List.set_getElem_self]
    cases b with
    | row e s n g =>
     cases n with
     | zero=>exact AaS hb λj hj=>by omega
     | succ n =>show LE Γ st ⟨st.t,st.h.set id (.row e s (n+1) g)⟩;rw [same];exact LE.refl st
    | cells cs =>show LE Γ st ⟨st.t,st.h.set id (.cells cs)⟩;rw [same];exact LE.refl st
    | imap t n get =>show LE Γ st ⟨st.t,st.h.set id (.imap t n get)⟩;rw [same];exact LE.refl st
    | xrow lk e s n g =>show LE Γ st ⟨st.t,st.h.set id (.xrow lk e s n g)⟩;rw [same];exact LE.refl st
    | jag j =>
     refine AaT hb (λ_ _=>rfl) (λ_ _=>rfl) (λ_ _=>rfl) λk _ q hq=>?_;have:Acb q (j.len k)=true:=by
      unfold Acb;simpa using hq
     rw [this,FI];rfl
    | saved vs =>show LE Γ st ⟨st.t,st.h.set id (.saved vs)⟩;rw [same];exact LE.refl st
    | dead =>show LE Γ st ⟨st.t,st.h.set id .dead⟩;rw [same];exact LE.refl st
def Hb (zs:List (Nat×List (Nat×V))) (loops:List (Nat×Lp)) (id:Nat) (f:St->T (Ex×St)) (st:St):T (Ex×St) :=
 match JP id zs with
 | some l=>Cv loops id f (Kb st l)
 | none=>Cv loops id f st
theorem KT (zs:List (Nat×List (Nat×V))) (ls:List (Nat×Lp)):LLe (Hb zs ls) (Hb zs ls):=λid f f' st h=>by
 unfold Hb;split
 ·exact Bh ls id f f' _ h
 ·exact Bh ls id f f' _ h
def cxZ (G:Nat->V) (tbl:AM) (zs:List (Nat×List (Nat×V))) (loops:List (Nat×Lp)):Cx:=⟨A0 tbl,Hb zs loops,G⟩
theorem UM {P:Program} {G:Nat->V} {tbl:AM} (h:Ar P G tbl) (zs:List (Nat×List (Nat×V))) (loops:List (Nat×Lp)):Bl P (cxZ G tbl zs loops).base∧Ce (cxZ G tbl zs loops):=by
 refine ⟨FA rfl h,λid f st r hr=>?_⟩;have hr:(Hb zs loops id f st).sem=some r:=hr;have by':∀ st,(Cv loops id f st).sem=some r->LRun (cxZ G tbl zs loops).base f st r:=λst hr=>by
  unfold Cv at hr;split at hr
  ·exact Iy hr
  ·cases hr
 unfold Hb at hr;split at hr
 ·exact .weak (WC _ _) (by' _ hr)
 ·exact by' _ hr
noncomputable def isR (Γ:Cx0) (r:Ex×St):(St->T (Ex×St))->St->Bool:=λf st=>@decide (LRun Γ f st r) (Classical.propDecidable _)
end Go.Sy
namespace Go.Proofs.YtkbafjceglhjhaaGreatDoor.Ed
open Go.Sy
def Ef (n:Nat) (f:Nat->E6):Bool:=Be n λi=>ieq (Bc (f i)) 0
theorem F6 {n:Nat} {f:Nat->E6}:Ef n f=true↔∀ i,i<n->Bc (f i)=0:=by
 unfold Ef;rw [AE];simp [ieq]
theorem ND (f g:Nat->E6):∀ d i,F8 f g d i=true↔∀ j,i <= j->j<i+d->f j=g j
 | 0,i=>by
  simp only [F8,true_iff];intro j h1 h2; omega
 | d+1,i=>by
  unfold F8;cases h:eqE (f i) (g i) with
  | true =>
   have h0:=(I1 _ _).1 h;show F8 f g d (i+1)=true↔_;rw [ND f g d (i+1)];constructor
   ·intro q j h1 h2
    by_cases hj:j=i
    ·subst hj; exact h0
    ·exact q j (by omega) (by omega)
   ·intro q j h1 h2; exact q j (by omega) (by omega)
  | false =>
   constructor
   ·intro q; cases q
   ·intro q
    have:=(I1 _ _).2 (q i (Nat.le_refl _) (by omega));rw [this] at h; cases h
end Go.Proofs.YtkbafjceglhjhaaGreatDoor.Ed
namespace Go.Proofs.YtkbafjceglhjhaaGreatDoor.Ed
open Go.Sy
theorem XJ {n:Nat}:Be n (λ_=>true)=true:=AE.2 λ_ _=>rfl
def kL (n:Nat):Kn:=⟨Be n λ_=>true,true,XJ⟩
def Cu (g:Nat->V):Nat->Nat->V
 | 0=>λ_=>.und
 | i+1=>Bb i (Cu g i) (g i)
theorem JG (g:Nat->V):∀ n j,j<n->Cu g n j=g j
 | 0,j,h=>by omega
 | n+1,j,h=>by
  rw [show Cu g (n+1) j=Bb n (Cu g n) (g n) j from rfl,BB];show (bif Nat.beq j n then g n else Cu g n j)=_;cases hb:Nat.beq j n with
  | true =>rw [Nat.eq_of_beq_eq_true hb];rfl
  | false =>have:=Nat.ne_of_beq_eq_false hb;exact JG g n j (by omega)
theorem QV {i n b c:Nat} (h:i<n) (hb:b <= c) (hn:n * c <= 140737488355328):Cp i 1 b=true:=by
 refine decide_eq_true ?_;have h1:(i+1) * b <= n * b:=Nat.mul_le_mul_right b (by omega);have h2:n * b <= n * c:=Nat.mul_le_mul_left n hb;omega
theorem I0 {n:Nat} (hn:CJ n=true):n <= 4611686018427387904:=by
 have hn:n * 40 <= 140737488355328:=of_decide_eq_true hn;omega
def cdV (f:Nat->E6):Nat->V:=λi=>iV (BL (f i))
theorem SD (p:Nat->Bool):∀ n,Be n p=false->∃ e,e<n∧p e=false∧∀ t,t<e->p t=true
 | 0,h=>by cases h
 | n+1,h=>by
  cases hn:Be n p with
  | false =>obtain ⟨e,h1,h2,h3⟩:=SD p n hn;exact ⟨e,by omega,h2,h3⟩
  | true =>
   refine ⟨n,by omega,?_,λt ht=>AE.1 hn t ht⟩;cases hp:p n with
   | false=>rfl
   | true =>
    have:Be (n+1) p=true:=AE.2 λi hi=>by
     by_cases hi':i=n
     ·rw [hi',hp]
     ·exact AE.1 hn i (by omega)
    rw [this] at h; cases h
theorem Aax {e:E6} (h:Bc e ≠ 0):Bc e=30:=by
 rcases Ec e with ⟨_,_,h1,_⟩ | ⟨h1,_⟩
 ·exact absurd h1 h
 ·exact h1
theorem Zh {n:Nat} {f:Nat->E6} (h:Ef n f=false):∃ e,e<n∧Bc (f e)=30∧∀ t,t<e->Bc (f t)=0:=by
 obtain ⟨e,h1,h2,h3⟩:=SD _ n h;refine ⟨e,h1,Aax λh0=>?_,λt ht=>by simpa [ieq] using h3 t ht⟩;rw [h0] at h2;cases h2
def Aaw:List V->A9:=GK λn f=>.br (CJ n) (.br (Ef n f) (.leaf (.tup [.ref 0,iV 0],[.row 3 1 n λi=>iV (BL (f i))])) (.leaf (.tup [.ref 0,iV 30],[.row 3 1 0 λ_=>.und]))) .fail
end Go.Proofs.YtkbafjceglhjhaaGreatDoor.Ed
namespace Go.Proofs.YtkbafjceglhjhaaGreatDoor.Ed
open Go.Sy
def Gm (n:Nat):List (Nat×Lp):=[(0,⟨[],1000,[],1000,n⟩),(1,⟨[],1000,[],1000,n⟩),(2,⟨[],1000,[],1000,n⟩),(3,⟨[],1000,[],1000,n⟩),(4,⟨[],1000,[],1000,n⟩),(5,⟨[],1000,[],1000,n⟩),(6,⟨[],1000,[],1000,n⟩)]
noncomputable def cy0:AM:=[(21,Ox PX),(32,ap2 gI toE λa e=>out (Nj a e)),(28,BN λe=>iV (Bc e))]
noncomputable def B83:List V->A9:=λvs=>Ax (Ak tab (Bd Gl cy0 (Gm 30)) Tryz.f105 vs [])
noncomputable def AkC:AM:=(83,B83)::cy0
noncomputable def Amc:List V->A9:=λvs=>Ax (Ak tab (Bd Gl AkC (Gm 30)) Tryz.f193 vs [])
noncomputable def AeN:AM:=(108,Amc)::AkC
noncomputable def B88:List V->A9:=λvs=>Ax (Ak tab (Bd Gl AeN (Gm 30)) Tryz.f171 vs [])
noncomputable def AkA:AM:=(88,B88)::AeN
noncomputable def B89:List V->A9:=λvs=>Ax (Ak tab (Bd Gl AkA (Gm 30)) Tryz.f172 vs [])
noncomputable def Ak9:AM:=(89,B89)::AkA
noncomputable def B90:List V->A9:=λvs=>Ax (Ak tab (Bd Gl Ak9 (Gm 30)) Tryz.f173 vs [])
noncomputable def Ak8:AM:=(90,B90)::Ak9
noncomputable def B93:List V->A9:=λvs=>Ax (Ak tab (Bd Gl Ak8 (Gm 30)) Tryz.f176 vs [])
noncomputable def Ak6:AM:=(93,B93)::Ak8
noncomputable def B87:List V->A9:=λvs=>Ax (Ak tab (Bd Gl Ak6 (Gm 30)) Tryz.f170 vs [])
noncomputable def AkB:AM:=(87,B87)::Ak6
noncomputable def B92:List V->A9:=λvs=>Ax (Ak tab (Bd Gl AkB (Gm 30)) Tryz.f175 vs [])
noncomputable def Ak7:AM:=(92,B92)::AkB
noncomputable def B91:List V->A9:=λvs=>Ax (Ak tab (Bd Gl Ak7 (Gm 30)) Tryz.f174 vs [])
noncomputable def AlO:AM:=(91,B91)::Ak7
noncomputable def B86:List V->A9:=λvs=>Ax (Ak tab (Bd Gl AlO (Gm 30)) Tryz.f169 vs [])
end Go.Proofs.YtkbafjceglhjhaaGreatDoor.Ed
namespace Go.Proofs.YtkbafjceglhjhaaGreatDoor.Ed
open Go.Sy
open Int (ofNat)
def B8 (e:E6):Bool:=Aj (ile 1 e.kind) (ile e.kind 3)
def A2 (e:E6):Bool:=Aj (B8 e) e.ext
def A7 (e:E6):Bool:=Aj (AN (B8 e)) (AN e.same)
theorem Aba (e:E6):(Ax (Ak tab (Bd Gl [] []) Tryz.f193 [eV e] [])).sem=(sel (ile 1 (e).kind) (sel (ile 1 (e).kind) (sel (ile 1 (e).kind) (sel (ile 1 (e).kind) (some ((bV (ile (e).kind 3)),[])) (some ((bV false),[]))) (sel (ile 1 (e).kind) (some (AI,[])) (some ((bV false),[])))) (sel (ile 1 (e).kind) none (sel (ile 1 (e).kind) (some (AI,[])) (some ((bV false),[]))))) (sel (ile 1 (e).kind) none (sel (ile 1 (e).kind) none (sel (ile 1 (e).kind) (some (AI,[])) (some ((bV false),[])))))):=by kernel_rfl
theorem Alx:As Tryz.prog Gl 193 (BN λe=>bV (B8 e)):=by
 refine As.congr (AG A8 mixed Tryz.func193 (by kernel_rfl) (by kernel_rfl) (Γ:=Bd Gl [] []) (Bi Ar.nil _)) λvs r h=>?_;obtain ⟨e,rfl,rfl⟩:=BS h;refine (Aba e).trans ?_;unfold B8;cases ile 1 e.kind <;> rfl
theorem Cm (i:Nat):ile 0 (ofNat i)=true:=VG (by simp)
noncomputable def Yj:AM:=(193,BN λe=>bV (B8 e))::[]
theorem Vk:Ar Tryz.prog Gl Yj:=.cons Alx .nil
theorem AfG (e:E6):(Ax (Ak tab (Bd Gl Yj []) Tryz.f171 [eV e] [])).sem=(sel (B8 e) (sel (B8 e) (sel (B8 e) (some ((bV (e).ext),[])) (some ((bV false),[]))) (sel (B8 e) (some (AI,[])) (some ((bV false),[])))) (sel (B8 e) none (sel (B8 e) (some (AI,[])) (some ((bV false),[]))))):=by kernel_rfl
theorem p88:As Tryz.prog Gl 171 (BN λe=>bV (A2 e)):=by
 refine As.congr (AG A8 mixed Tryz.func171 (by kernel_rfl) (by kernel_rfl) (Γ:=Bd Gl Yj []) (Bi Vk _)) λvs r h=>?_;obtain ⟨e,rfl,rfl⟩:=BS h;refine (AfG e).trans ?_;unfold A2;cases B8 e <;> rfl
theorem AfF (e:E6):(Ax (Ak tab (Bd Gl Yj []) Tryz.f172 [eV e] [])).sem=(sel (AN (B8 e)) (sel (AN (B8 e)) (sel (AN (B8 e)) (sel (AN (B8 e)) (some ((bV (AN (e).same)),[])) (some ((bV false),[]))) (sel (AN (B8 e)) (some (AI,[])) (some ((bV false),[])))) (sel (AN (B8 e)) none (sel (AN (B8 e)) (some (AI,[])) (some ((bV false),[]))))) (sel (AN (B8 e)) none (sel (AN (B8 e)) none (sel (AN (B8 e)) (some (AI,[])) (some ((bV false),[])))))):=by kernel_rfl
theorem p89:As Tryz.prog Gl 172 (BN λe=>bV (A7 e)):=by
 refine As.congr (AG A8 mixed Tryz.func172 (by kernel_rfl) (by kernel_rfl) (Γ:=Bd Gl Yj []) (Bi Vk _)) λvs r h=>?_;obtain ⟨e,rfl,rfl⟩:=BS h;refine (AfF e).trans ?_;unfold A7;cases B8 e <;> rfl
theorem NI (e:E6):B8 e=bor (ieq e.kind 1) (bor (ieq e.kind 2) (ieq e.kind 3)):=by
 unfold B8;rw [Bool.eq_iff_iff];simp [Aj,bor,ile,ieq];omega
theorem AfI (e:E6):(Ax (Ak tab (Bd Gl [] []) Tryz.f152 [eV e] [])).sem=(sel (ieq (e).kind 1) (sel (ieq (e).kind 1) (sel (ieq (e).kind 1) (sel (ieq (e).kind 1) (some ((bV (e).ext),[])) none) none) none) (sel (ieq (e).kind 1) (sel (ieq (e).kind 1) (sel (ieq (e).kind 1) (some ((bV (e).ext),[])) none) none) (sel (ieq (e).kind 1) (sel (ieq (e).kind 1) (some ((bV (e).ext),[])) none) (sel (ieq (e).kind 1) (some ((bV (e).ext),[])) (sel (ieq (e).kind 2) (sel (ieq (e).kind 2) (sel (ieq (e).kind 2) (sel (ieq (e).kind 2) (some ((bV (e).ext),[])) none) none) none) (sel (ieq (e).kind 2) (sel (ieq (e).kind 2) (sel (ieq (e).kind 2) (some ((bV (e).ext),[])) none) none) (sel (ieq (e).kind 2) (sel (ieq (e).kind 2) (some ((bV (e).ext),[])) none) (sel (ieq (e).kind 2) (some ((bV (e).ext),[])) (sel (ieq (e).kind 3) (sel (ieq (e).kind 3) (sel (ieq (e).kind 3) (some ((bV (e).ext),[])) (some ((bV false),[]))) (sel (ieq (e).kind 3) (some (AI,[])) (some ((bV false),[])))) (sel (ieq (e).kind 3) none (sel (ieq (e).kind 3) (some (AI,[])) (some ((bV false),[]))))))))))))):=by kernel_rfl
theorem p60:As Tryz.prog Gl 152 (BN λe=>bV (A2 e)):=by
 refine As.congr (AG A8 mixed Tryz.func152 (by kernel_rfl) (by kernel_rfl) (Γ:=Bd Gl [] []) (Bi Ar.nil _)) λvs r h=>?_;obtain ⟨e,rfl,rfl⟩:=BS h;refine (AfI e).trans ?_;unfold A2;rw [NI];cases ieq e.kind 1 <;> cases ieq e.kind 2 <;> cases ieq e.kind 3 <;> rfl
theorem AfH (e:E6):(Ax (Ak tab (Bd Gl [] []) Tryz.f153 [eV e] [])).sem=(sel (AN (ieq (e).kind 1)) (sel (AN (ieq (e).kind 1)) (sel (AN (ieq (e).kind 1)) (sel (AN (ieq (e).kind 1)) (sel (AN (ieq (e).kind 2)) (sel (AN (ieq (e).kind 2)) (sel (AN (ieq (e).kind 2)) (sel (AN (ieq (e).kind 2)) (sel (AN (ieq (e).kind 3)) (sel (AN (ieq (e).kind 3)) (sel (AN (ieq (e).kind 3)) (sel (AN (ieq (e).kind 3)) (some ((bV (AN (e).same)),[])) (some ((bV false),[]))) (sel (AN (ieq (e).kind 3)) (some (AI,[])) (some ((bV false),[])))) (sel (AN (ieq (e).kind 3)) none (sel (AN (ieq (e).kind 3)) (some (AI,[])) (some ((bV false),[]))))) (sel (AN (ieq (e).kind 3)) none (sel (AN (ieq (e).kind 3)) none (sel (AN (ieq (e).kind 3)) (some (AI,[])) (some ((bV false),[])))))) (some ((bV false),[]))) (sel (AN (ieq (e).kind 2)) none (some ((bV false),[])))) (sel (AN (ieq (e).kind 2)) none (sel (AN (ieq (e).kind 2)) none (some ((bV false),[]))))) (sel (AN (ieq (e).kind 2)) none (sel (AN (ieq (e).kind 2)) none (sel (AN (ieq (e).kind 2)) none (some ((bV false),[])))))) (some ((bV false),[]))) (sel (AN (ieq (e).kind 1)) none (some ((bV false),[])))) (sel (AN (ieq (e).kind 1)) none (sel (AN (ieq (e).kind 1)) none (some ((bV false),[]))))) (sel (AN (ieq (e).kind 1)) none (sel (AN (ieq (e).kind 1)) none (sel (AN (ieq (e).kind 1)) none (some ((bV false),[])))))):=by kernel_rfl
theorem p61:As Tryz.prog Gl 153 (BN λe=>bV (A7 e)):=by
 refine As.congr (AG A8 mixed Tryz.func153 (by kernel_rfl) (by kernel_rfl) (Γ:=Bd Gl [] []) (Bi Ar.nil _)) λvs r h=>?_;obtain ⟨e,rfl,rfl⟩:=BS h;refine (AfH e).trans ?_;unfold A7;rw [NI];cases ieq e.kind 1 <;> cases ieq e.kind 2 <;> cases ieq e.kind 3 <;> rfl
noncomputable def tbY:AM:=(121,BN λe=>iV (Bc e))::(171,BN λe=>bV (A2 e))::(172,BN λe=>bV (A7 e))::[]
theorem Mz:Ar Tryz.prog Gl tbY:=.cons p29 <| .cons p88 <| .cons p89 .nil
def MX (n:Nat) (f:Nat->E6):Lp:=⟨bmK 16 0 [0,2,3],0,bmK 16 0 [2],0,n+1⟩
def O3 (n:Nat) (f:Nat->E6) (i:Nat) (j:Nat->V):St:=⟨jsV 16 0 j [(0,.sl 6 n (λi=>eV (f i))),(2,bV false),(3,nV i)],[]⟩
def UB (n:Nat) (f:Nat->E6) (i:Nat):Ex×St:=(.ex 0,⟨jsV 16 0 Ab [(2,bV false)],[]⟩)
def UA (n:Nat) (f:Nat->E6) (i:Nat):Ex×St:=(.rt,⟨jsV 16 0 Ab [(2,bV false)],[]⟩)
noncomputable def I4 (L:LT):St->T (Ex×St):=λst=>AL tab ⟨A0 tbY,L,Gl⟩ (A3 Tryz.f79 0) 0 st
section
variable (L:LT) (n:Nat) (f:Nat->E6) (i:Nat)  (j:Nat->V)
include L n f i j
theorem AiN (h0:ilt (ofNat i) (ofNat n)=false):Ay (I4 L) (MX n f) (O3 n f i j)=some ((.ex 0),⟨jsV 16 0 Ab [(2,bV false)],[]⟩):=by
 exact Ad (ks:=[kn h0]) (by kernel_rfl)
theorem AiL (h0:ilt (ofNat i) (ofNat n)=true) (h10:ile 0 (ofNat i)=true) (h1:ieq (Bc (f i)) 0=false):Ay (I4 L) (MX n f) (O3 n f i j)=some (.rt,⟨jsV 16 0 Ab [(2,bV false)],[]⟩):=by
 exact Ad (ks:=[kn h0,kA (kn h10) (kn h0),kN (kn h1)]) (by kernel_rfl)
theorem AiM (h0:ilt (ofNat i) (ofNat n)=true) (h10:ile 0 (ofNat i)=true) (h1:ieq (Bc (f i)) 0=true):Ay (I4 L) (MX n f) (O3 n f i j)=some (.nm,⟨jsV 16 0 Ab [(0,.sl 6 n (λi=>eV (f i))),(2,bV false),(3,iV (wr .i64 (Ah (ofNat i) 1)))],[]⟩):=by
 exact Ad (ks:=[kn h0,kA (kn h10) (kn h0),kN (kn h1)]) (by kernel_rfl)
end
def Aez (n:Nat) (f:Nat->E6) :Nat->V:=lkV AI []
section
variable (L:LT) (p0:PT) (n:Nat) (f:Nat->E6) (i:Nat)
include L p0 n f i
theorem Aid  (hp0:p0 (I4 (onP 0 p0 (UB n f i) L)) (O3 n f 0 (Aez n f ))=true):(Ax (Ak tab ⟨A0 tbY,onP 0 p0 (UB n f i) L,Gl⟩ Tryz.f79 [AC n f] [])).sem=some ((bV true),[]):=by
 exact Ad (ks:=[kn hp0]) (by kernel_rfl)
theorem Aic  (hp0:p0 (I4 (onP 0 p0 (UA n f i) L)) (O3 n f 0 (Aez n f ))=true):(Ax (Ak tab ⟨A0 tbY,onP 0 p0 (UA n f i) L,Gl⟩ Tryz.f79 [AC n f] [])).sem=some ((bV false),[]):=by
 exact Ad (ks:=[kn hp0]) (by kernel_rfl)
end
def Na (n:Nat) (f:Nat->E6):Lp:=⟨bmK 21 0 [1,5,8,9,10],0,bmK 21 0 [5],0,n+1⟩
def Rw (n:Nat) (f:Nat->E6) (s:Int) (i:Nat) (j:Nat->V):St:=⟨jsV 21 0 j [(1,.fn 171 []),(5,iV s),(8,.sl 6 n (λi=>eV (f i))),(9,nV n),(10,nV i)],[]⟩
def UC (n:Nat) (f:Nat->E6) (s:Int) (i:Nat):Ex×St:=(.ex 0,⟨jsV 21 0 Ab [(5,iV s)],[]⟩)
noncomputable def Ks (L:LT):St->T (Ex×St):=λst=>AL tab ⟨A0 tbY,L,Gl⟩ (A3 Tryz.f170 0) 0 st
section
variable (L:LT) (n:Nat) (f:Nat->E6) (s:Int) (i:Nat)  (j:Nat->V)
include L n f s i j
theorem AgC (h0:ilt (ofNat i) (ofNat n)=false):Ay (Ks L) (Na n f) (Rw n f s i j)=some ((.ex 0),⟨jsV 21 0 Ab [(5,iV s)],[]⟩):=by
 exact Ad (ks:=[kn h0]) (by kernel_rfl)
theorem AgA (h0:ilt (ofNat i) (ofNat n)=true) (h10:ile 0 (ofNat i)=true) (h1:A2 (f i)=true):Ay (Ks L) (Na n f) (Rw n f s i j)=some (.nm,⟨jsV 21 0 Ab [(1,.fn 171 []),(5,iV (wr .i64 (Ah s 1))),(8,.sl 6 n (λi=>eV (f i))),(9,nV n),(10,iV (wr .i64 (Ah (ofNat i) 1)))],[]⟩):=by
 exact Ad (ks:=[kn h0,kA (kn h10) (kn h0),kn h1]) (by kernel_rfl)
theorem AgB (h0:ilt (ofNat i) (ofNat n)=true) (h10:ile 0 (ofNat i)=true) (h1:A2 (f i)=false):Ay (Ks L) (Na n f) (Rw n f s i j)=some (.nm,⟨jsV 21 0 Ab [(1,.fn 171 []),(5,iV s),(8,.sl 6 n (λi=>eV (f i))),(9,nV n),(10,iV (wr .i64 (Ah (ofNat i) 1)))],[]⟩):=by
 exact Ad (ks:=[kn h0,kA (kn h10) (kn h0),kn h1]) (by kernel_rfl)
end
def Akb (n:Nat) (f:Nat->E6) :Nat->V:=lkV AI [(0,.sl 6 n (λi=>eV (f i))),(4,iV 0)]
theorem Aie (L:LT) (p0:PT) (n:Nat) (f:Nat->E6) (s:Int) (i:Nat)  (hp0:p0 (Ks (onP 0 p0 (UC n f s i) L)) (Rw n f 0 0 (Akb n f ))=true):(Ax (Ak tab ⟨A0 tbY,onP 0 p0 (UC n f s i) L,Gl⟩ Tryz.f170 [AC n f,.fn 171 []] [])).sem=some ((iV s),[]):=by
 exact Ad (ks:=[kn hp0]) (by kernel_rfl)
def Nb (n:Nat) (f:Nat->E6):Lp:=⟨bmK 21 0 [1,5,8,9,10],0,bmK 21 0 [5],0,n+1⟩
def Rx (n:Nat) (f:Nat->E6) (s:Int) (i:Nat) (j:Nat->V):St:=⟨jsV 21 0 j [(1,.fn 172 []),(5,iV s),(8,.sl 6 n (λi=>eV (f i))),(9,nV n),(10,nV i)],[]⟩
def UD (n:Nat) (f:Nat->E6) (s:Int) (i:Nat):Ex×St:=(.ex 0,⟨jsV 21 0 Ab [(5,iV s)],[]⟩)
noncomputable def Kt (L:LT):St->T (Ex×St):=λst=>AL tab ⟨A0 tbY,L,Gl⟩ (A3 Tryz.f170 0) 0 st
section
variable (L:LT) (n:Nat) (f:Nat->E6) (s:Int) (i:Nat)  (j:Nat->V)
include L n f s i j
theorem AgF (h0:ilt (ofNat i) (ofNat n)=false):Ay (Kt L) (Nb n f) (Rx n f s i j)=some ((.ex 0),⟨jsV 21 0 Ab [(5,iV s)],[]⟩):=by
 exact Ad (ks:=[kn h0]) (by kernel_rfl)
theorem AgD (h0:ilt (ofNat i) (ofNat n)=true) (h10:ile 0 (ofNat i)=true) (h1:A7 (f i)=true):Ay (Kt L) (Nb n f) (Rx n f s i j)=some (.nm,⟨jsV 21 0 Ab [(1,.fn 172 []),(5,iV (wr .i64 (Ah s 1))),(8,.sl 6 n (λi=>eV (f i))),(9,nV n),(10,iV (wr .i64 (Ah (ofNat i) 1)))],[]⟩):=by
 exact Ad (ks:=[kn h0,kA (kn h10) (kn h0),kn h1]) (by kernel_rfl)
theorem AgE (h0:ilt (ofNat i) (ofNat n)=true) (h10:ile 0 (ofNat i)=true) (h1:A7 (f i)=false):Ay (Kt L) (Nb n f) (Rx n f s i j)=some (.nm,⟨jsV 21 0 Ab [(1,.fn 172 []),(5,iV s),(8,.sl 6 n (λi=>eV (f i))),(9,nV n),(10,iV (wr .i64 (Ah (ofNat i) 1)))],[]⟩):=by
 exact Ad (ks:=[kn h0,kA (kn h10) (kn h0),kn h1]) (by kernel_rfl)
end
def Akc (n:Nat) (f:Nat->E6) :Nat->V:=lkV AI [(0,.sl 6 n (λi=>eV (f i))),(4,iV 0)]
theorem Aif (L:LT) (p0:PT) (n:Nat) (f:Nat->E6) (s:Int) (i:Nat)  (hp0:p0 (Kt (onP 0 p0 (UD n f s i) L)) (Rx n f 0 0 (Akc n f ))=true):(Ax (Ak tab ⟨A0 tbY,onP 0 p0 (UD n f s i) L,Gl⟩ Tryz.f170 [AC n f,.fn 172 []] [])).sem=some ((iV s),[]):=by
 exact Ad (ks:=[kn hp0]) (by kernel_rfl)
def AjA:List V->A9:=GK λn f=>.br (Ao n) (out (bV (Ef n f))) .fail
theorem AdO (L:LT) (n:Nat) (f:Nat->E6) (hn:n <= 4611686018427387904):∀ (e i:Nat) (j:Nat->V) (q:Nat),n=i+e->e<q->(∀ k,k<i->ieq (Bc (f k)) 0=true) ->
  (A4 (I4 L) (MX n f) q (O3 n f i j)).sem=some (match Ef n f with | true=>UB n f 0 | false=>UA n f 0)
 | 0,i,j,q+1,h,_,hb=>by
  have:n=i:=by omega
  subst this;rw [show Ef n f=true from AE.2 hb];exact Ag (AiN L n f _ j (Au (Nat.le_refl _)))
 | e+1,i,j,q+1,h,h2,hb=>by
  cases hp:ieq (Bc (f i)) 0 with
  | true =>
   rw [Ag (AiM L n f i j (ofNat_lt (by omega)) (Cm _) hp),AZ,A1 (show i<n by omega) hn];exact AdO L n f hn e (i+1) Ab q (by omega) (by omega) λk hk=>by
    by_cases hki:k=i
    ·subst hki; exact hp
    ·exact hb k (by omega)
  | false =>
   have hm:Ef n f=false:=by
    cases hm:Ef n f with
    | false=>rfl
    | true =>have:=AE.1 hm i (by omega);rw [hp] at this;cases this
   rw [hm];exact Ag (AiL L n f i j (ofNat_lt (by omega)) (Cm _) hp)
theorem p98:As Tryz.prog Gl 79 AjA:=by
 refine Am A8 mixed Tryz.func79 (by kernel_rfl) (by kernel_rfl) λvs v h' h=>?_;obtain ⟨n,f,ha,hq⟩:=Dd h;obtain ⟨hn,hq⟩:=Ac hq;have:=Aa hq;simp only [Prod.mk.injEq] at this;obtain ⟨rfl,rfl⟩:=this;have hn:n <= 4611686018427387904:=of_decide_eq_true hn;have hx:=Bi Mz [(0,MX n f)];have hL:=Bh [(0,MX n f)];refine ⟨_,Bd Gl tbY [(0,MX n f)],[],ha,rfl,hx.1,hx.2,?_,Aw.refl _⟩;have hr:=λL i=>AdO L n f hn n 0 i (n+1) (by omega) (by omega) (λk hk=>by omega);cases hm:Ef n f with
 | true =>rw [hm] at hr;exact Bf (Bg hL hL) _ (Aid _ _ n f 0 (AA (hr _ _)))
 | false =>rw [hm] at hr;exact Bf (Bg hL hL) _ (Aic _ _ n f 0 (AA (hr _ _)))
def Ai (p:Nat->Bool):Nat->Nat
 | 0=>0
 | i+1=>match p i with
  | true=>Ai p i+1
  | false=>Ai p i
theorem By (p:Nat->Bool):∀ i,Ai p i <= i
 | 0=>Nat.le_refl _
 | i+1=>by
  have:=By p i;unfold Ai;split <;> omega
theorem TV (L:LT) (n:Nat) (f:Nat->E6) (hn:n <= 4611686018427387904):∀ (e i:Nat) (j:Nat->V) (q:Nat),n=i+e->e<q ->
  (A4 (Ks L) (Na n f) q (Rw n f (ofNat (Ai (λk=>A2 (f k)) i)) i j)).sem=some (UC n f (ofNat (Ai (λk=>A2 (f k)) n)) 0)
 | 0,i,j,q+1,h,_=>by
  have:n=i:=by omega
  subst this;exact Ag (AgC L n f _ _ j (Au (Nat.le_refl _)))
 | e+1,i,j,q+1,h,h2=>by
  have hc:=By (λk=>A2 (f k)) i;cases hp:A2 (f i) with
  | true =>
   rw [Ag (AgA L n f _ i j (ofNat_lt (by omega)) (Cm _) hp),AZ,A1 (show i<n by omega) hn,A1 (show Ai (λk=>A2 (f k)) i<n by omega) hn,
    show Ai (λk=>A2 (f k)) i+1=Ai (λk=>A2 (f k)) (i+1) by rw [Ai,hp]]
   exact TV L n f hn e (i+1) Ab q (by omega) (by omega)
  | false =>
   rw [Ag (AgB L n f _ i j (ofNat_lt (by omega)) (Cm _) hp),AZ,A1 (show i<n by omega) hn,
    show Ai (λk=>A2 (f k)) i=Ai (λk=>A2 (f k)) (i+1) by rw [Ai,hp]]
   exact TV L n f hn e (i+1) Ab q (by omega) (by omega)
theorem TW (L:LT) (n:Nat) (f:Nat->E6) (hn:n <= 4611686018427387904):∀ (e i:Nat) (j:Nat->V) (q:Nat),n=i+e->e<q ->
  (A4 (Kt L) (Nb n f) q (Rx n f (ofNat (Ai (λk=>A7 (f k)) i)) i j)).sem=some (UD n f (ofNat (Ai (λk=>A7 (f k)) n)) 0)
 | 0,i,j,q+1,h,_=>by
  have:n=i:=by omega
  subst this;exact Ag (AgF L n f _ _ j (Au (Nat.le_refl _)))
 | e+1,i,j,q+1,h,h2=>by
  have hc:=By (λk=>A7 (f k)) i;cases hp:A7 (f i) with
  | true =>
   rw [Ag (AgD L n f _ i j (ofNat_lt (by omega)) (Cm _) hp),AZ,A1 (show i<n by omega) hn,A1 (show Ai (λk=>A7 (f k)) i<n by omega) hn,
    show Ai (λk=>A7 (f k)) i+1=Ai (λk=>A7 (f k)) (i+1) by rw [Ai,hp]]
   exact TW L n f hn e (i+1) Ab q (by omega) (by omega)
  | false =>
   rw [Ag (AgE L n f _ i j (ofNat_lt (by omega)) (Cm _) hp),AZ,A1 (show i<n by omega) hn,
    show Ai (λk=>A7 (f k)) i=Ai (λk=>A7 (f k)) (i+1) by rw [Ai,hp]]
   exact TW L n f hn e (i+1) Ab q (by omega) (by omega)
def UO:List V->A9
 | [v,.fn g []]=>apL v λn f=>.br (Ao n) (match Nat.beq g 171,Nat.beq g 172 with
  | true,_=>out (iV (ofNat (Ai (λk=>A2 (f k)) n)))
  | false,true=>out (iV (ofNat (Ai (λk=>A7 (f k)) n)))
  | false,false=>.fail) .fail
 | _=>.fail
theorem p87:As Tryz.prog Gl 170 UO:=by
 refine Am A8 mixed Tryz.func170 (by kernel_rfl) (by kernel_rfl) λvs v h' h=>?_;unfold UO at h;split at h
 ·rename_i u g
  obtain ⟨n,f,ha,h1⟩:=Ck h;obtain ⟨hn,hq⟩:=Ac h1;clear h h1;have hn:n <= 4611686018427387904:=of_decide_eq_true hn;have hA:BC [u,.fn g []] [AC n f,.fn g []]:=λS w cs hv=>by
   obtain ⟨c,l,rfl,q1,q2⟩:=hv;exact ⟨c,l,rfl,ha S w c q1,q2⟩
  split at hq
  ·rename_i h1
   have h1:=Nat.eq_of_beq_eq_true h1;subst h1;have:=Aa hq;simp only [Prod.mk.injEq] at this;obtain ⟨rfl,rfl⟩:=this;have hx:=Bi Mz [(0,Na n f)];have hL:=Bh [(0,Na n f)];exact ⟨_,Bd Gl tbY [(0,Na n f)],[],hA,rfl,hx.1,hx.2,Bf (Bg hL hL) _ (Aie _ _ n f _ 0 (AA (TV _ n f hn n 0 _ (n+1) (by omega) (by omega)))),Aw.refl _⟩
  ·rename_i h2
   have h2:=Nat.eq_of_beq_eq_true h2;subst h2;have:=Aa hq;simp only [Prod.mk.injEq] at this;obtain ⟨rfl,rfl⟩:=this;have hx:=Bi Mz [(0,Nb n f)];have hL:=Bh [(0,Nb n f)];exact ⟨_,Bd Gl tbY [(0,Nb n f)],[],hA,rfl,hx.1,hx.2,Bf (Bg hL hL) _ (Aif _ _ n f _ 0 (AA (TW _ n f hn n 0 _ (n+1) (by omega) (by omega)))),Aw.refl _⟩
  ·cases hq
 ·cases h
end Go.Proofs.YtkbafjceglhjhaaGreatDoor.Ed
