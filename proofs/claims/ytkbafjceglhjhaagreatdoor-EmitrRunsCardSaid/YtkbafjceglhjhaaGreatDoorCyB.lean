/-
  Loops gone through by rounds, each told by one fact. Conditions: as before.
-/
import Derived.Test.YtkbafjceglhjhaaGreatDoorSyS
import Derived.Test.YtkbafjceglhjhaaGreatDoorEdK
namespace Go.Sy
def Apr (l:Lp) (r:Ex×St):Ex×St :=
 match r.1 with
 | .nm=>(.nm,Hv l.ks l.n r.2)
 | .ex i=>(.ex i,Hv l.ke l.ne r.2)
 | .rt=>(.rt,Hv l.ke l.ne r.2)
def A1 (f:St->T (Ex×St)) (l:Lp) (st:St):Option (Ex×St):=((f st).bind λr=>T.leaf (Apr l r)).sem
def Ade (f:St->T (Ex×St)) (l:Lp) (m:Nat):Option (Ex×St)->Option (Ex×St)
 | some (.nm,st)=>(A4 f l m st).sem
 | some (e,st)=>some (e,st)
 | none=>none
theorem Ah {f:St->T (Ex×St)} {l:Lp} {m:Nat} {st:St} {t:Option (Ex×St)} (h:A1 f l st=t):(A4 f l (m+1) st).sem=Ade f l m t:=by
 subst h;show ((f st).bind _).sem=_;unfold A1;rw [C7,C7];cases (f st).sem with
 | none=>rfl
 | some r =>obtain ⟨e,s⟩:=r;cases e <;> rfl
theorem AY {f:St->T (Ex×St)} {l:Lp} {m:Nat} {st:St}:Ade f l m (some (.nm,st))=(A4 f l m st).sem:=rfl
theorem SO {f:St->T (Ex×St)} {l:Lp} {m:Nat} {st:St}:Ade f l m (some (.rt,st))=some (.rt,st):=rfl
theorem Abj {α:Type} (x y:α):sel true x y=x:=rfl
theorem Zu {α:Type} (x y:α):sel false x y=y:=rfl
def TLe {α:Type} (t t':T α):Prop:=∀ r,t.sem=some r->t'.sem=some r
theorem TLe.refl {α:Type} (t:T α):TLe t t:=λ_ h=>h
theorem TLe.bind {α β:Type} {t t':T α} {f f':α->T β} (h:TLe t t') (hf:∀ a,TLe (f a) (f' a)):TLe (t.bind f) (t'.bind f'):=λr hr=>by
 obtain ⟨a,h1,h2⟩:=Ag hr;rw [C7,h a h1];exact hf a r h2
def LLe (M L:Nat->(St->T (Ex×St))->St->T (Ex×St)):Prop:=∀ id f f' st,(∀ st,TLe (f st) (f' st))->TLe (M id f st) (L id f' st)
theorem UK {f f':St->T (Ex×St)} (h:∀ st,TLe (f st) (f' st)) (l:Lp):∀ (m:Nat) (st:St),TLe (A4 f l m st) (A4 f' l m st)
 | 0,_=>TLe.refl _
 | m+1,st=>by
  refine TLe.bind (h st) λr=>?_;cases r.1 with
  | nm=>exact UK h l m _
  | ex i=>exact TLe.refl _
  | rt=>exact TLe.refl _
theorem Bq (ls:List (Nat×Lp)):LLe (Cb ls) (Cb ls):=λid f f' st h=>by
 unfold Cb;split
 ·exact UK h _ _ _
 ·exact TLe.refl _
def onP (k:Nat) (p:(St->T (Ex×St))->St->Bool) (r:Ex×St) (L:Nat->(St->T (Ex×St))->St->T (Ex×St)):Nat->(St->T (Ex×St))->St->T (Ex×St) :=
 λid f st=>match Nat.beq id k with
  | true=>.br (p f st) (.leaf r) .fail
  | false=>L id f st
noncomputable def isP (L:Nat->(St->T (Ex×St))->St->T (Ex×St)) (k:Nat) (r:Ex×St):(St->T (Ex×St))->St->Bool :=
 λf st=>@decide ((L k f st).sem=some r) (Classical.propDecidable _)
theorem AB {L:Nat->(St->T (Ex×St))->St->T (Ex×St)} {k:Nat} {r:Ex×St} {f:St->T (Ex×St)} {st:St} (h:(L k f st).sem=some r):isP L k r f st=true:=by
 unfold isP;exact @decide_eq_true _ (Classical.propDecidable _) h
theorem Bm {M L:Nat->(St->T (Ex×St))->St->T (Ex×St)} {k:Nat} {r:Ex×St} (hM:LLe M L) (hL:LLe L L):LLe (onP k (isP L k r) r M) L:=λid f f' st hf r' hr=>by
 unfold onP at hr;cases hk:Nat.beq id k with
 | true =>rw [hk] at hr;obtain ⟨h1,h2⟩:=Ad hr;rw [Aa h2];unfold isP at h1;have h1:=@of_decide_eq_true _ (Classical.propDecidable _) h1;rw [Nat.eq_of_beq_eq_true hk];exact hL k f f' st hf _ h1
 | false =>rw [hk] at hr;exact hM id f f' st hf _ hr
theorem P2 {τ:List Ty} {Γ:Cx} {L L':Nat->(St->T (Ex×St))->St->T (Ex×St)} (h:LLe L L') :
  ∀ (c:Code) (id:Nat) (st:St),TLe (AK τ { Γ with loop:=L } c id st) (AK τ { Γ with loop:=L' } c id st):=by
 intro c
 induction c with
 | skip=>intro id st; exact TLe.refl _
 | region i ops draw=>intro id st; exact TLe.refl _
 | seq a b iha ihb =>
  intro id st;refine TLe.bind (iha id st) λr=>?_;cases r.1 with
  | nm=>exact ihb id r.2
  | ex j=>exact TLe.refl _
  | rt=>exact TLe.refl _
 | cond x a b iha ihb =>
  intro id st;show TLe (match ev ⟨Γ.call,Γ.glob⟩ st x with | .val (.bool q)=>T.br q (AK τ { Γ with loop:=L } a id st) (AK τ { Γ with loop:=L } b id st) | _=>.fail) (match ev ⟨Γ.call,Γ.glob⟩ st x with | .val (.bool q)=>T.br q (AK τ { Γ with loop:=L' } a id st) (AK τ { Γ with loop:=L' } b id st) | _=>.fail)
  split
  ·rename_i q _
   cases q with
   | true=>exact iha id st
   | false=>exact ihb id st
  ·exact TLe.refl _
 | block i c ih =>
  intro id st;refine TLe.bind (ih i st) λr=>?_;cases r.1 with
  | nm=>exact TLe.refl _
  | ex j=>exact TLe.refl _
  | rt=>exact TLe.refl _
 | loop c ih =>intro id st;exact h id _ _ st (ih id)
 | exit i=>intro id st; exact TLe.refl _
 | ret=>intro id st; exact TLe.refl _
 | _=>intro id st; exact TLe.refl _
theorem Bp {τ:List Ty} {call:FuncId->List V->St->T (V×Res)} {G:Nat->V} {fn:Func} {vs:List V} {L L':Nat->(St->T (Ex×St))->St->T (Ex×St)}
  (h:LLe L L'):TLe (Ay (Aj τ ⟨call,L,G⟩ fn vs [])) (Ay (Aj τ ⟨call,L',G⟩ fn vs [])):=by
 refine TLe.bind ?_ λ_=>TLe.refl _;unfold Aj;cases fn.body with
 | none=>exact TLe.refl _
 | some c=>exact TLe.bind (P2 (Γ:=⟨call,L,G⟩) h c 0 _) λ_=>TLe.refl _
theorem QC {f f':St->T (Ex×St)} {l:Lp} {st:St} {r:Ex×St} (h:TLe (f st) (f' st)) (hr:A1 f l st=some r):A1 f' l st=some r:=TLe.bind h (λ_=>TLe.refl _) r hr
def AoY (v:V):Blk->Blk
 | .row e s 0 _=>.row e s 0 λ_=>v
 | .jag j=>.jag { j with mem:=λi k=>RI (OK k (j.len i)) (j.mem i k) v }
 | b=>b
def Ai2 (h:List Blk) (id:Nat) (v:V):List Blk :=
 match h[id]? with
 | some b=>h.set id (AoY v b)
 | none=>h
def L6 (st:St):List (Nat×V)->St
 | []=>st
 | (id,v)::l=>L6 ⟨st.t,Ai2 st.h id v⟩ l
theorem Zd {Γ:Cx0}:∀ (l:List (Nat×V)) (st:St),LE Γ st (L6 st l)
 | [],st=>LE.refl st
 | (id,v)::l,st=>by
   refine LE.trans ?_ (Zd l _);unfold Ai2;cases hb:st.h[id]? with
   | none=>exact LE.refl st
   | some b =>
    have same:st.h.set id b=st.h:=by
     have hl:=(List.getElem?_eq_some_iff.1 hb).1;have:=(List.getElem?_eq_some_iff.1 hb).2;rw [<- this,List.set_getElem_self]
    cases b with
    | row e s n g =>
     cases n with
     | zero=>exact Aek hb λj hj=>by omega
     | succ n =>show LE Γ st ⟨st.t,st.h.set id (.row e s (n+1) g)⟩;rw [same];exact LE.refl st
    | cells cs =>show LE Γ st ⟨st.t,st.h.set id (.cells cs)⟩;rw [same];exact LE.refl st
    | imap t n get =>show LE Γ st ⟨st.t,st.h.set id (.imap t n get)⟩;rw [same];exact LE.refl st
    | gmap t ks hs get =>show LE Γ st ⟨st.t,st.h.set id (.gmap t ks hs get)⟩;rw [same];exact LE.refl st
    | xrow lk e s n g =>show LE Γ st ⟨st.t,st.h.set id (.xrow lk e s n g)⟩;rw [same];exact LE.refl st
    | jag j =>
     refine Ael hb (λ_ _=>rfl) (λ_ _=>rfl) (λ_ _=>rfl) λk _ q hq=>?_;have:OK q (j.len k)=true:=by
      unfold OK;simpa using hq
     rw [this,Ec];rfl
    | saved vs =>show LE Γ st ⟨st.t,st.h.set id (.saved vs)⟩;rw [same];exact LE.refl st
    | dead =>show LE Γ st ⟨st.t,st.h.set id .dead⟩;rw [same];exact LE.refl st
def Ih (zs:List (Nat×List (Nat×V))) (loops:List (Nat×Lp)) (id:Nat) (f:St->T (Ex×St)) (st:St):T (Ex×St) :=
 match Lq id zs with
 | some l=>Cb loops id f (L6 st l)
 | none=>Cb loops id f st
theorem M4 (zs:List (Nat×List (Nat×V))) (ls:List (Nat×Lp)):LLe (Ih zs ls) (Ih zs ls):=λid f f' st h=>by
 unfold Ih;split
 ·exact Bq ls id f f' _ h
 ·exact Bq ls id f f' _ h
def cxZ (G:Nat->V) (tbl:AE) (zs:List (Nat×List (Nat×V))) (loops:List (Nat×Lp)):Cx:=⟨A2 tbl,Ih zs loops,G⟩
theorem Xi {P:Program} {G:Nat->V} {tbl:AE} (h:Ar P G tbl) (zs:List (Nat×List (Nat×V))) (loops:List (Nat×Lp)):Bi P (cxZ G tbl zs loops).base∧BU (cxZ G tbl zs loops):=by
 refine ⟨FF rfl h,λid f st r hr=>?_⟩;have hr:(Ih zs loops id f st).sem=some r:=hr;have by':∀ st,(Cb loops id f st).sem=some r->LRun (cxZ G tbl zs loops).base f st r:=λst hr=>by
  unfold Cb at hr;split at hr
  ·exact JE hr
  ·cases hr
 unfold Ih at hr;split at hr
 ·exact .run (.weak (Zd _ _) (by' _ hr))
 ·exact .run (by' _ hr)
noncomputable def isR (Γ:Cx0) (r:Ex×St):(St->T (Ex×St))->St->Bool:=λf st=>@decide (LRun Γ f st r) (Classical.propDecidable _)
end Go.Sy
namespace Go.Proofs.YtkbafjceglhjhaaGreatDoor.Ed
open Go.Sy
def EM (n:Nat) (f:Nat->E6):Bool:=Bo n λi=>ieq (Bl (f i)) 0
theorem F2 {n:Nat} {f:Nat->E6}:EM n f=true↔∀ i,i<n->Bl (f i)=0:=by
 unfold EM;rw [AO];simp [ieq]
theorem P3 (f g:Nat->E6):∀ d i,G9 f g d i=true↔∀ j,i <= j->j<i+d->f j=g j
 | 0,i=>by
  simp only [G9,true_iff];intro j h1 h2; omega
 | d+1,i=>by
  unfold G9;cases h:eqE (f i) (g i) with
  | true =>
   have h0:=(JH _ _).1 h;show G9 f g d (i+1)=true↔_;rw [P3 f g d (i+1)];constructor
   ·intro q j h1 h2
    by_cases hj:j=i
    ·subst hj; exact h0
    ·exact q j (by omega) (by omega)
   ·intro q j h1 h2; exact q j (by omega) (by omega)
  | false =>
   constructor
   ·intro q; cases q
   ·intro q
    have:=(JH _ _).2 (q i (Nat.le_refl _) (by omega));rw [this] at h; cases h
end Go.Proofs.YtkbafjceglhjhaaGreatDoor.Ed
namespace Go.Proofs.YtkbafjceglhjhaaGreatDoor.Ed
open Go.Sy
theorem Aau {n:Nat}:Bo n (λ_=>true)=true:=AO.2 λ_ _=>rfl
def kL (n:Nat):Kn:=⟨Bo n λ_=>true,true,Aau⟩
def Ck (g:Nat->V):Nat->Nat->V
 | 0=>λ_=>.und
 | i+1=>AX i (Ck g i) (g i)
theorem IS (g:Nat->V):∀ n j,j<n->Ck g n j=g j
 | 0,j,h=>by omega
 | n+1,j,h=>by
  rw [show Ck g (n+1) j=AX n (Ck g n) (g n) j from rfl,BK];show (bif Nat.beq j n then g n else Ck g n j)=_;cases hb:Nat.beq j n with
  | true =>rw [Nat.eq_of_beq_eq_true hb];rfl
  | false =>have:=Nat.ne_of_beq_eq_false hb;exact IS g n j (by omega)
theorem T8 {i n b c:Nat} (h:i<n) (hb:b <= c) (hn:n * c <= 140737488355328):C4 i 1 b=true:=by
 refine decide_eq_true ?_;have h1:(i+1) * b <= n * b:=Nat.mul_le_mul_right b (by omega);have h2:n * b <= n * c:=Nat.mul_le_mul_left n hb;omega
theorem JG {n:Nat} (hn:Dg n=true):n <= 4611686018427387904:=by
 have hn:n * 40 <= 140737488355328:=of_decide_eq_true hn;omega
def cdV (f:Nat->E6):Nat->V:=λi=>iV (BZ (f i))
theorem Vd (p:Nat->Bool):∀ n,Bo n p=false->∃ e,e<n∧p e=false∧∀ t,t<e->p t=true
 | 0,h=>by cases h
 | n+1,h=>by
  cases hn:Bo n p with
  | false =>obtain ⟨e,h1,h2,h3⟩:=Vd p n hn;exact ⟨e,by omega,h2,h3⟩
  | true =>
   refine ⟨n,by omega,?_,λt ht=>AO.1 hn t ht⟩;cases hp:p n with
   | false=>rfl
   | true =>
    have:Bo (n+1) p=true:=AO.2 λi hi=>by
     by_cases hi':i=n
     ·rw [hi',hp]
     ·exact AO.1 hn i (by omega)
    rw [this] at h; cases h
theorem AdH {e:E6} (h:Bl e ≠ 0):Bl e=30:=by
 rcases DY e with ⟨_,_,h1,_⟩ | ⟨h1,_⟩
 ·exact absurd h1 h
 ·exact h1
theorem Aca {n:Nat} {f:Nat->E6} (h:EM n f=false):∃ e,e<n∧Bl (f e)=30∧∀ t,t<e->Bl (f t)=0:=by
 obtain ⟨e,h1,h2,h3⟩:=Vd _ n h;refine ⟨e,h1,AdH λh0=>?_,λt ht=>by simpa [ieq] using h3 t ht⟩;rw [h0] at h2;cases h2
def AdG:List V->AA:=HL λn f=>.br (Dg n) (.br (EM n f) (.leaf (.tup [.ref 0,iV 0],[.row 3 1 n λi=>iV (BZ (f i))])) (.leaf (.tup [.ref 0,iV 30],[.row 3 1 0 λ_=>.und]))) .fail
end Go.Proofs.YtkbafjceglhjhaaGreatDoor.Ed
namespace Go.Proofs.YtkbafjceglhjhaaGreatDoor.Ed
open Go.Sy
def Hn (n:Nat):List (Nat×Lp):=[(0,⟨[],1000,[],1000,n⟩),(1,⟨[],1000,[],1000,n⟩),(2,⟨[],1000,[],1000,n⟩),(3,⟨[],1000,[],1000,n⟩),(4,⟨[],1000,[],1000,n⟩),(5,⟨[],1000,[],1000,n⟩),(6,⟨[],1000,[],1000,n⟩)]
noncomputable def cy0:AE:=[(21,Oj OD),(32,ap2 gI toE λa e=>out (OZ a e)),(28,Cc λe=>iV (Bl e))]
noncomputable def B83:List V->AA:=λvs=>Ay (Aj tab (AT Gl cy0 (Hn 30)) Tryz.f105 vs [])
noncomputable def Apq:AE:=(83,B83)::cy0
noncomputable def Ark:List V->AA:=λvs=>Ay (Aj tab (AT Gl Apq (Hn 30)) Tryz.f193 vs [])
noncomputable def Ai6:AE:=(108,Ark)::Apq
noncomputable def B88:List V->AA:=λvs=>Ay (Aj tab (AT Gl Ai6 (Hn 30)) Tryz.f171 vs [])
noncomputable def Apo:AE:=(88,B88)::Ai6
noncomputable def B89:List V->AA:=λvs=>Ay (Aj tab (AT Gl Apo (Hn 30)) Tryz.f172 vs [])
noncomputable def Apn:AE:=(89,B89)::Apo
noncomputable def B90:List V->AA:=λvs=>Ay (Aj tab (AT Gl Apn (Hn 30)) Tryz.f173 vs [])
noncomputable def Apm:AE:=(90,B90)::Apn
noncomputable def B93:List V->AA:=λvs=>Ay (Aj tab (AT Gl Apm (Hn 30)) Tryz.f176 vs [])
noncomputable def Apk:AE:=(93,B93)::Apm
noncomputable def B87:List V->AA:=λvs=>Ay (Aj tab (AT Gl Apk (Hn 30)) Tryz.f170 vs [])
noncomputable def App:AE:=(87,B87)::Apk
noncomputable def B92:List V->AA:=λvs=>Ay (Aj tab (AT Gl App (Hn 30)) Tryz.f175 vs [])
noncomputable def Apl:AE:=(92,B92)::App
noncomputable def B91:List V->AA:=λvs=>Ay (Aj tab (AT Gl Apl (Hn 30)) Tryz.f174 vs [])
noncomputable def AqU:AE:=(91,B91)::Apl
noncomputable def B86:List V->AA:=λvs=>Ay (Aj tab (AT Gl AqU (Hn 30)) Tryz.f169 vs [])
end Go.Proofs.YtkbafjceglhjhaaGreatDoor.Ed
namespace Go.Proofs.YtkbafjceglhjhaaGreatDoor.Ed
open Go.Sy
open Int (ofNat)
def BJ (e:E6):Bool:=Ak (ile 1 e.kind) (ile e.kind 3)
def A9 (e:E6):Bool:=Ak (BJ e) e.ext
def AG (e:E6):Bool:=Ak (AV (BJ e)) (AV e.same)
theorem Aes (e:E6):(Ay (Aj tab (AT Gl [] []) Tryz.f193 [eV e] [])).sem=(sel (ile 1 (e).kind) (sel (ile 1 (e).kind) (sel (ile 1 (e).kind) (sel (ile 1 (e).kind) (some ((bV (ile (e).kind 3)),[])) (some ((bV false),[]))) (sel (ile 1 (e).kind) (some (AH,[])) (some ((bV false),[])))) (sel (ile 1 (e).kind) none (sel (ile 1 (e).kind) (some (AH,[])) (some ((bV false),[]))))) (sel (ile 1 (e).kind) none (sel (ile 1 (e).kind) none (sel (ile 1 (e).kind) (some (AH,[])) (some ((bV false),[])))))):=by kernel_rfl
theorem Aqv:As Tryz.prog Gl 193 (Cc λe=>bV (BJ e)):=by
 refine As.congr (AM A0 mixed Tryz.func193 (by kernel_rfl) (by kernel_rfl) (Γ:=AT Gl [] []) (Bs Ar.nil _)) λvs r h=>?_;obtain ⟨e,rfl,rfl⟩:=Cj h;refine (Aes e).trans ?_;unfold BJ;cases ile 1 e.kind <;> rfl
theorem Cy (i:Nat):ile 0 (ofNat i)=true:=Yg (by simp)
noncomputable def tb88:AE:=(193,Cc λe=>bV (BJ e))::[]
theorem tb88_ok:Ar Tryz.prog Gl tb88:=.cons Aqv .nil
theorem AjE (e:E6):(Ay (Aj tab (AT Gl tb88 []) Tryz.f171 [eV e] [])).sem=(sel (BJ e) (sel (BJ e) (sel (BJ e) (some ((bV (e).ext),[])) (some ((bV false),[]))) (sel (BJ e) (some (AH,[])) (some ((bV false),[])))) (sel (BJ e) none (sel (BJ e) (some (AH,[])) (some ((bV false),[]))))):=by kernel_rfl
theorem p88:As Tryz.prog Gl 171 (Cc λe=>bV (A9 e)):=by
 refine As.congr (AM A0 mixed Tryz.func171 (by kernel_rfl) (by kernel_rfl) (Γ:=AT Gl tb88 []) (Bs tb88_ok _)) λvs r h=>?_;obtain ⟨e,rfl,rfl⟩:=Cj h;refine (AjE e).trans ?_;unfold A9;cases BJ e <;> rfl
theorem AjD (e:E6):(Ay (Aj tab (AT Gl tb88 []) Tryz.f172 [eV e] [])).sem=(sel (AV (BJ e)) (sel (AV (BJ e)) (sel (AV (BJ e)) (sel (AV (BJ e)) (some ((bV (AV (e).same)),[])) (some ((bV false),[]))) (sel (AV (BJ e)) (some (AH,[])) (some ((bV false),[])))) (sel (AV (BJ e)) none (sel (AV (BJ e)) (some (AH,[])) (some ((bV false),[]))))) (sel (AV (BJ e)) none (sel (AV (BJ e)) none (sel (AV (BJ e)) (some (AH,[])) (some ((bV false),[])))))):=by kernel_rfl
theorem p89:As Tryz.prog Gl 172 (Cc λe=>bV (AG e)):=by
 refine As.congr (AM A0 mixed Tryz.func172 (by kernel_rfl) (by kernel_rfl) (Γ:=AT Gl tb88 []) (Bs tb88_ok _)) λvs r h=>?_;obtain ⟨e,rfl,rfl⟩:=Cj h;refine (AjD e).trans ?_;unfold AG;cases BJ e <;> rfl
theorem PC (e:E6):BJ e=bor (ieq e.kind 1) (bor (ieq e.kind 2) (ieq e.kind 3)):=by
 unfold BJ;rw [Bool.eq_iff_iff];simp [Ak,bor,ile,ieq];omega
theorem AjG (e:E6):(Ay (Aj tab (AT Gl [] []) Tryz.f152 [eV e] [])).sem=(sel (ieq (e).kind 1) (sel (ieq (e).kind 1) (sel (ieq (e).kind 1) (sel (ieq (e).kind 1) (some ((bV (e).ext),[])) none) none) none) (sel (ieq (e).kind 1) (sel (ieq (e).kind 1) (sel (ieq (e).kind 1) (some ((bV (e).ext),[])) none) none) (sel (ieq (e).kind 1) (sel (ieq (e).kind 1) (some ((bV (e).ext),[])) none) (sel (ieq (e).kind 1) (some ((bV (e).ext),[])) (sel (ieq (e).kind 2) (sel (ieq (e).kind 2) (sel (ieq (e).kind 2) (sel (ieq (e).kind 2) (some ((bV (e).ext),[])) none) none) none) (sel (ieq (e).kind 2) (sel (ieq (e).kind 2) (sel (ieq (e).kind 2) (some ((bV (e).ext),[])) none) none) (sel (ieq (e).kind 2) (sel (ieq (e).kind 2) (some ((bV (e).ext),[])) none) (sel (ieq (e).kind 2) (some ((bV (e).ext),[])) (sel (ieq (e).kind 3) (sel (ieq (e).kind 3) (sel (ieq (e).kind 3) (some ((bV (e).ext),[])) (some ((bV false),[]))) (sel (ieq (e).kind 3) (some (AH,[])) (some ((bV false),[])))) (sel (ieq (e).kind 3) none (sel (ieq (e).kind 3) (some (AH,[])) (some ((bV false),[]))))))))))))):=by kernel_rfl
theorem p60:As Tryz.prog Gl 152 (Cc λe=>bV (A9 e)):=by
 refine As.congr (AM A0 mixed Tryz.func152 (by kernel_rfl) (by kernel_rfl) (Γ:=AT Gl [] []) (Bs Ar.nil _)) λvs r h=>?_;obtain ⟨e,rfl,rfl⟩:=Cj h;refine (AjG e).trans ?_;unfold A9;rw [PC];cases ieq e.kind 1 <;> cases ieq e.kind 2 <;> cases ieq e.kind 3 <;> rfl
theorem AjF (e:E6):(Ay (Aj tab (AT Gl [] []) Tryz.f153 [eV e] [])).sem=(sel (AV (ieq (e).kind 1)) (sel (AV (ieq (e).kind 1)) (sel (AV (ieq (e).kind 1)) (sel (AV (ieq (e).kind 1)) (sel (AV (ieq (e).kind 2)) (sel (AV (ieq (e).kind 2)) (sel (AV (ieq (e).kind 2)) (sel (AV (ieq (e).kind 2)) (sel (AV (ieq (e).kind 3)) (sel (AV (ieq (e).kind 3)) (sel (AV (ieq (e).kind 3)) (sel (AV (ieq (e).kind 3)) (some ((bV (AV (e).same)),[])) (some ((bV false),[]))) (sel (AV (ieq (e).kind 3)) (some (AH,[])) (some ((bV false),[])))) (sel (AV (ieq (e).kind 3)) none (sel (AV (ieq (e).kind 3)) (some (AH,[])) (some ((bV false),[]))))) (sel (AV (ieq (e).kind 3)) none (sel (AV (ieq (e).kind 3)) none (sel (AV (ieq (e).kind 3)) (some (AH,[])) (some ((bV false),[])))))) (some ((bV false),[]))) (sel (AV (ieq (e).kind 2)) none (some ((bV false),[])))) (sel (AV (ieq (e).kind 2)) none (sel (AV (ieq (e).kind 2)) none (some ((bV false),[]))))) (sel (AV (ieq (e).kind 2)) none (sel (AV (ieq (e).kind 2)) none (sel (AV (ieq (e).kind 2)) none (some ((bV false),[])))))) (some ((bV false),[]))) (sel (AV (ieq (e).kind 1)) none (some ((bV false),[])))) (sel (AV (ieq (e).kind 1)) none (sel (AV (ieq (e).kind 1)) none (some ((bV false),[]))))) (sel (AV (ieq (e).kind 1)) none (sel (AV (ieq (e).kind 1)) none (sel (AV (ieq (e).kind 1)) none (some ((bV false),[])))))):=by kernel_rfl
theorem p61:As Tryz.prog Gl 153 (Cc λe=>bV (AG e)):=by
 refine As.congr (AM A0 mixed Tryz.func153 (by kernel_rfl) (by kernel_rfl) (Γ:=AT Gl [] []) (Bs Ar.nil _)) λvs r h=>?_;obtain ⟨e,rfl,rfl⟩:=Cj h;refine (AjF e).trans ?_;unfold AG;rw [PC];cases ieq e.kind 1 <;> cases ieq e.kind 2 <;> cases ieq e.kind 3 <;> rfl
noncomputable def tbY:AE:=(121,Cc λe=>iV (Bl e))::(171,Cc λe=>bV (A9 e))::(172,Cc λe=>bV (AG e))::[]
theorem Om:Ar Tryz.prog Gl tbY:=.cons p29 <| .cons p88 <| .cons p89 .nil
def OQ (n:Nat) (f:Nat->E6):Lp:=⟨bmK 16 0 [0,2,3],0,bmK 16 0 [2],0,n+1⟩
def Q2 (n:Nat) (f:Nat->E6) (i:Nat) (j:Nat->V):St:=⟨jsV 16 0 j [(0,.sl 6 n (λi=>eV (f i))),(2,bV false),(3,nV i)],[]⟩
def WX (n:Nat) (f:Nat->E6) (i:Nat):Ex×St:=(.ex 0,⟨jsV 16 0 Ab [(2,bV false)],[]⟩)
def WW (n:Nat) (f:Nat->E6) (i:Nat):Ex×St:=(.rt,⟨jsV 16 0 Ab [(2,bV false)],[]⟩)
noncomputable def JL (L:LT):St->T (Ex×St):=λst=>AK tab ⟨A2 tbY,L,Gl⟩ (A3 Tryz.f79 0) 0 st
section
variable (L:LT) (n:Nat) (f:Nat->E6) (i:Nat)  (j:Nat->V)
include L n f i j
theorem Ann (h0:ilt (ofNat i) (ofNat n)=false):A1 (JL L) (OQ n f) (Q2 n f i j)=some ((.ex 0),⟨jsV 16 0 Ab [(2,bV false)],[]⟩):=by
 exact Af (ks:=[kn h0]) (by kernel_rfl)
theorem Anl (h0:ilt (ofNat i) (ofNat n)=true) (h10:ile 0 (ofNat i)=true) (h1:ieq (Bl (f i)) 0=false):A1 (JL L) (OQ n f) (Q2 n f i j)=some (.rt,⟨jsV 16 0 Ab [(2,bV false)],[]⟩):=by
 exact Af (ks:=[kn h0,kA (kn h10) (kn h0),kN (kn h1)]) (by kernel_rfl)
theorem Anm (h0:ilt (ofNat i) (ofNat n)=true) (h10:ile 0 (ofNat i)=true) (h1:ieq (Bl (f i)) 0=true):A1 (JL L) (OQ n f) (Q2 n f i j)=some (.nm,⟨jsV 16 0 Ab [(0,.sl 6 n (λi=>eV (f i))),(2,bV false),(3,iV (wr .i64 (Ai (ofNat i) 1)))],[]⟩):=by
 exact Af (ks:=[kn h0,kA (kn h10) (kn h0),kN (kn h1)]) (by kernel_rfl)
end
def Aig (n:Nat) (f:Nat->E6) :Nat->V:=lkV AH []
section
variable (L:LT) (p0:PT) (n:Nat) (f:Nat->E6) (i:Nat)
include L p0 n f i
theorem Amq  (hp0:p0 (JL (onP 0 p0 (WX n f i) L)) (Q2 n f 0 (Aig n f ))=true):(Ay (Aj tab ⟨A2 tbY,onP 0 p0 (WX n f i) L,Gl⟩ Tryz.f79 [AN n f] [])).sem=some ((bV true),[]):=by
 exact Af (ks:=[kn hp0]) (by kernel_rfl)
theorem Amp  (hp0:p0 (JL (onP 0 p0 (WW n f i) L)) (Q2 n f 0 (Aig n f ))=true):(Ay (Aj tab ⟨A2 tbY,onP 0 p0 (WW n f i) L,Gl⟩ Tryz.f79 [AN n f] [])).sem=some ((bV false),[]):=by
 exact Af (ks:=[kn hp0]) (by kernel_rfl)
end
def OT (n:Nat) (f:Nat->E6):Lp:=⟨bmK 21 0 [1,5,8,9,10],0,bmK 21 0 [5],0,n+1⟩
def TY (n:Nat) (f:Nat->E6) (s:Int) (i:Nat) (j:Nat->V):St:=⟨jsV 21 0 j [(1,.fn 171 []),(5,iV s),(8,.sl 6 n (λi=>eV (f i))),(9,nV n),(10,nV i)],[]⟩
def WY (n:Nat) (f:Nat->E6) (s:Int) (i:Nat):Ex×St:=(.ex 0,⟨jsV 21 0 Ab [(5,iV s)],[]⟩)
noncomputable def LS (L:LT):St->T (Ex×St):=λst=>AK tab ⟨A2 tbY,L,Gl⟩ (A3 Tryz.f170 0) 0 st
section
variable (L:LT) (n:Nat) (f:Nat->E6) (s:Int) (i:Nat)  (j:Nat->V)
include L n f s i j
theorem AkA (h0:ilt (ofNat i) (ofNat n)=false):A1 (LS L) (OT n f) (TY n f s i j)=some ((.ex 0),⟨jsV 21 0 Ab [(5,iV s)],[]⟩):=by
 exact Af (ks:=[kn h0]) (by kernel_rfl)
theorem Ak8 (h0:ilt (ofNat i) (ofNat n)=true) (h10:ile 0 (ofNat i)=true) (h1:A9 (f i)=true):A1 (LS L) (OT n f) (TY n f s i j)=some (.nm,⟨jsV 21 0 Ab [(1,.fn 171 []),(5,iV (wr .i64 (Ai s 1))),(8,.sl 6 n (λi=>eV (f i))),(9,nV n),(10,iV (wr .i64 (Ai (ofNat i) 1)))],[]⟩):=by
 exact Af (ks:=[kn h0,kA (kn h10) (kn h0),kn h1]) (by kernel_rfl)
theorem Ak9 (h0:ilt (ofNat i) (ofNat n)=true) (h10:ile 0 (ofNat i)=true) (h1:A9 (f i)=false):A1 (LS L) (OT n f) (TY n f s i j)=some (.nm,⟨jsV 21 0 Ab [(1,.fn 171 []),(5,iV s),(8,.sl 6 n (λi=>eV (f i))),(9,nV n),(10,iV (wr .i64 (Ai (ofNat i) 1)))],[]⟩):=by
 exact Af (ks:=[kn h0,kA (kn h10) (kn h0),kn h1]) (by kernel_rfl)
end
def Ao9 (n:Nat) (f:Nat->E6) :Nat->V:=lkV AH [(0,.sl 6 n (λi=>eV (f i))),(4,iV 0)]
theorem Amr (L:LT) (p0:PT) (n:Nat) (f:Nat->E6) (s:Int) (i:Nat)  (hp0:p0 (LS (onP 0 p0 (WY n f s i) L)) (TY n f 0 0 (Ao9 n f ))=true):(Ay (Aj tab ⟨A2 tbY,onP 0 p0 (WY n f s i) L,Gl⟩ Tryz.f170 [AN n f,.fn 171 []] [])).sem=some ((iV s),[]):=by
 exact Af (ks:=[kn hp0]) (by kernel_rfl)
def OU (n:Nat) (f:Nat->E6):Lp:=⟨bmK 21 0 [1,5,8,9,10],0,bmK 21 0 [5],0,n+1⟩
def TZ (n:Nat) (f:Nat->E6) (s:Int) (i:Nat) (j:Nat->V):St:=⟨jsV 21 0 j [(1,.fn 172 []),(5,iV s),(8,.sl 6 n (λi=>eV (f i))),(9,nV n),(10,nV i)],[]⟩
def WZ (n:Nat) (f:Nat->E6) (s:Int) (i:Nat):Ex×St:=(.ex 0,⟨jsV 21 0 Ab [(5,iV s)],[]⟩)
noncomputable def LU (L:LT):St->T (Ex×St):=λst=>AK tab ⟨A2 tbY,L,Gl⟩ (A3 Tryz.f170 0) 0 st
section
variable (L:LT) (n:Nat) (f:Nat->E6) (s:Int) (i:Nat)  (j:Nat->V)
include L n f s i j
theorem AkD (h0:ilt (ofNat i) (ofNat n)=false):A1 (LU L) (OU n f) (TZ n f s i j)=some ((.ex 0),⟨jsV 21 0 Ab [(5,iV s)],[]⟩):=by
 exact Af (ks:=[kn h0]) (by kernel_rfl)
theorem AkB (h0:ilt (ofNat i) (ofNat n)=true) (h10:ile 0 (ofNat i)=true) (h1:AG (f i)=true):A1 (LU L) (OU n f) (TZ n f s i j)=some (.nm,⟨jsV 21 0 Ab [(1,.fn 172 []),(5,iV (wr .i64 (Ai s 1))),(8,.sl 6 n (λi=>eV (f i))),(9,nV n),(10,iV (wr .i64 (Ai (ofNat i) 1)))],[]⟩):=by
 exact Af (ks:=[kn h0,kA (kn h10) (kn h0),kn h1]) (by kernel_rfl)
theorem AkC (h0:ilt (ofNat i) (ofNat n)=true) (h10:ile 0 (ofNat i)=true) (h1:AG (f i)=false):A1 (LU L) (OU n f) (TZ n f s i j)=some (.nm,⟨jsV 21 0 Ab [(1,.fn 172 []),(5,iV s),(8,.sl 6 n (λi=>eV (f i))),(9,nV n),(10,iV (wr .i64 (Ai (ofNat i) 1)))],[]⟩):=by
 exact Af (ks:=[kn h0,kA (kn h10) (kn h0),kn h1]) (by kernel_rfl)
end
def AoA (n:Nat) (f:Nat->E6) :Nat->V:=lkV AH [(0,.sl 6 n (λi=>eV (f i))),(4,iV 0)]
theorem Ams (L:LT) (p0:PT) (n:Nat) (f:Nat->E6) (s:Int) (i:Nat)  (hp0:p0 (LU (onP 0 p0 (WZ n f s i) L)) (TZ n f 0 0 (AoA n f ))=true):(Ay (Aj tab ⟨A2 tbY,onP 0 p0 (WZ n f s i) L,Gl⟩ Tryz.f170 [AN n f,.fn 172 []] [])).sem=some ((iV s),[]):=by
 exact Af (ks:=[kn hp0]) (by kernel_rfl)
def mayT:List V->AA:=HL λn f=>.br (Au n) (out (bV (EM n f))) .fail
theorem Ah4 (L:LT) (n:Nat) (f:Nat->E6) (hn:n <= 4611686018427387904):∀ (e i:Nat) (j:Nat->V) (q:Nat),n=i+e->e<q->(∀ k,k<i->ieq (Bl (f k)) 0=true) ->
  (A4 (JL L) (OQ n f) q (Q2 n f i j)).sem=some (match EM n f with | true=>WX n f 0 | false=>WW n f 0)
 | 0,i,j,q+1,h,_,hb=>by
  have:n=i:=by omega
  subst this;rw [show EM n f=true from AO.2 hb];exact Ah (Ann L n f _ j (Az (Nat.le_refl _)))
 | e+1,i,j,q+1,h,h2,hb=>by
  cases hp:ieq (Bl (f i)) 0 with
  | true =>
   rw [Ah (Anm L n f i j (ofNat_lt (by omega)) (Cy _) hp),AY,A5 (show i<n by omega) hn];exact Ah4 L n f hn e (i+1) Ab q (by omega) (by omega) λk hk=>by
    by_cases hki:k=i
    ·subst hki; exact hp
    ·exact hb k (by omega)
  | false =>
   have hm:EM n f=false:=by
    cases hm:EM n f with
    | false=>rfl
    | true =>have:=AO.1 hm i (by omega);rw [hp] at this;cases this
   rw [hm];exact Ah (Anl L n f i j (ofNat_lt (by omega)) (Cy _) hp)
theorem p98:As Tryz.prog Gl 79 mayT:=by
 refine Am A0 mixed Tryz.func79 (by kernel_rfl) (by kernel_rfl) λvs v h' h=>?_;obtain ⟨n,f,ha,hq⟩:=DC h;obtain ⟨hn,hq⟩:=Ad hq;have:=Aa hq;simp only [Prod.mk.injEq] at this;obtain ⟨rfl,rfl⟩:=this;have hn:n <= 4611686018427387904:=of_decide_eq_true hn;have hx:=Bs Om [(0,OQ n f)];have hL:=Bq [(0,OQ n f)];refine ⟨_,AT Gl tbY [(0,OQ n f)],[],ha,rfl,hx.1,hx.2,?_,Aw.refl _⟩;have hr:=λL i=>Ah4 L n f hn n 0 i (n+1) (by omega) (by omega) (λk hk=>by omega);cases hm:EM n f with
 | true =>rw [hm] at hr;exact Bp (Bm hL hL) _ (Amq _ _ n f 0 (AB (hr _ _)))
 | false =>rw [hm] at hr;exact Bp (Bm hL hL) _ (Amp _ _ n f 0 (AB (hr _ _)))
def Al (p:Nat->Bool):Nat->Nat
 | 0=>0
 | i+1=>match p i with
  | true=>Al p i+1
  | false=>Al p i
theorem BI (p:Nat->Bool):∀ i,Al p i <= i
 | 0=>Nat.le_refl _
 | i+1=>by
  have:=BI p i;unfold Al;split <;> omega
theorem Wk (L:LT) (n:Nat) (f:Nat->E6) (hn:n <= 4611686018427387904):∀ (e i:Nat) (j:Nat->V) (q:Nat),n=i+e->e<q ->
  (A4 (LS L) (OT n f) q (TY n f (ofNat (Al (λk=>A9 (f k)) i)) i j)).sem=some (WY n f (ofNat (Al (λk=>A9 (f k)) n)) 0)
 | 0,i,j,q+1,h,_=>by
  have:n=i:=by omega
  subst this;exact Ah (AkA L n f _ _ j (Az (Nat.le_refl _)))
 | e+1,i,j,q+1,h,h2=>by
  have hc:=BI (λk=>A9 (f k)) i;cases hp:A9 (f i) with
  | true =>
   rw [Ah (Ak8 L n f _ i j (ofNat_lt (by omega)) (Cy _) hp),AY,A5 (show i<n by omega) hn,A5 (show Al (λk=>A9 (f k)) i<n by omega) hn,
    show Al (λk=>A9 (f k)) i+1=Al (λk=>A9 (f k)) (i+1) by rw [Al,hp]]
   exact Wk L n f hn e (i+1) Ab q (by omega) (by omega)
  | false =>
   rw [Ah (Ak9 L n f _ i j (ofNat_lt (by omega)) (Cy _) hp),AY,A5 (show i<n by omega) hn,
    show Al (λk=>A9 (f k)) i=Al (λk=>A9 (f k)) (i+1) by rw [Al,hp]]
   exact Wk L n f hn e (i+1) Ab q (by omega) (by omega)
theorem Wl (L:LT) (n:Nat) (f:Nat->E6) (hn:n <= 4611686018427387904):∀ (e i:Nat) (j:Nat->V) (q:Nat),n=i+e->e<q ->
  (A4 (LU L) (OU n f) q (TZ n f (ofNat (Al (λk=>AG (f k)) i)) i j)).sem=some (WZ n f (ofNat (Al (λk=>AG (f k)) n)) 0)
 | 0,i,j,q+1,h,_=>by
  have:n=i:=by omega
  subst this;exact Ah (AkD L n f _ _ j (Az (Nat.le_refl _)))
 | e+1,i,j,q+1,h,h2=>by
  have hc:=BI (λk=>AG (f k)) i;cases hp:AG (f i) with
  | true =>
   rw [Ah (AkB L n f _ i j (ofNat_lt (by omega)) (Cy _) hp),AY,A5 (show i<n by omega) hn,A5 (show Al (λk=>AG (f k)) i<n by omega) hn,
    show Al (λk=>AG (f k)) i+1=Al (λk=>AG (f k)) (i+1) by rw [Al,hp]]
   exact Wl L n f hn e (i+1) Ab q (by omega) (by omega)
  | false =>
   rw [Ah (AkC L n f _ i j (ofNat_lt (by omega)) (Cy _) hp),AY,A5 (show i<n by omega) hn,
    show Al (λk=>AG (f k)) i=Al (λk=>AG (f k)) (i+1) by rw [Al,hp]]
   exact Wl L n f hn e (i+1) Ab q (by omega) (by omega)
def Xk:List V->AA
 | [v,.fn g []]=>apL v λn f=>.br (Au n) (match Nat.beq g 171,Nat.beq g 172 with
  | true,_=>out (iV (ofNat (Al (λk=>A9 (f k)) n)))
  | false,true=>out (iV (ofNat (Al (λk=>AG (f k)) n)))
  | false,false=>.fail) .fail
 | _=>.fail
theorem p87:As Tryz.prog Gl 170 Xk:=by
 refine Am A0 mixed Tryz.func170 (by kernel_rfl) (by kernel_rfl) λvs v h' h=>?_;unfold Xk at h;split at h
 ·rename_i u g
  obtain ⟨n,f,ha,h1⟩:=CG h;obtain ⟨hn,hq⟩:=Ad h1;clear h h1;have hn:n <= 4611686018427387904:=of_decide_eq_true hn;have hA:Bw [u,.fn g []] [AN n f,.fn g []]:=λS w cs hv=>by
   obtain ⟨c,l,rfl,q1,q2⟩:=hv;exact ⟨c,l,rfl,ha S w c q1,q2⟩
  split at hq
  ·rename_i h1
   have h1:=Nat.eq_of_beq_eq_true h1;subst h1;have:=Aa hq;simp only [Prod.mk.injEq] at this;obtain ⟨rfl,rfl⟩:=this;have hx:=Bs Om [(0,OT n f)];have hL:=Bq [(0,OT n f)];exact ⟨_,AT Gl tbY [(0,OT n f)],[],hA,rfl,hx.1,hx.2,Bp (Bm hL hL) _ (Amr _ _ n f _ 0 (AB (Wk _ n f hn n 0 _ (n+1) (by omega) (by omega)))),Aw.refl _⟩
  ·rename_i h2
   have h2:=Nat.eq_of_beq_eq_true h2;subst h2;have:=Aa hq;simp only [Prod.mk.injEq] at this;obtain ⟨rfl,rfl⟩:=this;have hx:=Bs Om [(0,OU n f)];have hL:=Bq [(0,OU n f)];exact ⟨_,AT Gl tbY [(0,OU n f)],[],hA,rfl,hx.1,hx.2,Bp (Bm hL hL) _ (Ams _ _ n f _ 0 (AB (Wl _ n f hn n 0 _ (n+1) (by omega) (by omega)))),Aw.refl _⟩
  ·cases hq
 ·cases h
end Go.Proofs.YtkbafjceglhjhaaGreatDoor.Ed
