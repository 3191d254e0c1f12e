/-
  Loops gone through by rounds, each told by one fact. Conditions: as before.
-/
import Derived.Test.YtkbafjceglhjhaaGreatDoorSyU
import Derived.Test.YtkbafjceglhjhaaGreatDoorEdK
namespace Go.Sy
def AqH (l:Lp) (r:Ex×St):Ex×St :=
 match r.1 with
 | .nm=>(.nm,HN l.ks l.n r.2)
 | .ex i=>(.ex i,HN l.ke l.ne r.2)
 | .rt=>(.rt,HN l.ke l.ne r.2)
def Au (f:St->T (Ex×St)) (l:Lp) (st:St):Option (Ex×St):=((f st).bind λr=>T.leaf (AqH l r)).sem
def Aa3 (f:St->T (Ex×St)) (l:Lp) (m:Nat):Option (Ex×St)->Option (Ex×St)
 | some (.nm,st)=>(Av f l m st).sem
 | some (e,st)=>some (e,st)
 | none=>none
theorem Af {f:St->T (Ex×St)} {l:Lp} {m:Nat} {st:St} {t:Option (Ex×St)} (h:Au f l st=t):(Av f l (m+1) st).sem=Aa3 f l m t:=by
 subst h;show ((f st).bind _).sem=_;unfold Au;rw [Db,Db];cases (f st).sem with
 | none=>rfl
 | some r =>obtain ⟨e,s⟩:=r;cases e <;> rfl
theorem AT {f:St->T (Ex×St)} {l:Lp} {m:Nat} {st:St}:Aa3 f l m (some (.nm,st))=(Av f l m st).sem:=rfl
theorem Tc {f:St->T (Ex×St)} {l:Lp} {m:Nat} {st:St}:Aa3 f l m (some (.rt,st))=some (.rt,st):=rfl
theorem AbH {α:Type} (x y:α):sel true x y=x:=rfl
theorem ZL {α:Type} (x y:α):sel false x y=y:=rfl
def TLe {α:Type} (t t':T α):Prop:=∀ r,t.sem=some r->t'.sem=some r
theorem TLe.refl {α:Type} (t:T α):TLe t t:=λ_ h=>h
theorem TLe.bind {α β:Type} {t t':T α} {f f':α->T β} (h:TLe t t') (hf:∀ a,TLe (f a) (f' a)):TLe (t.bind f) (t'.bind f'):=λr hr=>by
 obtain ⟨a,h1,h2⟩:=Ag hr;rw [Db,h a h1];exact hf a r h2
def LLe (M L:Nat->(St->T (Ex×St))->St->T (Ex×St)):Prop:=∀ id f f' st,(∀ st,TLe (f st) (f' st))->TLe (M id f st) (L id f' st)
theorem UW {f f':St->T (Ex×St)} (h:∀ st,TLe (f st) (f' st)) (l:Lp):∀ (m:Nat) (st:St),TLe (Av f l m st) (Av f' l m st)
 | 0,_=>TLe.refl _
 | m+1,st=>by
  refine TLe.bind (h st) λr=>?_;cases r.1 with
  | nm=>exact UW h l m _
  | ex i=>exact TLe.refl _
  | rt=>exact TLe.refl _
theorem Bb (ls:List (Nat×Lp)):LLe (BC ls) (BC ls):=λid f f' st h=>by
 unfold BC;split
 ·exact UW h _ _ _
 ·exact TLe.refl _
def onP (k:Nat) (p:(St->T (Ex×St))->St->Bool) (r:Ex×St) (L:Nat->(St->T (Ex×St))->St->T (Ex×St)):Nat->(St->T (Ex×St))->St->T (Ex×St) :=
 λid f st=>match Nat.beq id k with
  | true=>.br (p f st) (.leaf r) .fail
  | false=>L id f st
noncomputable def isP (L:Nat->(St->T (Ex×St))->St->T (Ex×St)) (k:Nat) (r:Ex×St):(St->T (Ex×St))->St->Bool :=
 λf st=>@decide ((L k f st).sem=some r) (Classical.propDecidable _)
theorem A4 {L:Nat->(St->T (Ex×St))->St->T (Ex×St)} {k:Nat} {r:Ex×St} {f:St->T (Ex×St)} {st:St} (h:(L k f st).sem=some r):isP L k r f st=true:=by
 unfold isP;exact @decide_eq_true _ (Classical.propDecidable _) h
theorem AX {M L:Nat->(St->T (Ex×St))->St->T (Ex×St)} {k:Nat} {r:Ex×St} (hM:LLe M L) (hL:LLe L L):LLe (onP k (isP L k r) r M) L:=λid f f' st hf r' hr=>by
 unfold onP at hr;cases hk:Nat.beq id k with
 | true =>rw [hk] at hr;obtain ⟨h1,h2⟩:=Ac hr;rw [Ab h2];unfold isP at h1;have h1:=@of_decide_eq_true _ (Classical.propDecidable _) h1;rw [Nat.eq_of_beq_eq_true hk];exact hL k f f' st hf _ h1
 | false =>rw [hk] at hr;exact hM id f f' st hf _ hr
theorem P2 {τ:List Ty} {Γ:Cx} {L L':Nat->(St->T (Ex×St))->St->T (Ex×St)} (h:LLe L L') :
  ∀ (c:Code) (id:Nat) (st:St),TLe (AA τ { Γ with loop:=L } c id st) (AA τ { Γ with loop:=L' } c id st):=by
 intro c
 induction c with
 | skip=>intro id st; exact TLe.refl _
 | region i ops draw=>intro id st; exact TLe.refl _
 | seq a b iha ihb =>
  intro id st;refine TLe.bind (iha id st) λr=>?_;cases r.1 with
  | nm=>exact ihb id r.2
  | ex j=>exact TLe.refl _
  | rt=>exact TLe.refl _
 | cond x a b iha ihb =>
  intro id st;show TLe (match ev ⟨Γ.call,Γ.glob⟩ st x with | .val (.bool q)=>T.br q (AA τ { Γ with loop:=L } a id st) (AA τ { Γ with loop:=L } b id st) | _=>.fail) (match ev ⟨Γ.call,Γ.glob⟩ st x with | .val (.bool q)=>T.br q (AA τ { Γ with loop:=L' } a id st) (AA τ { Γ with loop:=L' } b id st) | _=>.fail)
  split
  ·rename_i q _
   cases q with
   | true=>exact iha id st
   | false=>exact ihb id st
  ·exact TLe.refl _
 | block i c ih =>
  intro id st;refine TLe.bind (ih i st) λr=>?_;cases r.1 with
  | nm=>exact TLe.refl _
  | ex j=>exact TLe.refl _
  | rt=>exact TLe.refl _
 | loop c ih =>intro id st;exact h id _ _ st (ih id)
 | exit i=>intro id st; exact TLe.refl _
 | ret=>intro id st; exact TLe.refl _
 | _=>intro id st; exact TLe.refl _
theorem AW {τ:List Ty} {call:FuncId->List V->St->T (V×Res)} {G:Nat->V} {fn:Func} {vs:List V} {L L':Nat->(St->T (Ex×St))->St->T (Ex×St)}
  (h:LLe L L'):TLe (A0 (Aj τ ⟨call,L,G⟩ fn vs [])) (A0 (Aj τ ⟨call,L',G⟩ fn vs [])):=by
 refine TLe.bind ?_ λ_=>TLe.refl _;unfold Aj;cases fn.body with
 | none=>exact TLe.refl _
 | some c=>exact TLe.bind (P2 (Γ:=⟨call,L,G⟩) h c 0 _) λ_=>TLe.refl _
theorem QE {f f':St->T (Ex×St)} {l:Lp} {st:St} {r:Ex×St} (h:TLe (f st) (f' st)) (hr:Au f l st=some r):Au f' l st=some r:=TLe.bind h (λ_=>TLe.refl _) r hr
def Aq4 (v:V):Blk->Blk
 | .row e s 0 _=>.row e s 0 λ_=>v
 | .jag j=>.jag { j with mem:=λi k=>Abi (Agx k (j.len i)) (j.mem i k) v }
 | b=>b
def Ajs (h:List Blk) (id:Nat) (v:V):List Blk :=
 match h[id]? with
 | some b=>h.set id (Aq4 v b)
 | none=>h
def Jd (st:St):List (Nat×V)->St
 | []=>st
 | (id,v)::l=>Jd ⟨st.t,Ajs st.h id v⟩ l
theorem Z2 {Γ:Cx0}:∀ (l:List (Nat×V)) (st:St),LE Γ st (Jd st l)
 | [],st=>LE.refl st
 | (id,v)::l,st=>by
   refine LE.trans ?_ (Z2 l _);unfold Ajs;cases hb:st.h[id]? with
   | none=>exact LE.refl st
   | some b =>
    have same:st.h.set id b=st.h:=by
     have hl:=(List.getElem?_eq_some_iff.1 hb).1;have:=(List.getElem?_eq_some_iff.1 hb).2;rw [<- this,List.set_getElem_self]
    cases b with
    | row e s n g =>
     cases n with
     | zero=>exact Afc hb λj hj=>by omega
     | succ n =>show LE Γ st ⟨st.t,st.h.set id (.row e s (n+1) g)⟩;rw [same];exact LE.refl st
    | cells cs =>show LE Γ st ⟨st.t,st.h.set id (.cells cs)⟩;rw [same];exact LE.refl st
    | imap t n get =>show LE Γ st ⟨st.t,st.h.set id (.imap t n get)⟩;rw [same];exact LE.refl st
    | xrow lk e s n g =>show LE Γ st ⟨st.t,st.h.set id (.xrow lk e s n g)⟩;rw [same];exact LE.refl st
    | jag j =>
     refine Afd hb (λ_ _=>rfl) (λ_ _=>rfl) (λ_ _=>rfl) λk _ q hq=>?_;have:Agx q (j.len k)=true:=by
      unfold Agx;simpa using hq
     rw [this,Fi];rfl
    | saved vs =>show LE Γ st ⟨st.t,st.h.set id (.saved vs)⟩;rw [same];exact LE.refl st
    | dead =>show LE Γ st ⟨st.t,st.h.set id .dead⟩;rw [same];exact LE.refl st
def FK (zs:List (Nat×List (Nat×V))) (loops:List (Nat×Lp)) (id:Nat) (f:St->T (Ex×St)) (st:St):T (Ex×St) :=
 match Ka id zs with
 | some l=>BC loops id f (Jd st l)
 | none=>BC loops id f st
theorem J7 (zs:List (Nat×List (Nat×V))) (ls:List (Nat×Lp)):LLe (FK zs ls) (FK zs ls):=λid f f' st h=>by
 unfold FK;split
 ·exact Bb ls id f f' _ h
 ·exact Bb ls id f f' _ h
def cxZ (G:Nat->V) (tbl:A7) (zs:List (Nat×List (Nat×V))) (loops:List (Nat×Lp)):Cx:=⟨Aw tbl,FK zs loops,G⟩
theorem Tz {P:Program} {G:Nat->V} {tbl:A7} (h:Ao P G tbl) (zs:List (Nat×List (Nat×V))) (loops:List (Nat×Lp)):Bu P (cxZ G tbl zs loops).base∧Cr (cxZ G tbl zs loops):=by
 refine ⟨Ek rfl h,λid f st r hr=>?_⟩;have hr:(FK zs loops id f st).sem=some r:=hr;have by':∀ st,(BC loops id f st).sem=some r->LRun (cxZ G tbl zs loops).base f st r:=λst hr=>by
  unfold BC at hr;split at hr
  ·exact HL hr
  ·cases hr
 unfold FK at hr;split at hr
 ·exact .run (.weak (Z2 _ _) (by' _ hr))
 ·exact .run (by' _ hr)
noncomputable def isR (Γ:Cx0) (r:Ex×St):(St->T (Ex×St))->St->Bool:=λf st=>@decide (LRun Γ f st r) (Classical.propDecidable _)
end Go.Sy
namespace Go.Proofs.YtkbafjceglhjhaaGreatDoor.Ed
open Go.Sy
def Di (n:Nat) (f:Nat->E6):Bool:=AV n λi=>ieq (Be (f i)) 0
theorem D9 {n:Nat} {f:Nat->E6}:Di n f=true↔∀ i,i<n->Be (f i)=0:=by
 unfold Di;rw [A8];simp [ieq]
theorem Kx (f g:Nat->E6):∀ d i,G9 f g d i=true↔∀ j,i <= j->j<i+d->f j=g j
 | 0,i=>by
  simp only [G9,true_iff];intro j h1 h2; omega
 | d+1,i=>by
  unfold G9;cases h:eqE (f i) (g i) with
  | true =>
   have h0:=(JB _ _).1 h;show G9 f g d (i+1)=true↔_;rw [Kx f g d (i+1)];constructor
   ·intro q j h1 h2
    by_cases hj:j=i
    ·subst hj; exact h0
    ·exact q j (by omega) (by omega)
   ·intro q j h1 h2; exact q j (by omega) (by omega)
  | false =>
   constructor
   ·intro q; cases q
   ·intro q
    have:=(JB _ _).2 (q i (Nat.le_refl _) (by omega));rw [this] at h; cases h
theorem W2 (n:Nat) (f:Nat->E6):DZ n f n f=true:=by
 unfold DZ;rw [Vf];exact (Kx f f n 0).2 λ_ _ _=>rfl
end Go.Proofs.YtkbafjceglhjhaaGreatDoor.Ed
namespace Go.Proofs.YtkbafjceglhjhaaGreatDoor.Ed
open Go.Sy
theorem AaS {n:Nat}:AV n (λ_=>true)=true:=A8.2 λ_ _=>rfl
def kL (n:Nat):Kn:=⟨AV n λ_=>true,true,AaS⟩
def BW (g:Nat->V):Nat->Nat->V
 | 0=>λ_=>.und
 | i+1=>AD i (BW g i) (g i)
theorem HE (g:Nat->V):∀ n j,j<n->BW g n j=g j
 | 0,j,h=>by omega
 | n+1,j,h=>by
  rw [show BW g (n+1) j=AD n (BW g n) (g n) j from rfl,Br];show (bif Nat.beq j n then g n else BW g n j)=_;cases hb:Nat.beq j n with
  | true =>rw [Nat.eq_of_beq_eq_true hb];rfl
  | false =>have:=Nat.ne_of_beq_eq_false hb;exact HE g n j (by omega)
theorem TL {i n b c:Nat} (h:i<n) (hb:b <= c) (hn:n * c <= 140737488355328):Bs i 1 b=true:=by
 refine decide_eq_true ?_;have h1:(i+1) * b <= n * b:=Nat.mul_le_mul_right b (by omega);have h2:n * b <= n * c:=Nat.mul_le_mul_left n hb;omega
theorem JA {n:Nat} (hn:Ct n=true):n <= 4611686018427387904:=by
 have hn:n * 40 <= 140737488355328:=of_decide_eq_true hn;omega
def lp81 (n:Nat) (f:Nat->E6):Lp:=⟨bmK 29 0 [0,2,3,4,9,10,11],2,bmK 29 0 [2,3,4],4,n+1⟩
def cdV (f:Nat->E6):Nat->V:=λi=>iV (Cd (f i))
theorem Vr (p:Nat->Bool):∀ n,AV n p=false->∃ e,e<n∧p e=false∧∀ t,t<e->p t=true
 | 0,h=>by cases h
 | n+1,h=>by
  cases hn:AV n p with
  | false =>obtain ⟨e,h1,h2,h3⟩:=Vr p n hn;exact ⟨e,by omega,h2,h3⟩
  | true =>
   refine ⟨n,by omega,?_,λt ht=>A8.1 hn t ht⟩;cases hp:p n with
   | false=>rfl
   | true =>
    have:AV (n+1) p=true:=A8.2 λi hi=>by
     by_cases hi':i=n
     ·rw [hi',hp]
     ·exact A8.1 hn i (by omega)
    rw [this] at h; cases h
theorem Aex {e:E6} (h:Be e ≠ 0):Be e=30:=by
 rcases Dk e with ⟨_,_,h1,_⟩ | ⟨h1,_⟩
 ·exact absurd h1 h
 ·exact h1
theorem WU {n:Nat} {f:Nat->E6} (h:Di n f=false):∃ e,e<n∧Be (f e)=30∧∀ t,t<e->Be (f t)=0:=by
 obtain ⟨e,h1,h2,h3⟩:=Vr _ n h;refine ⟨e,h1,Aex λh0=>?_,λt ht=>by simpa [ieq] using h3 t ht⟩;rw [h0] at h2;cases h2
def Aew:List V->A5:=Hy λn f=>.br (Ct n) (.br (Di n f) (.leaf (.tup [.ref 0,iV 0],[.row 3 1 n λi=>iV (Cd (f i))])) (.leaf (.tup [.ref 0,iV 30],[.row 3 1 0 λ_=>.und]))) .fail
end Go.Proofs.YtkbafjceglhjhaaGreatDoor.Ed
namespace Go.Proofs.YtkbafjceglhjhaaGreatDoor.Ed
open Go.Sy
def Hn (n:Nat):List (Nat×Lp):=[(0,⟨[],1000,[],1000,n⟩),(1,⟨[],1000,[],1000,n⟩),(2,⟨[],1000,[],1000,n⟩),(3,⟨[],1000,[],1000,n⟩),(4,⟨[],1000,[],1000,n⟩),(5,⟨[],1000,[],1000,n⟩),(6,⟨[],1000,[],1000,n⟩)]
noncomputable def cy0:A7:=[(21,NZ OA),(32,ap2 gI toE λa e=>out (OY a e)),(28,BX λe=>iV (Be e))]
noncomputable def B83:List V->A5:=λvs=>A0 (Aj tab (AO Gl cy0 (Hn 30)) Tryz.f105 vs [])
noncomputable def AqG:A7:=(83,B83)::cy0
noncomputable def Ato:List V->A5:=λvs=>A0 (Aj tab (AO Gl AqG (Hn 30)) Tryz.f193 vs [])
noncomputable def Ajx:A7:=(108,Ato)::AqG
noncomputable def B88:List V->A5:=λvs=>A0 (Aj tab (AO Gl Ajx (Hn 30)) Tryz.f171 vs [])
noncomputable def AqE:A7:=(88,B88)::Ajx
noncomputable def B89:List V->A5:=λvs=>A0 (Aj tab (AO Gl AqE (Hn 30)) Tryz.f172 vs [])
noncomputable def AqD:A7:=(89,B89)::AqE
noncomputable def B90:List V->A5:=λvs=>A0 (Aj tab (AO Gl AqD (Hn 30)) Tryz.f173 vs [])
noncomputable def AqC:A7:=(90,B90)::AqD
noncomputable def B93:List V->A5:=λvs=>A0 (Aj tab (AO Gl AqC (Hn 30)) Tryz.f176 vs [])
noncomputable def AqA:A7:=(93,B93)::AqC
noncomputable def B87:List V->A5:=λvs=>A0 (Aj tab (AO Gl AqA (Hn 30)) Tryz.f170 vs [])
noncomputable def AqF:A7:=(87,B87)::AqA
noncomputable def B92:List V->A5:=λvs=>A0 (Aj tab (AO Gl AqF (Hn 30)) Tryz.f175 vs [])
noncomputable def AqB:A7:=(92,B92)::AqF
noncomputable def B91:List V->A5:=λvs=>A0 (Aj tab (AO Gl AqB (Hn 30)) Tryz.f174 vs [])
noncomputable def AsU:A7:=(91,B91)::AqB
noncomputable def B86:List V->A5:=λvs=>A0 (Aj tab (AO Gl AsU (Hn 30)) Tryz.f169 vs [])
end Go.Proofs.YtkbafjceglhjhaaGreatDoor.Ed
namespace Go.Proofs.YtkbafjceglhjhaaGreatDoor.Ed
open Go.Sy
open Int (ofNat)
def BJ (e:E6):Bool:=Al (ile 1 e.kind) (ile e.kind 3)
def AB (e:E6):Bool:=Al (BJ e) e.ext
def AH (e:E6):Bool:=Al (AQ (BJ e)) (AQ e.same)
theorem Afl (e:E6):(A0 (Aj tab (AO Gl [] []) Tryz.f193 [eV e] [])).sem=(sel (ile 1 (e).kind) (sel (ile 1 (e).kind) (sel (ile 1 (e).kind) (sel (ile 1 (e).kind) (some ((bV (ile (e).kind 3)),[])) (some ((bV false),[]))) (sel (ile 1 (e).kind) (some (AK,[])) (some ((bV false),[])))) (sel (ile 1 (e).kind) none (sel (ile 1 (e).kind) (some (AK,[])) (some ((bV false),[]))))) (sel (ile 1 (e).kind) none (sel (ile 1 (e).kind) none (sel (ile 1 (e).kind) (some (AK,[])) (some ((bV false),[])))))):=by kernel_rfl
theorem Asw:Ap Tryz.prog Gl 193 (BX λe=>bV (BJ e)):=by
 refine Ap.congr (AM A2 mixed Tryz.func193 (by kernel_rfl) (by kernel_rfl) (Γ:=AO Gl [] []) (Bh Ao.nil _)) λvs r h=>?_;obtain ⟨e,rfl,rfl⟩:=Cn h;refine (Afl e).trans ?_;unfold BJ;cases ile 1 e.kind <;> rfl
theorem Cf (i:Nat):ile 0 (ofNat i)=true:=Y8 (by simp)
noncomputable def Abu:A7:=(193,BX λe=>bV (BJ e))::[]
theorem XY:Ao Tryz.prog Gl Abu:=.cons Asw .nil
theorem Akw (e:E6):(A0 (Aj tab (AO Gl Abu []) Tryz.f171 [eV e] [])).sem=(sel (BJ e) (sel (BJ e) (sel (BJ e) (some ((bV (e).ext),[])) (some ((bV false),[]))) (sel (BJ e) (some (AK,[])) (some ((bV false),[])))) (sel (BJ e) none (sel (BJ e) (some (AK,[])) (some ((bV false),[]))))):=by kernel_rfl
theorem p88:Ap Tryz.prog Gl 171 (BX λe=>bV (AB e)):=by
 refine Ap.congr (AM A2 mixed Tryz.func171 (by kernel_rfl) (by kernel_rfl) (Γ:=AO Gl Abu []) (Bh XY _)) λvs r h=>?_;obtain ⟨e,rfl,rfl⟩:=Cn h;refine (Akw e).trans ?_;unfold AB;cases BJ e <;> rfl
theorem Akv (e:E6):(A0 (Aj tab (AO Gl Abu []) Tryz.f172 [eV e] [])).sem=(sel (AQ (BJ e)) (sel (AQ (BJ e)) (sel (AQ (BJ e)) (sel (AQ (BJ e)) (some ((bV (AQ (e).same)),[])) (some ((bV false),[]))) (sel (AQ (BJ e)) (some (AK,[])) (some ((bV false),[])))) (sel (AQ (BJ e)) none (sel (AQ (BJ e)) (some (AK,[])) (some ((bV false),[]))))) (sel (AQ (BJ e)) none (sel (AQ (BJ e)) none (sel (AQ (BJ e)) (some (AK,[])) (some ((bV false),[])))))):=by kernel_rfl
theorem p89:Ap Tryz.prog Gl 172 (BX λe=>bV (AH e)):=by
 refine Ap.congr (AM A2 mixed Tryz.func172 (by kernel_rfl) (by kernel_rfl) (Γ:=AO Gl Abu []) (Bh XY _)) λvs r h=>?_;obtain ⟨e,rfl,rfl⟩:=Cn h;refine (Akv e).trans ?_;unfold AH;cases BJ e <;> rfl
theorem PC (e:E6):BJ e=bor (ieq e.kind 1) (bor (ieq e.kind 2) (ieq e.kind 3)):=by
 unfold BJ;rw [Bool.eq_iff_iff];simp [Al,bor,ile,ieq];omega
theorem Aky (e:E6):(A0 (Aj tab (AO Gl [] []) Tryz.f152 [eV e] [])).sem=(sel (ieq (e).kind 1) (sel (ieq (e).kind 1) (sel (ieq (e).kind 1) (sel (ieq (e).kind 1) (some ((bV (e).ext),[])) none) none) none) (sel (ieq (e).kind 1) (sel (ieq (e).kind 1) (sel (ieq (e).kind 1) (some ((bV (e).ext),[])) none) none) (sel (ieq (e).kind 1) (sel (ieq (e).kind 1) (some ((bV (e).ext),[])) none) (sel (ieq (e).kind 1) (some ((bV (e).ext),[])) (sel (ieq (e).kind 2) (sel (ieq (e).kind 2) (sel (ieq (e).kind 2) (sel (ieq (e).kind 2) (some ((bV (e).ext),[])) none) none) none) (sel (ieq (e).kind 2) (sel (ieq (e).kind 2) (sel (ieq (e).kind 2) (some ((bV (e).ext),[])) none) none) (sel (ieq (e).kind 2) (sel (ieq (e).kind 2) (some ((bV (e).ext),[])) none) (sel (ieq (e).kind 2) (some ((bV (e).ext),[])) (sel (ieq (e).kind 3) (sel (ieq (e).kind 3) (sel (ieq (e).kind 3) (some ((bV (e).ext),[])) (some ((bV false),[]))) (sel (ieq (e).kind 3) (some (AK,[])) (some ((bV false),[])))) (sel (ieq (e).kind 3) none (sel (ieq (e).kind 3) (some (AK,[])) (some ((bV false),[]))))))))))))):=by kernel_rfl
theorem p60:Ap Tryz.prog Gl 152 (BX λe=>bV (AB e)):=by
 refine Ap.congr (AM A2 mixed Tryz.func152 (by kernel_rfl) (by kernel_rfl) (Γ:=AO Gl [] []) (Bh Ao.nil _)) λvs r h=>?_;obtain ⟨e,rfl,rfl⟩:=Cn h;refine (Aky e).trans ?_;unfold AB;rw [PC];cases ieq e.kind 1 <;> cases ieq e.kind 2 <;> cases ieq e.kind 3 <;> rfl
theorem Akx (e:E6):(A0 (Aj tab (AO Gl [] []) Tryz.f153 [eV e] [])).sem=(sel (AQ (ieq (e).kind 1)) (sel (AQ (ieq (e).kind 1)) (sel (AQ (ieq (e).kind 1)) (sel (AQ (ieq (e).kind 1)) (sel (AQ (ieq (e).kind 2)) (sel (AQ (ieq (e).kind 2)) (sel (AQ (ieq (e).kind 2)) (sel (AQ (ieq (e).kind 2)) (sel (AQ (ieq (e).kind 3)) (sel (AQ (ieq (e).kind 3)) (sel (AQ (ieq (e).kind 3)) (sel (AQ (ieq (e).kind 3)) (some ((bV (AQ (e).same)),[])) (some ((bV false),[]))) (sel (AQ (ieq (e).kind 3)) (some (AK,[])) (some ((bV false),[])))) (sel (AQ (ieq (e).kind 3)) none (sel (AQ (ieq (e).kind 3)) (some (AK,[])) (some ((bV false),[]))))) (sel (AQ (ieq (e).kind 3)) none (sel (AQ (ieq (e).kind 3)) none (sel (AQ (ieq (e).kind 3)) (some (AK,[])) (some ((bV false),[])))))) (some ((bV false),[]))) (sel (AQ (ieq (e).kind 2)) none (some ((bV false),[])))) (sel (AQ (ieq (e).kind 2)) none (sel (AQ (ieq (e).kind 2)) none (some ((bV false),[]))))) (sel (AQ (ieq (e).kind 2)) none (sel (AQ (ieq (e).kind 2)) none (sel (AQ (ieq (e).kind 2)) none (some ((bV false),[])))))) (some ((bV false),[]))) (sel (AQ (ieq (e).kind 1)) none (some ((bV false),[])))) (sel (AQ (ieq (e).kind 1)) none (sel (AQ (ieq (e).kind 1)) none (some ((bV false),[]))))) (sel (AQ (ieq (e).kind 1)) none (sel (AQ (ieq (e).kind 1)) none (sel (AQ (ieq (e).kind 1)) none (some ((bV false),[])))))):=by kernel_rfl
theorem p61:Ap Tryz.prog Gl 153 (BX λe=>bV (AH e)):=by
 refine Ap.congr (AM A2 mixed Tryz.func153 (by kernel_rfl) (by kernel_rfl) (Γ:=AO Gl [] []) (Bh Ao.nil _)) λvs r h=>?_;obtain ⟨e,rfl,rfl⟩:=Cn h;refine (Akx e).trans ?_;unfold AH;rw [PC];cases ieq e.kind 1 <;> cases ieq e.kind 2 <;> cases ieq e.kind 3 <;> rfl
noncomputable def tbY:A7:=(121,BX λe=>iV (Be e))::(171,BX λe=>bV (AB e))::(172,BX λe=>bV (AH e))::[]
theorem Ob:Ao Tryz.prog Gl tbY:=.cons p29 <| .cons p88 <| .cons p89 .nil
def OO (n:Nat) (f:Nat->E6):Lp:=⟨bmK 16 0 [0,2,3],0,bmK 16 0 [2],0,n+1⟩
def Q3 (n:Nat) (f:Nat->E6) (i:Nat) (j:Nat->V):St:=⟨jsV 16 0 j [(0,.sl 6 n (λi=>eV (f i))),(2,bV false),(3,nV i)],[]⟩
def Xw (n:Nat) (f:Nat->E6) (i:Nat):Ex×St:=(.ex 0,⟨jsV 16 0 Aa [(2,bV false)],[]⟩)
def Xv (n:Nat) (f:Nat->E6) (i:Nat):Ex×St:=(.rt,⟨jsV 16 0 Aa [(2,bV false)],[]⟩)
noncomputable def JG (L:LT):St->T (Ex×St):=λst=>AA tab ⟨Aw tbY,L,Gl⟩ (As Tryz.f79 0) 0 st
section
variable (L:LT) (n:Nat) (f:Nat->E6) (i:Nat)  (j:Nat->V)
include L n f i j
theorem Aoy (h0:ilt (ofNat i) (ofNat n)=false):Au (JG L) (OO n f) (Q3 n f i j)=some ((.ex 0),⟨jsV 16 0 Aa [(2,bV false)],[]⟩):=by
 exact Ae (ks:=[kn h0]) (by kernel_rfl)
theorem Aow (h0:ilt (ofNat i) (ofNat n)=true) (h10:ile 0 (ofNat i)=true) (h1:ieq (Be (f i)) 0=false):Au (JG L) (OO n f) (Q3 n f i j)=some (.rt,⟨jsV 16 0 Aa [(2,bV false)],[]⟩):=by
 exact Ae (ks:=[kn h0,kA (kn h10) (kn h0),kN (kn h1)]) (by kernel_rfl)
theorem Aox (h0:ilt (ofNat i) (ofNat n)=true) (h10:ile 0 (ofNat i)=true) (h1:ieq (Be (f i)) 0=true):Au (JG L) (OO n f) (Q3 n f i j)=some (.nm,⟨jsV 16 0 Aa [(0,.sl 6 n (λi=>eV (f i))),(2,bV false),(3,iV (wr .i64 (Ai (ofNat i) 1)))],[]⟩):=by
 exact Ae (ks:=[kn h0,kA (kn h10) (kn h0),kN (kn h1)]) (by kernel_rfl)
end
def Ajc (n:Nat) (f:Nat->E6) :Nat->V:=lkV AK []
section
variable (L:LT) (p0:PT) (n:Nat) (f:Nat->E6) (i:Nat)
include L p0 n f i
theorem Ann  (hp0:p0 (JG (onP 0 p0 (Xw n f i) L)) (Q3 n f 0 (Ajc n f ))=true):(A0 (Aj tab ⟨Aw tbY,onP 0 p0 (Xw n f i) L,Gl⟩ Tryz.f79 [AI n f] [])).sem=some ((bV true),[]):=by
 exact Ae (ks:=[kn hp0]) (by kernel_rfl)
theorem Anm  (hp0:p0 (JG (onP 0 p0 (Xv n f i) L)) (Q3 n f 0 (Ajc n f ))=true):(A0 (Aj tab ⟨Aw tbY,onP 0 p0 (Xv n f i) L,Gl⟩ Tryz.f79 [AI n f] [])).sem=some ((bV false),[]):=by
 exact Ae (ks:=[kn hp0]) (by kernel_rfl)
end
def OR (n:Nat) (f:Nat->E6):Lp:=⟨bmK 21 0 [1,5,8,9,10],0,bmK 21 0 [5],0,n+1⟩
def Uj (n:Nat) (f:Nat->E6) (s:Int) (i:Nat) (j:Nat->V):St:=⟨jsV 21 0 j [(1,.fn 171 []),(5,iV s),(8,.sl 6 n (λi=>eV (f i))),(9,nV n),(10,nV i)],[]⟩
def Xx (n:Nat) (f:Nat->E6) (s:Int) (i:Nat):Ex×St:=(.ex 0,⟨jsV 21 0 Aa [(5,iV s)],[]⟩)
noncomputable def LM (L:LT):St->T (Ex×St):=λst=>AA tab ⟨Aw tbY,L,Gl⟩ (As Tryz.f170 0) 0 st
section
variable (L:LT) (n:Nat) (f:Nat->E6) (s:Int) (i:Nat)  (j:Nat->V)
include L n f s i j
theorem Alw (h0:ilt (ofNat i) (ofNat n)=false):Au (LM L) (OR n f) (Uj n f s i j)=some ((.ex 0),⟨jsV 21 0 Aa [(5,iV s)],[]⟩):=by
 exact Ae (ks:=[kn h0]) (by kernel_rfl)
theorem Alu (h0:ilt (ofNat i) (ofNat n)=true) (h10:ile 0 (ofNat i)=true) (h1:AB (f i)=true):Au (LM L) (OR n f) (Uj n f s i j)=some (.nm,⟨jsV 21 0 Aa [(1,.fn 171 []),(5,iV (wr .i64 (Ai s 1))),(8,.sl 6 n (λi=>eV (f i))),(9,nV n),(10,iV (wr .i64 (Ai (ofNat i) 1)))],[]⟩):=by
 exact Ae (ks:=[kn h0,kA (kn h10) (kn h0),kn h1]) (by kernel_rfl)
theorem Alv (h0:ilt (ofNat i) (ofNat n)=true) (h10:ile 0 (ofNat i)=true) (h1:AB (f i)=false):Au (LM L) (OR n f) (Uj n f s i j)=some (.nm,⟨jsV 21 0 Aa [(1,.fn 171 []),(5,iV s),(8,.sl 6 n (λi=>eV (f i))),(9,nV n),(10,iV (wr .i64 (Ai (ofNat i) 1)))],[]⟩):=by
 exact Ae (ks:=[kn h0,kA (kn h10) (kn h0),kn h1]) (by kernel_rfl)
end
def Aqe (n:Nat) (f:Nat->E6) :Nat->V:=lkV AK [(0,.sl 6 n (λi=>eV (f i))),(4,iV 0)]
theorem Ano (L:LT) (p0:PT) (n:Nat) (f:Nat->E6) (s:Int) (i:Nat)  (hp0:p0 (LM (onP 0 p0 (Xx n f s i) L)) (Uj n f 0 0 (Aqe n f ))=true):(A0 (Aj tab ⟨Aw tbY,onP 0 p0 (Xx n f s i) L,Gl⟩ Tryz.f170 [AI n f,.fn 171 []] [])).sem=some ((iV s),[]):=by
 exact Ae (ks:=[kn hp0]) (by kernel_rfl)
def OS (n:Nat) (f:Nat->E6):Lp:=⟨bmK 21 0 [1,5,8,9,10],0,bmK 21 0 [5],0,n+1⟩
def Uk (n:Nat) (f:Nat->E6) (s:Int) (i:Nat) (j:Nat->V):St:=⟨jsV 21 0 j [(1,.fn 172 []),(5,iV s),(8,.sl 6 n (λi=>eV (f i))),(9,nV n),(10,nV i)],[]⟩
def Xy (n:Nat) (f:Nat->E6) (s:Int) (i:Nat):Ex×St:=(.ex 0,⟨jsV 21 0 Aa [(5,iV s)],[]⟩)
noncomputable def LN (L:LT):St->T (Ex×St):=λst=>AA tab ⟨Aw tbY,L,Gl⟩ (As Tryz.f170 0) 0 st
section
variable (L:LT) (n:Nat) (f:Nat->E6) (s:Int) (i:Nat)  (j:Nat->V)
include L n f s i j
theorem Alz (h0:ilt (ofNat i) (ofNat n)=false):Au (LN L) (OS n f) (Uk n f s i j)=some ((.ex 0),⟨jsV 21 0 Aa [(5,iV s)],[]⟩):=by
 exact Ae (ks:=[kn h0]) (by kernel_rfl)
theorem Alx (h0:ilt (ofNat i) (ofNat n)=true) (h10:ile 0 (ofNat i)=true) (h1:AH (f i)=true):Au (LN L) (OS n f) (Uk n f s i j)=some (.nm,⟨jsV 21 0 Aa [(1,.fn 172 []),(5,iV (wr .i64 (Ai s 1))),(8,.sl 6 n (λi=>eV (f i))),(9,nV n),(10,iV (wr .i64 (Ai (ofNat i) 1)))],[]⟩):=by
 exact Ae (ks:=[kn h0,kA (kn h10) (kn h0),kn h1]) (by kernel_rfl)
theorem Aly (h0:ilt (ofNat i) (ofNat n)=true) (h10:ile 0 (ofNat i)=true) (h1:AH (f i)=false):Au (LN L) (OS n f) (Uk n f s i j)=some (.nm,⟨jsV 21 0 Aa [(1,.fn 172 []),(5,iV s),(8,.sl 6 n (λi=>eV (f i))),(9,nV n),(10,iV (wr .i64 (Ai (ofNat i) 1)))],[]⟩):=by
 exact Ae (ks:=[kn h0,kA (kn h10) (kn h0),kn h1]) (by kernel_rfl)
end
def Aqf (n:Nat) (f:Nat->E6) :Nat->V:=lkV AK [(0,.sl 6 n (λi=>eV (f i))),(4,iV 0)]
theorem Anp (L:LT) (p0:PT) (n:Nat) (f:Nat->E6) (s:Int) (i:Nat)  (hp0:p0 (LN (onP 0 p0 (Xy n f s i) L)) (Uk n f 0 0 (Aqf n f ))=true):(A0 (Aj tab ⟨Aw tbY,onP 0 p0 (Xy n f s i) L,Gl⟩ Tryz.f170 [AI n f,.fn 172 []] [])).sem=some ((iV s),[]):=by
 exact Ae (ks:=[kn hp0]) (by kernel_rfl)
def AlY:List V->A5:=Hy λn f=>.br (Aq n) (out (bV (Di n f))) .fail
theorem Ai1 (L:LT) (n:Nat) (f:Nat->E6) (hn:n <= 4611686018427387904):∀ (e i:Nat) (j:Nat->V) (q:Nat),n=i+e->e<q->(∀ k,k<i->ieq (Be (f k)) 0=true) ->
  (Av (JG L) (OO n f) q (Q3 n f i j)).sem=some (match Di n f with | true=>Xw n f 0 | false=>Xv n f 0)
 | 0,i,j,q+1,h,_,hb=>by
  have:n=i:=by omega
  subst this;rw [show Di n f=true from A8.2 hb];exact Af (Aoy L n f _ j (A1 (Nat.le_refl _)))
 | e+1,i,j,q+1,h,h2,hb=>by
  cases hp:ieq (Be (f i)) 0 with
  | true =>
   rw [Af (Aox L n f i j (ofNat_lt (by omega)) (Cf _) hp),AT,A3 (show i<n by omega) hn];exact Ai1 L n f hn e (i+1) Aa q (by omega) (by omega) λk hk=>by
    by_cases hki:k=i
    ·subst hki; exact hp
    ·exact hb k (by omega)
  | false =>
   have hm:Di n f=false:=by
    cases hm:Di n f with
    | false=>rfl
    | true =>have:=A8.1 hm i (by omega);rw [hp] at this;cases this
   rw [hm];exact Af (Aow L n f i j (ofNat_lt (by omega)) (Cf _) hp)
theorem p98:Ap Tryz.prog Gl 79 AlY:=by
 refine Ah A2 mixed Tryz.func79 (by kernel_rfl) (by kernel_rfl) λvs v h' h=>?_;obtain ⟨n,f,ha,hq⟩:=CM h;obtain ⟨hn,hq⟩:=Ac hq;have:=Ab hq;simp only [Prod.mk.injEq] at this;obtain ⟨rfl,rfl⟩:=this;have hn:n <= 4611686018427387904:=of_decide_eq_true hn;have hx:=Bh Ob [(0,OO n f)];have hL:=Bb [(0,OO n f)];refine ⟨_,AO Gl tbY [(0,OO n f)],[],ha,rfl,hx.1,hx.2,?_,Am.refl _⟩;have hr:=λL i=>Ai1 L n f hn n 0 i (n+1) (by omega) (by omega) (λk hk=>by omega);cases hm:Di n f with
 | true =>rw [hm] at hr;exact AW (AX hL hL) _ (Ann _ _ n f 0 (A4 (hr _ _)))
 | false =>rw [hm] at hr;exact AW (AX hL hL) _ (Anm _ _ n f 0 (A4 (hr _ _)))
def Ak (p:Nat->Bool):Nat->Nat
 | 0=>0
 | i+1=>match p i with
  | true=>Ak p i+1
  | false=>Ak p i
theorem B2 (p:Nat->Bool):∀ i,Ak p i <= i
 | 0=>Nat.le_refl _
 | i+1=>by
  have:=B2 p i;unfold Ak;split <;> omega
theorem WA (L:LT) (n:Nat) (f:Nat->E6) (hn:n <= 4611686018427387904):∀ (e i:Nat) (j:Nat->V) (q:Nat),n=i+e->e<q ->
  (Av (LM L) (OR n f) q (Uj n f (ofNat (Ak (λk=>AB (f k)) i)) i j)).sem=some (Xx n f (ofNat (Ak (λk=>AB (f k)) n)) 0)
 | 0,i,j,q+1,h,_=>by
  have:n=i:=by omega
  subst this;exact Af (Alw L n f _ _ j (A1 (Nat.le_refl _)))
 | e+1,i,j,q+1,h,h2=>by
  have hc:=B2 (λk=>AB (f k)) i;cases hp:AB (f i) with
  | true =>
   rw [Af (Alu L n f _ i j (ofNat_lt (by omega)) (Cf _) hp),AT,A3 (show i<n by omega) hn,A3 (show Ak (λk=>AB (f k)) i<n by omega) hn,
    show Ak (λk=>AB (f k)) i+1=Ak (λk=>AB (f k)) (i+1) by rw [Ak,hp]]
   exact WA L n f hn e (i+1) Aa q (by omega) (by omega)
  | false =>
   rw [Af (Alv L n f _ i j (ofNat_lt (by omega)) (Cf _) hp),AT,A3 (show i<n by omega) hn,
    show Ak (λk=>AB (f k)) i=Ak (λk=>AB (f k)) (i+1) by rw [Ak,hp]]
   exact WA L n f hn e (i+1) Aa q (by omega) (by omega)
theorem WB (L:LT) (n:Nat) (f:Nat->E6) (hn:n <= 4611686018427387904):∀ (e i:Nat) (j:Nat->V) (q:Nat),n=i+e->e<q ->
  (Av (LN L) (OS n f) q (Uk n f (ofNat (Ak (λk=>AH (f k)) i)) i j)).sem=some (Xy n f (ofNat (Ak (λk=>AH (f k)) n)) 0)
 | 0,i,j,q+1,h,_=>by
  have:n=i:=by omega
  subst this;exact Af (Alz L n f _ _ j (A1 (Nat.le_refl _)))
 | e+1,i,j,q+1,h,h2=>by
  have hc:=B2 (λk=>AH (f k)) i;cases hp:AH (f i) with
  | true =>
   rw [Af (Alx L n f _ i j (ofNat_lt (by omega)) (Cf _) hp),AT,A3 (show i<n by omega) hn,A3 (show Ak (λk=>AH (f k)) i<n by omega) hn,
    show Ak (λk=>AH (f k)) i+1=Ak (λk=>AH (f k)) (i+1) by rw [Ak,hp]]
   exact WB L n f hn e (i+1) Aa q (by omega) (by omega)
  | false =>
   rw [Af (Aly L n f _ i j (ofNat_lt (by omega)) (Cf _) hp),AT,A3 (show i<n by omega) hn,
    show Ak (λk=>AH (f k)) i=Ak (λk=>AH (f k)) (i+1) by rw [Ak,hp]]
   exact WB L n f hn e (i+1) Aa q (by omega) (by omega)
def X8:List V->A5
 | [v,.fn g []]=>apL v λn f=>.br (Aq n) (match Nat.beq g 171,Nat.beq g 172 with
  | true,_=>out (iV (ofNat (Ak (λk=>AB (f k)) n)))
  | false,true=>out (iV (ofNat (Ak (λk=>AH (f k)) n)))
  | false,false=>.fail) .fail
 | _=>.fail
theorem p87:Ap Tryz.prog Gl 170 X8:=by
 refine Ah A2 mixed Tryz.func170 (by kernel_rfl) (by kernel_rfl) λvs v h' h=>?_;unfold X8 at h;split at h
 ·rename_i u g
  obtain ⟨n,f,ha,h1⟩:=CC h;obtain ⟨hn,hq⟩:=Ac h1;clear h h1;have hn:n <= 4611686018427387904:=of_decide_eq_true hn;have hA:Ba [u,.fn g []] [AI n f,.fn g []]:=λS w cs hv=>by
   obtain ⟨c,l,rfl,q1,q2⟩:=hv;exact ⟨c,l,rfl,ha S w c q1,q2⟩
  split at hq
  ·rename_i h1
   have h1:=Nat.eq_of_beq_eq_true h1;subst h1;have:=Ab hq;simp only [Prod.mk.injEq] at this;obtain ⟨rfl,rfl⟩:=this;have hx:=Bh Ob [(0,OR n f)];have hL:=Bb [(0,OR n f)];exact ⟨_,AO Gl tbY [(0,OR n f)],[],hA,rfl,hx.1,hx.2,AW (AX hL hL) _ (Ano _ _ n f _ 0 (A4 (WA _ n f hn n 0 _ (n+1) (by omega) (by omega)))),Am.refl _⟩
  ·rename_i h2
   have h2:=Nat.eq_of_beq_eq_true h2;subst h2;have:=Ab hq;simp only [Prod.mk.injEq] at this;obtain ⟨rfl,rfl⟩:=this;have hx:=Bh Ob [(0,OS n f)];have hL:=Bb [(0,OS n f)];exact ⟨_,AO Gl tbY [(0,OS n f)],[],hA,rfl,hx.1,hx.2,AW (AX hL hL) _ (Anp _ _ n f _ 0 (A4 (WB _ n f hn n 0 _ (n+1) (by omega) (by omega)))),Am.refl _⟩
  ·cases hq
 ·cases h
end Go.Proofs.YtkbafjceglhjhaaGreatDoor.Ed
