/-
  States told under new names of own blocks, between a loop's rounds. No conditions.
-/
import Derived.Test.YtkbgidbledjejaaGreatSyZb
namespace Go.Sy
def HA (is:List Nat):V->V
 | .agg cs=>.agg (rens cs)
 | .tup cs=>.tup (rens cs)
 | .fn f cs=>.fn f (rens cs)
 | .ptr id o=>match Es id is 0 with
  | some k=>.ptr k o
  | none=>.und
 | .ref id=>match Es id is 0 with
  | some k=>.ref k
  | none=>.und
 | .ept id s i o=>match Es id is 0 with
  | some k=>.ept k s i o
  | none=>.und
 | .rct id n=>match Es id is 0 with
  | some k=>.rct k n
  | none=>.und
 | .jref id=>match Es id is 0 with
  | some k=>.jref k
  | none=>.und
 | .jept id s i o=>match Es id is 0 with
  | some k=>.jept k s i o
  | none=>.und
 | .mref id i=>match Es id is 0 with
  | some k=>.mref k i
  | none=>.und
 | .mept id i s n o=>match Es id is 0 with
  | some k=>.mept k i s n o
  | none=>.und
 | .mmap id i=>match Es id is 0 with
  | some k=>.mmap k i
  | none=>.und
 | v=>v
 where rens:List V->List V
 | []=>[]
 | v::vs=>HA is v::rens vs
def LI (is:List Nat):Blk->Blk
 | .cells cs=>.cells (HA.rens is cs)
 | .xrow _ _ _ _ _=>.dead
 | .saved _=>.dead
 | .rng cd ts q=>.rng cd (HA.rens is ts) q
 | b=>b
def FW (is:List Nat) (h:List Blk):List Nat->List Blk
 | []=>[]
 | j::l=>(match h[j]? with
  | some b=>LI is b
  | none=>.dead)::FW is h l
def Alm (is:List Nat) (st:St):St:=⟨HA.rens is st.t,FW is st.h is⟩
section
variable {S:Nat->Prop} {w:World} {κ:Ai} {is:List Nat}
theorem Tl {id k:Nat} (h:Es id is 0=some k):(is[k]?).bind κ=κ id:=by
 obtain ⟨_,h2⟩:=GA h;rw [Nat.sub_zero] at h2;rw [h2];rfl
mutual
theorem AjS:∀ (v:V) (c:Value),VR S w v κ c->VR S w (HA is v) (λi=>(is[i]?).bind κ) c
 | .val _,_,h=>h
 | .str _,_,h=>h
 | .agg cs,_,h=>by
  obtain ⟨ca,e,h⟩:=h;exact ⟨ca,e,ED cs _ h⟩
 | .tup cs,_,h=>by
  obtain ⟨ca,e,h⟩:=h;exact ⟨ca,e,ED cs _ h⟩
 | .fn f cs,_,h=>by
  obtain ⟨ca,e,h⟩:=h;exact ⟨ca,e,ED cs _ h⟩
 | .nilS,_,h=>h
 | .sl _ _ _,_,h=>h
 | .slr _ _ _ _,_,h=>h
 | .pp _,_,h=>h
 | .ptr id _,_,h=>by
  simp only [HA];split
  ·rename_i k hk
   obtain ⟨g,h1,h2⟩:=h;exact ⟨g,(Tl hk).trans h1,h2⟩
  ·trivial
 | .ref id,_,h=>by
  simp only [HA];split
  ·rename_i k hk
   exact ⟨(Tl hk).trans h.1,h.2⟩
  ·trivial
 | .ept id _ _ _,_,h=>by
  simp only [HA];split
  ·rename_i k hk
   obtain ⟨g,n,cap,h1,h2⟩:=h;exact ⟨g,n,cap,(Tl hk).trans h1,h2⟩
  ·trivial
 | .rct id _,_,h=>by
  simp only [HA];split
  ·rename_i k hk
   obtain ⟨a,n,cap,h1,h2⟩:=h;exact ⟨a,n,cap,(Tl hk).trans h1,h2⟩
  ·trivial
 | .jref id,_,h=>by
  simp only [HA];split
  ·rename_i k hk
   obtain ⟨ms,h1,h2⟩:=h;exact ⟨ms,(Tl hk).trans h1,h2⟩
  ·trivial
 | .jept id _ _ _,_,h=>by
  simp only [HA];split
  ·rename_i k hk
   obtain ⟨g,n,cap,ms,h1,h2⟩:=h;exact ⟨g,n,cap,ms,(Tl hk).trans h1,h2⟩
  ·trivial
 | .mref id _,_,h=>by
  simp only [HA];split
  ·rename_i k hk
   obtain ⟨o,ms,h1,h2⟩:=h;exact ⟨o,ms,(Tl hk).trans h1,h2⟩
  ·trivial
 | .mept id _ _ _ _,_,h=>by
  simp only [HA];split
  ·rename_i k hk
   obtain ⟨o,ms,g,n,cap,h1,h2⟩:=h;exact ⟨o,ms,g,n,cap,(Tl hk).trans h1,h2⟩
  ·trivial
 | .mmap id _,_,h=>by
  simp only [HA];split
  ·rename_i k hk
   obtain ⟨o,ms,h1,h2⟩:=h;exact ⟨o,ms,(Tl hk).trans h1,h2⟩
  ·trivial
 | .anym,_,h=>h
 | .und,_,_=>trivial
theorem ED:∀ (vs:List V) (l:List Value),VRs S w vs κ l->VRs S w (HA.rens is vs) (λi=>(is[i]?).bind κ) l
 | [],_,h=>h
 | v::vs,_,h=>by
  obtain ⟨a,l',e,h1,h2⟩:=h;exact ⟨a,l',e,AjS v _ h1,ED vs _ h2⟩
end
end
theorem MS (is0:List Nat) (h:List Blk):∀ (is:List Nat) (i:Nat),(FW is0 h is)[i]? = (is[i]?).map λj=>match h[j]? with
  | some b=>LI is0 b
  | none=>.dead
 | [],i=>by simp [FW]
 | j::l,0=>by simp [FW]
 | j::l,i+1=>by simpa [FW] using MS is0 h l i
theorem JS (is0:List Nat) (h:List Blk):∀ (is:List Nat),(FW is0 h is).length=is.length
 | []=>rfl
 | j::l=>by simp [FW,JS is0 h l]
theorem Oy {is:List Nat} {b:Blk} {v:Option Value} {g:Nat} (h:inBlk v g (LI is b)):inBlk v g b∧∀ lk e s n g,b ≠ .xrow lk e s n g:=by
 cases b with
 | xrow lk e s n gt=>exact h.elim
 | saved vs=>exact h.elim
 | _=>exact ⟨h,λ_ _ _ _ _ e=>by cases e⟩
theorem KI {is:List Nat} {b:Blk}:¬ C5 (LI is b):=λh=>by
 cases b <;> rcases h with ⟨_,_,_,_,h⟩ | ⟨_,h⟩ <;> cases h
theorem AjX {Γ:Cx0} {is:List Nat} (hn:GU is=true) (st:St):LE Γ st (Alm is st):=by
 intro _ κ S a w hr;have hat:∀ (i:Nat) (b:Blk),(FW is st.h is)[i]? = some b->b = .dead ∨ ∃ j b0,is[i]? = some j∧st.h[j]? = some b0∧b=LI is b0:=by
  intro i b hb;rw [MS,Option.map_eq_some_iff] at hb;obtain ⟨j,h1,h2⟩:=hb;split at h2
  ·rename_i b0 h3
   exact .inr ⟨j,b0,h1,h3,h2.symm⟩
  ·exact .inl h2.symm
 have hown:∀ (i b:Nat),A2 (λi=>(is[i]?).bind κ) (FW is st.h is) i b->∃ j,is[i]? = some j∧A2 κ st.h j b∧∀ lk e s n g,st.h[j]? ≠ some (.xrow lk e s n g):=by
  rintro i b ⟨bl,q1,q2⟩
  rcases hat i bl q1 with rfl | ⟨j,b0,h1,h2,rfl⟩
  ·exact q2.elim
  ·have q2:inBlk ((is[i]?).bind κ) b (LI is b0):=q2
   rw [h1] at q2;obtain ⟨q3,q4⟩:=Oy q2;exact ⟨j,h1,⟨b0,h2,q3⟩,λlk e s n g h=>by rw [h2] at h; cases h; exact q4 _ _ _ _ _ rfl⟩
 refine ⟨λi=>(is[i]?).bind κ,S,⟨⟨?_,?_,?_,?_⟩,hr.env,ED _ _ hr.tmps,hr.defers⟩,
  ⟨rfl,rfl,rfl,Nat.le_refl _,λ_ _ _=>rfl,λi b hb=>?_,λ_ hb=>.inl hb,λ_ hb=>hb,
   HB (Nat.le_refl _) (λ_ _ _=>rfl) (λi b hb _=>?_) (λ_ _ _ _ _ _ _ _=>Em.refl _ _ _),λi bl hi hf=>?_⟩⟩
 ·intro i b hi
  rcases hat i b hi with rfl | ⟨j,b0,h1,h2,rfl⟩
  ·trivial
  ·have h3:=hr.good.blk j _ h2
   show A5 S w (λi=>(is[i]?).bind κ) ((is[i]?).bind κ) (LI is b0);rw [h1];cases b0 with
   | cells cs =>obtain ⟨g,e,ca,p1,p2,p3⟩:=h3;exact ⟨g,e,ca,p1,p2,ED _ _ p3⟩
   | xrow lk e s n g=>trivial
   | saved vs=>trivial
   | rng cd ts q =>obtain ⟨l,r,p1,p2,p3,p4,p5⟩:=h3;exact ⟨l,r,p1,p2,p3,p4,ED _ _ p5⟩
   | dead=>trivial
   | _=>exact h3
 ·intro i j b hij hi hj
  obtain ⟨i',h1,h2,_⟩:=hown i b hi;obtain ⟨j',h3,h4,_⟩:=hown j b hj;refine hr.good.sep i' j' b (λe=>hij ?_) h2 h4;subst e;exact Hv hn i j i' h1 h3
 ·intro b hb
  refine ⟨(hr.good.out b hb).1,λi hi=>?_⟩;obtain ⟨j,_,h2,_⟩:=hown i b hi;exact (hr.good.out b hb).2 j h2
 ·intro i hi
  have hi:(FW is st.h is).length <= i:=hi;rw [JS] at hi;show (is[i]?).bind κ=none;rw [List.getElem?_eq_none hi];rfl
 ·obtain ⟨j,_,h2,_⟩:=hown i b hb
  exact .inl ⟨j,h2⟩
 ·obtain ⟨j,_,h2,h3⟩:=hown i b hb
  exact ⟨j,h2,λe s n g h=>absurd h (h3 _ _ _ _ _)⟩
 ·rcases hat i bl hi with rfl | ⟨j,b0,h1,h2,rfl⟩
  ·rcases hf with ⟨_,_,_,_,h⟩ | ⟨_,h⟩ <;> cases h
  ·exact absurd hf KI
def Nv (l:Lp) (is:List Nat) (r:Ex×St):Ex×St:=match r.1 with
 | .nm=>(.nm,Alm is (EC l.ks l.n r.2))
 | .ex i=>(.ex i,EC l.ke l.ne r.2)
 | .rt=>(.rt,EC l.ke l.ne r.2)
def K3 (f:St->T (Ex×St)) (l:Lp) (is:List Nat):Nat->St->T (Ex×St)
 | 0,_=>.fail
 | m+1,st=>(f st).bind λr=>match (Nv l is r).1 with
  | .nm=>K3 f l is m (Nv l is r).2
  | _=>.leaf (Nv l is r)
def Pm (f:St->T (Ex×St)) (l:Lp) (is:List Nat) (st:St):Option (Ex×St):=((f st).bind λr=>T.leaf (Nv l is r)).sem
theorem So {Γ:Cx0} {f:St->T (Ex×St)} {l:Lp} {is:List Nat} (hn:GU is=true):∀ {m:Nat} {st:St} {r:Ex×St},(K3 f l is m st).sem=some r->LRun Γ f st r
 | 0,_,_,h=>by cases h
 | m+1,st,r,h=>by
  obtain ⟨⟨e,st1⟩,h1,h2⟩:=Ad h;cases e with
  | nm=>exact .next h1 ((Fv _ _ _).trans (AjX hn _)) (So hn h2)
  | ex i =>have:=Aa h2;subst this;exact .stop h1 (by simp) (Fv _ _ _)
  | rt =>have:=Aa h2;subst this;exact .stop h1 (by simp) (Fv _ _ _)
theorem Adk {f:St->T (Ex×St)} {l:Lp} {is:List Nat} {m:Nat} {st st1:St} (h:Pm f l is st=some (.nm,st1)):(K3 f l is (m+1) st).sem=(K3 f l is m st1).sem:=by
 obtain ⟨r,h1,h2⟩:=Ad (show ((f st).bind λr=>T.leaf (Nv l is r)).sem=_ from h);have h2:=(Aa h2).symm;show ((f st).bind _).sem=_;rw [Cm,h1];show (match (Nv l is r).1 with
  | .nm=>K3 f l is m (Nv l is r).2
  | _=>.leaf (Nv l is r):T (Ex×St)).sem=_
 rw [h2]
theorem Adl {f:St->T (Ex×St)} {l:Lp} {is:List Nat} {m:Nat} {st st1:St} {e:Ex} (he:e ≠ .nm) (h:Pm f l is st=some (e,st1)):(K3 f l is (m+1) st).sem=some (e,st1):=by
 obtain ⟨r,h1,h2⟩:=Ad (show ((f st).bind λr=>T.leaf (Nv l is r)).sem=_ from h);have h2:=(Aa h2).symm;show ((f st).bind _).sem=_;rw [Cm,h1];show (match (Nv l is r).1 with
  | .nm=>K3 f l is m (Nv l is r).2
  | _=>.leaf (Nv l is r):T (Ex×St)).sem=_
 rw [h2];cases e with
 | nm=>exact absurd rfl he
 | ex i=>rfl
 | rt=>rfl
def Agu (k:Nat) (l:Lp) (is:List Nat) (ls:List (Nat×Lp×List (Nat×(Nat->V)))) (id:Nat) (f:St->T (Ex×St)) (st:St):T (Ex×St) :=
 match Nat.beq id k with
 | true=>.ask (K3 f l is l.fuel (EC l.ks l.n st)).sem .leaf
 | false=>C3 ls id f st
theorem Agt (c:FuncId->List V->St->T (V×Res)) (G:Nat->V) (k:Nat) (l:Lp) (is:List Nat) (hn:GU is=true) (ls:List (Nat×Lp×List (Nat×(Nat->V)))):BX ⟨c,Agu k l is ls,G⟩:=λid f st r hr=>by
 have hr:(Agu k l is ls id f st).sem=some r:=hr;unfold Agu at hr;split at hr
 ·cases hi:(K3 f l is l.fuel (EC l.ks l.n st)).sem with
  | none=>rw [hi] at hr; cases hr
  | some r' =>rw [hi] at hr;cases hr;exact .run (.weak (Fv _ _ _) (So hn hi))
 ·exact M8 c G ls id f st r hr
theorem DW.rn {f:St->T (Ex×St)} {lp:Lp} {is:List Nat} {st:St} {r:Ex×St} {d:DT (Ex×St)} (w:DW r d) (h:d.run ((f st).bind λr=>T.leaf (Nv lp is r))=some (d.cs,d.os,d.ls)):Pm f lp is st=some r:=w.ok h
end Go.Sy
namespace Go.Sy
def Xg:V->List Nat
 | .agg cs=>namesVs cs
 | .tup cs=>namesVs cs
 | .fn _ cs=>namesVs cs
 | .ref id | .ptr id _ | .ept id _ _ _ | .rct id _ | .jref id | .jept id _ _ _ | .mref id _ | .mept id _ _ _ _ | .mmap id _=>[id]
 | _=>[]
 where namesVs:List V->List Nat
 | []=>[]
 | v::vs=>Xg v++namesVs vs
def Ag2:List Nat->List Nat->List Nat
 | l,[]=>l
 | l,x::xs=>match Dv x l with
  | true=>Ag2 l xs
  | false=>Ag2 (l++[x]) xs
def AiY:Option Blk->List Nat
 | some (.cells cs)=>Xg.namesVs cs
 | _=>[]
def Y2 (h:List Blk):List Nat->List Nat
 | []=>[]
 | i::l=>AiY h[i]? ++ Y2 h l
def Acb (h:List Blk):Nat->List Nat->List Nat
 | 0,l=>l
 | k+1,l=>Acb h k (Ag2 l (Y2 h l))
def okB:Option Blk->Bool
 | some (.cells _) | some (.row _ _ _ _) | some (.imap _ _ _) | some (.gmap _ _ _ _) | some (.jag _)=>true
 | _=>false
def AiU (h:List Blk):List Nat->Bool
 | []=>true
 | i::l=>okB h[i]? && AiU h l
def Hx:Option Blk->Bool
 | some (.cells _)=>true
 | _=>false
def NK (h:List Blk):List Nat->Nat->List V
 | [],_=>[]
 | i::l,k=>(match Hx h[i]? with
  | true=>.ptr k 0
  | false=>.und)::NK h l (Nat.succ k)
def YE:List V->List V->Bool
 | .ptr a b::l,.ptr a' b'::l'=>Nat.beq a a' && (Nat.beq b b' && YE l l')
 | .und::l,_::l'=>YE l l'
 | [],[]=>true
 | _,_=>false
def ncs (h:List Blk):List Nat->List Nat
 | []=>[]
 | i::l=>match Hx h[i]? with
  | true=>ncs h l
  | false=>i::ncs h l
def IG:List Nat->List V->List V
 | [],vs=>vs
 | i::l,vs=>IG l (kill.kills i vs)
def Dd:List Nat->Blk->Blk
 | [],b=>b
 | i::l,b=>Dd l (Fi i b)
def K9 (n:Nat) (is:List Nat) (m:Nat):List Nat:=(List.range n).map (λi=>match Es i is 0 with
 | some k=>k
 | none=>m)++(List.range (m-(is.length+1))).map (λi=>is.length+1+i)
def ZZ (h:List Blk) (is:List Nat) (h2:List Blk) (i:Nat):Blk:=match Es i is 0 with
 | some k=>match h2[k]? with
  | some b=>LI (K9 h.length is h2.length) b
  | none=>.dead
 | none=>match h[i]? with
  | some b=>Dd (ncs h is) b
  | none=>.dead
def Rl (h:List Blk) (is:List Nat) (h2:List Blk):List Blk:=(List.range h.length).map (ZZ h is h2)++(h2.drop (is.length+1)).map (LI (K9 h.length is h2.length))
def Aik (E:List V->List Blk->A3) (vs:List V) (st:St) (is:List Nat):T (V×Res) :=
 match GU is && AiU st.h is with
 | true=>(E (HA.rens is vs) (FW is st.h is++[.saved (NK st.h is 0)])).bind λp=>match p.2[is.length]? with
  | some (.saved ps)=>match YE (NK st.h is 0) ps with
   | true=>.leaf (HA (K9 st.h.length is p.2.length) p.1,.all ⟨IG (ncs st.h is) st.t,Rl st.h is p.2⟩)
   | false=>.fail
  | _=>.fail
 | false=>.fail
def AmM (E:List V->List Blk->A3) (vs:List V) (st:St):T (V×Res):=Aik E vs st (Acb st.h 3 (Ag2 [] (Xg.namesVs vs)))
theorem Ib {h:List Blk}:∀ {is:List Nat},AiU h is=true->∀ (k i:Nat),is[k]? = some i->okB h[i]? = true
 | [],_,k,i,hk=>by simp at hk
 | j::l,ho,0,i,hk=>by
  simp at hk;subst hk;exact (Bool.and_eq_true_iff.1 ho).1
 | j::l,ho,k+1,i,hk=>Ib (Bool.and_eq_true_iff.1 ho).2 k i (by simpa using hk)
theorem AiV {h:List Blk} {i:Nat} (ho:okB h[i]? = true):i<h.length:=by
 rcases Nat.lt_or_ge i h.length with hl | hl
 ·exact hl
 ·rw [List.getElem?_eq_none hl] at ho
  cases ho
theorem LP {h:List Blk}:∀ {is:List Nat} {i:Nat},i ∈ ncs h is↔i ∈ is∧Hx h[i]? = false
 | [],i=>by simp [ncs]
 | j::l,i=>by
  unfold ncs;split
  ·rename_i hj
   rw [LP];constructor
   ·exact λ⟨h1,h2⟩=>⟨by simp [h1],h2⟩
   ·rintro ⟨h1,h2⟩
    rcases List.mem_cons.1 h1 with rfl | h1
    ·rw [hj] at h2; cases h2
    ·exact ⟨h1,h2⟩
  ·rename_i hj
   rw [List.mem_cons,LP,List.mem_cons];constructor
   ·rintro (rfl | ⟨h1,h2⟩)
    ·exact ⟨.inl rfl,hj⟩
    ·exact ⟨.inr h1,h2⟩
   ·rintro ⟨rfl | h1,h2⟩
    ·exact .inl rfl
    ·exact .inr ⟨h1,h2⟩
theorem UW {i:Nat}:∀ {l:List Nat} {a:Nat},i ∈ l->∃ k,Es i l a=some k
 | x::l,a,h=>by
  unfold Es;split
  ·exact ⟨a,rfl⟩
  ·rename_i hx
   have hx:=Nat.ne_of_beq_eq_false hx;exact UW ((List.mem_cons.1 h).resolve_left λe=>hx e.symm)
theorem Jt {is:List Nat} {k i:Nat} (h:Es i is 0=some k):is[k]? = some i:=by
 obtain ⟨_,h2⟩:=GA h;rwa [Nat.sub_zero] at h2
theorem Na {h:List Blk}:∀ {is:List Nat},GU is=true->(ncs h is).Nodup
 | [],_=>List.nodup_nil
 | i::l,hn=>by
  simp only [GU] at hn;split at hn
  ·cases hn
  ·rename_i hm
   have hm:=Nb hm;unfold ncs;split
   ·exact Na hn
   ·exact List.nodup_cons.2 ⟨λhc=>hm (LP.1 hc).1,Na hn⟩
section
variable {S S':Nat->Prop} {w w':World}
theorem QT:∀ {ks:List Nat} {S S':Nat->Prop} {w w':World} {κ κ':Ai},(∀ b,S b->S' b∧w'.heap[b]? = w.heap[b]?)->ks.Nodup->(∀ id,id ∈ ks->Jc (κ id))->(∀ i,i ∉ ks->κ' i=κ i)->∀ {vs:List V} {l:List Value},VRs S w vs κ l->VRs S' w' (IG ks vs) κ' l
 | [],_,_,_,_,κ,κ',hS,_,_,hk,vs,l,h=>by
  rw [show κ'=κ from funext λi=>hk i (by simp)];exact VR.mono_go hS _ _ _ _ (λ_ _ h=>h) h
 | id::ks,_,_,_,_,κ,κ',hS,hn,hid,hk,vs,l,h=>by
  obtain ⟨hn1,hn2⟩:=List.nodup_cons.1 hn;have h1:=Dg (κ':=λi=>if i=id then κ' i else κ i) hS (hid id (by simp)) (λi hi=>if_neg hi) vs l h
  refine QT (λb hb=>⟨hb,rfl⟩) hn2 (λj hj=>?_) (λi hi=>?_) h1
  ·have hne:j ≠ id:=λe=>hn1 (e ▸ hj)
   show Jc (if j=id then κ' j else κ j)
   rw [if_neg hne];exact hid j (by simp [hj])
  ·show κ' i=if i=id then κ' i else κ i
   by_cases e:i=id
   ·rw [if_pos e]
   ·rw [if_neg e]
    exact hk i (by simp [e,hi])
theorem Sl {v:Option Value} {g:Nat}:∀ {ks:List Nat} {b:Blk},inBlk v g (Dd ks b)↔inBlk v g b
 | [],_=>Iff.rfl
 | _::ks,_=>(Sl (ks:=ks)).trans EV
theorem LW:∀ {ks:List Nat} {b:Blk},C5 (Dd ks b)->C5 b∧Bs (Dd ks b) b
 | [],_,h=>⟨h,Bs.refl h⟩
 | _::ks,_,h=>by
  obtain ⟨h1,h2⟩:=LW (ks:=ks) h;obtain ⟨h3,h4⟩:=J3 h1;exact ⟨h3,h2.trans h h4⟩
theorem NW {e:TypeId} {s n:Nat} {g:Nat->V} {lk:Bool}:∀ {ks:List Nat},Dd ks (.xrow lk e s n g) = .xrow lk e s n g
 | []=>rfl
 | _::ks=>NW (ks:=ks)
theorem A5.killL (hS:∀ b,S b->S' b∧w'.heap[b]? = w.heap[b]?) {v:Option Value}:∀ {ks:List Nat} {κ κ':Ai} {b:Blk},(∀ g,inBlk v g b->w'.heap[g]? = w.heap[g]?) ->
  (∀ vs l,VRs S w vs κ l->VRs S' w' (IG ks vs) κ' l)->A5 S w κ v b->A5 S' w' κ' v (Dd ks b):=by
 intro ks κ κ' b hb hk h;have key:∀ (ks:List Nat) (b:Blk),(match b with
  | .cells cs=>Dd ks b = .cells (IG ks cs)
  | .saved vs=>Dd ks b = .saved (IG ks vs)
  | .rng cd ts q=>Dd ks b = .rng cd (IG ks ts) q
  | b=>Dd ks b=b):=λks=>by
  induction ks with
  | nil=>intro b; cases b <;> rfl
  | cons i ks ih=>intro b; cases b with
   | cells cs=>exact ih (.cells _)
   | saved cs=>exact ih (.saved _)
   | rng cd cs q=>exact ih (.rng cd _ q)
   | row e s n g=>exact ih (.row e s n g)
   | imap t n g=>exact ih (.imap t n g)
   | gmap t k hs g=>exact ih (.gmap t k hs g)
   | xrow lk e s n g=>exact ih (.xrow lk e s n g)
   | jag j=>exact ih (.jag j)
   | dead=>exact ih .dead
 have hkb:=key ks b;cases b with
 | cells cs =>rw [show Dd ks (.cells cs)=_ from hkb];obtain ⟨g,e,ca,hv,hg,hr⟩:=h;exact ⟨g,e,ca,hv,by rw [hb g (by rw [hv]; rfl)]; exact hg,hk _ _ hr⟩
 | saved vs =>
  rw [show Dd ks (.saved vs)=_ from hkb];rcases h with rfl | ⟨l,hv,hr⟩
  ·have:∀ ks:List Nat,IG ks UX=UX:=λks=>by
    induction ks with
    | nil=>rfl
    | cons i ks ih=>exact ih
   exact .inl (this ks)
  ·exact .inr ⟨l,hv,hk _ _ hr⟩
 | rng cd ts q =>rw [show Dd ks (.rng cd ts q)=_ from hkb];obtain ⟨l,r,hv,hh,h1,h2,hr⟩:=h;exact ⟨l,r,hv,by rw [hb l (by rw [hv]; rfl)]; exact hh,h1,h2,hk _ _ hr⟩
 | row e s n g=>rw [show Dd ks (.row e s n g)=_ from hkb]; exact A5.mono (κ:=noK) hS (λ_ _ h=>by cases h) hb (show A5 S w noK v (.row e s n g) from h)
 | imap ty n get=>rw [show Dd ks (.imap ty n get)=_ from hkb]; exact A5.mono (κ:=noK) hS (λ_ _ h=>by cases h) hb (show A5 S w noK v (.imap ty n get) from h)
 | gmap ty k hs get=>rw [show Dd ks (.gmap ty k hs get)=_ from hkb]; exact A5.mono (κ:=noK) hS (λ_ _ h=>by cases h) hb (show A5 S w noK v (.gmap ty k hs get) from h)
 | xrow lk e s n g=>rw [show Dd ks (.xrow lk e s n g)=_ from hkb]; exact A5.mono (κ:=noK) hS (λ_ _ h=>by cases h) hb (show A5 S w noK v (.xrow lk e s n g) from h)
 | jag j=>rw [show Dd ks (.jag j)=_ from hkb]; exact A5.mono (κ:=noK) hS (λ_ _ h=>by cases h) hb (show A5 S w noK v (.jag j) from h)
 | dead=>rw [show Dd ks .dead=_ from hkb]; trivial
theorem KH {κ κ':Ai} {is:List Nat} {v:Option Value} {b:Blk} (hk:∀ vs l,VRs S w vs κ l->VRs S w (HA.rens is vs) κ' l) (h:A5 S w κ v b):A5 S w κ' v (LI is b):=by
 cases b with
 | cells cs =>obtain ⟨g,e,ca,p1,p2,p3⟩:=h;exact ⟨g,e,ca,p1,p2,hk _ _ p3⟩
 | rng cd ts q =>obtain ⟨l,r,p1,p2,p3,p4,p5⟩:=h;exact ⟨l,r,p1,p2,p3,p4,hk _ _ p5⟩
 | xrow lk e s n g=>trivial
 | saved vs=>trivial
 | dead=>trivial
 | _=>exact h
end
end Go.Sy
namespace Go.Sy
section
variable {S:Nat->Prop} {w:World} {κ:Ai} {h:List Blk} {is:List Nat}
theorem Ab7 {i:Nat} {b:Blk} (hb:(FW is h is)[i]? = some b):∃ j,is[i]? = some j∧((h[j]? = none∧b = .dead) ∨ ∃ b0,h[j]? = some b0∧b=LI is b0):=by
 rw [MS,Option.map_eq_some_iff] at hb;obtain ⟨j,h1,h2⟩:=hb;refine ⟨j,h1,?_⟩;split at h2
 ·rename_i b0 h3
  exact .inr ⟨b0,h3,h2.symm⟩
 ·rename_i h3
  exact .inl ⟨h3,h2.symm⟩
theorem Iy {i g:Nat} (ho:A2 (λi=>(is[i]?).bind κ) (FW is h is) i g):∃ j,is[i]? = some j∧A2 κ h j g:=by
 obtain ⟨b,q1,q2⟩:=ho;obtain ⟨j,h1,⟨_,rfl⟩ | ⟨b0,h2,rfl⟩⟩:=Ab7 q1
 ·exact q2.elim
 ·have q2:inBlk ((is[i]?).bind κ) g (LI is b0):=q2
  rw [h1] at q2;exact ⟨j,h1,b0,h2,(Oy q2).1⟩
theorem Ab6 (hg:Good κ S h w) (hn:GU is=true):Good (λi=>(is[i]?).bind κ) S (FW is h is) w:=by
 refine ⟨λi b hb=>?_,λi j g hij hi hj=>?_,λb hb=>⟨(hg.out b hb).1,λi hi=>?_⟩,λi hi=>?_⟩
 ·obtain ⟨j,h1,⟨_,rfl⟩ | ⟨b0,h2,rfl⟩⟩:=Ab7 hb
  ·trivial
  ·show A5 S w _ ((is[i]?).bind κ) (LI is b0)
   rw [h1];exact KH (λvs l hv=>ED vs l hv) (hg.blk j _ h2)
 ·obtain ⟨i',h1,h2⟩:=Iy hi
  obtain ⟨j',h3,h4⟩:=Iy hj;refine hg.sep i' j' g (λe=>hij ?_) h2 h4;subst e;exact Hv hn i j i' h1 h3
 ·obtain ⟨j,_,h2⟩:=Iy hi
  exact (hg.out b hb).2 j h2
 ·rw [JS] at hi
  show (is[i]?).bind κ=none;rw [List.getElem?_eq_none hi];rfl
theorem TK {h:List Blk} {i:Nat} (hc:Hx h[i]? = true):∃ cs,h[i]? = some (.cells cs):=by
 unfold Hx at hc;split at hc
 ·rename_i cs hh
  exact ⟨cs,hh⟩
 ·cases hc
theorem Yu (hg:Good κ S h w):∀ (js:List Nat) (k:Nat),(∀ m j,js[m]? = some j->is[k+m]? = some j)->∃ l,VRs S w (NK h js k) (λi=>(is[i]?).bind κ) l
 | [],_,_=>⟨[],rfl⟩
 | j::js,k,hj=>by
  obtain ⟨l,hl⟩:=Yu hg js (k+1) λm i hi=>by
   have:=hj (m+1) i (by simpa using hi);rw [show k+1+m=k+(m+1) by omega];exact this
  unfold NK;split
  ·rename_i hc
   obtain ⟨cs,hh⟩:=TK hc;obtain ⟨g,e,ca,hv,_⟩:=hg.blk j _ hh;refine ⟨.pointer (some ⟨g,0,none⟩)::l,_,_,rfl,⟨g,?_,rfl⟩,hl⟩;have:=hj 0 j (by simp);show (is[k]?).bind κ=_;rw [show is[k]? = some j from this];exact hv
  ·exact ⟨undef::l,_,_,rfl,trivial,hl⟩
theorem RV {h:List Blk}:∀ {js:List Nat} {k m j:Nat},js[m]? = some j->Hx h[j]? = true->(NK h js k)[m]? = some (.ptr (k+m) 0)
 | [],k,m,j,hj,_=>by simp at hj
 | x::js,k,0,j,hj,hc=>by
  simp at hj;subst hj;unfold NK;rw [hc];rfl
 | x::js,k,m+1,j,hj,hc=>by
  have:=RV (k:=k+1) (m:=m) (by simpa using hj) hc;unfold NK;rw [List.getElem?_cons_succ,this,show k+1+m=k+(m+1) by omega]
theorem PS:∀ {ps qs:List V} {m k o:Nat},YE ps qs=true->ps[m]? = some (.ptr k o)->qs[m]? = some (.ptr k o)
 | .ptr a b::l,.ptr a' b'::l',0,k,o,hk,hp=>by
  simp at hp;obtain ⟨rfl,rfl⟩:=hp;obtain ⟨h1,h2⟩:=Bool.and_eq_true_iff.1 hk;obtain ⟨h3,_⟩:=Bool.and_eq_true_iff.1 h2;simp [Nat.eq_of_beq_eq_true h1,Nat.eq_of_beq_eq_true h3]
 | .ptr a b::l,.ptr a' b'::l',m+1,k,o,hk,hp=>by
  obtain ⟨_,h2⟩:=Bool.and_eq_true_iff.1 hk;exact PS (m:=m) (Bool.and_eq_true_iff.1 h2).2 hp
 | .und::l,_::l',0,k,o,hk,hp=>by simp at hp
 | .und::l,_::l',m+1,k,o,hk,hp=>PS (m:=m) (ps:=l) (qs:=l') hk hp
 | [],[],m,k,o,hk,hp=>by simp at hp
theorem AfA (h2:List Blk):(Rl h is h2).length=h.length+(h2.length-(is.length+1)):=by simp [Rl]
theorem Tt {h2:List Blk} {i:Nat} (hi:i<h.length):(Rl h is h2)[i]? = some (ZZ h is h2 i):=by
 unfold Rl;rw [List.getElem?_append_left (by simpa using hi),List.getElem?_map,List.getElem?_range hi];rfl
theorem Xi {h2:List Blk} {i:Nat} (hi:h.length <= i):(Rl h is h2)[i]? = (h2[is.length+1+(i-h.length)]?).map (LI (K9 h.length is h2.length)):=by
 unfold Rl;rw [List.getElem?_append_right (by simpa using hi),List.getElem?_map,List.getElem?_drop];simp
theorem Aek {m i x:Nat} {n:Nat} (hb:(K9 n is m)[i]? = some x):(i<n∧((Es i is 0=some x) ∨ (Es i is 0=none∧x=m))) ∨ (n <= i∧x=is.length+1+(i-n)):=by
 unfold K9 at hb;rcases Nat.lt_or_ge i n with hl | hl
 ·left
  refine ⟨hl,?_⟩;rw [List.getElem?_append_left (by simpa using hl),List.getElem?_map,List.getElem?_range hl] at hb;simp only [Option.map_some,Option.some.injEq] at hb;split at hb
  ·rename_i k hk
   exact .inl (by rw [hk,hb])
  ·rename_i hk
   exact .inr ⟨hk,hb.symm⟩
 ·right
  refine ⟨hl,?_⟩;rw [List.getElem?_append_right (by simpa using hl),List.getElem?_map] at hb;simp only [List.length_map,List.length_range] at hb;rw [Option.map_eq_some_iff] at hb;obtain ⟨y,h1,h2⟩:=hb;have:=List.getElem?_eq_some_iff.1 h1;obtain ⟨h3,h4⟩:=this;simp at h4;omega
end
theorem Afm {P:Program} {G:Nat->V} {f:FuncId} {E:List V->List Blk->A3} (hE:EG P G f E) {vs:List V} {cs:List Value} {κ:Ai} {S:Nat->Prop} {st:St} {l:List Value} {w:World} {v:V} {r:Res} {is:List Nat}
  (hg:Good κ S st.h w) (hG:MF G S w) (hv:VRs S w vs κ cs) (ht:VRs S w st.t κ l) (he:(Aik E vs st is).sem=some (v,r)) :
  HQ P f∧Calls P f cs.toArray w λe w'=>∃ c κ' S',e = .returned c∧Good κ' S' (Hj st r).h w'∧VR S' w' v κ' c∧Ext κ S st.h w κ' S' (Hj st r).h w'∧Wr κ κ' S' w w' l r:=by
 unfold Aik at he;split at he
 rotate_left
 ·cases he
 rename_i hok;obtain ⟨hn,hoks⟩:=Bool.and_eq_true_iff.1 hok;obtain ⟨⟨v2,h2⟩,e1,e2⟩:=Ad he;split at e2
 rotate_left
 ·cases e2
 rename_i ps hat;split at e2
 rotate_left
 ·cases e2
 rename_i hkp;have e2:=Aa e2;simp only [Prod.mk.injEq] at e2;obtain ⟨rfl,rfl⟩:=e2;have hat:h2[is.length]? = some (.saved ps):=hat;have hsub:=Ab6 hg hn;have hslen:(FW is st.h is).length=is.length:=JS _ _ _;obtain ⟨pl,hpl⟩:=Yu (is:=is) hg is 0 (λm j hj=>by rw [Nat.zero_add]; exact hj);have hg1:=KF hsub hpl;have hv1:VRs S w (HA.rens is vs) (EZ (λi=>(is[i]?).bind κ) (FW is st.h is) pl) cs:=MJ hsub (ED vs cs hv);refine ⟨hE.1,(hE.2 _ _ _ _ _ _ _ _ hg1 hG hv1 e1).mono ?_⟩
 rintro e w' ⟨c,κ2,S2,rfl,g2,gv,gx⟩
 have hfrom:∀ k g,A2 κ2 h2 k g->(∃ j x,is[x]? = some j∧A2 κ st.h j g) ∨ w.heap.size <= g:=λk g hk=>by
  rcases gx.own k g hk with ⟨j,hj⟩ | hle
  ·obtain ⟨j',q1,q2⟩:=Iy (EU.1 hj)
   exact .inl ⟨j',j,q1,q2⟩
  ·exact .inr hle
 have hkeep:∀ b,b<w.heap.size->(∀ j,j ∈ is->¬ A2 κ st.h j b)->w'.heap[b]? = w.heap[b]?:=λb hb hno=>gx.keep b hb λi hi=>by
  obtain ⟨j',q1,q2⟩:=Iy (EU.1 hi);exact hno j' (List.mem_of_getElem? q1) q2
 have hSS:∀ b,S b->S2 b∧w'.heap[b]? = w.heap[b]?:=λb hb=>⟨gx.sup b hb,hkeep b (hg.out b hb).1 λj _=>(hg.out b hb).2 j⟩;have hcell:∀ k j,is[k]? = some j->Hx st.h[j]? = true->κ2 k=κ j:=λk j hk hc=>by
  have hp:=RV (k:=0) hk hc;rw [Nat.zero_add] at hp;have hq:=PS hkp hp;have hpin:Ma ps=false:=by
   cases hpn:Ma ps with
   | false=>rfl
   | true =>
    exfalso
    unfold Ma at hpn;split at hpn
    ·cases k <;> simp at hq
    ·cases hpn
  obtain ⟨q1,q2⟩:=Ph g2 gx (by rw [hslen]; exact hat) hpin;obtain ⟨a,z1,z2⟩:=VRs.get q2 hq;obtain ⟨b,z3,z4⟩:=VRs.get hpl hp;obtain ⟨ga,y1,y2⟩:=z2;obtain ⟨gb,y3,y4⟩:=z4;rw [z1] at z3;simp only [Option.some.injEq] at z3;have y3:(is[k]?).bind κ=some (.pointer (some ⟨gb,0,none⟩)):=y3;rw [hk] at y3;have y3:κ j=some (.pointer (some ⟨gb,0,none⟩)):=y3;rw [y1,y3,<- y2,<- y4,z3]
 obtain ⟨κN,hκN⟩:∃ κN:Ai,κN=λi=>if i<st.h.length then (match Es i is 0 with | some k=>κ2 k | none=>κ i) else κ2 (is.length+1+(i-st.h.length)):=⟨_,rfl⟩
 have kin:∀ i k,i<st.h.length->Es i is 0=some k->κN i=κ2 k:=λi k hi hk=>by rw [hκN]; simp [hi,hk]
 have kout:∀ i,i<st.h.length->Es i is 0=none->κN i=κ i:=λi hi hk=>by rw [hκN]; simp [hi,hk]
 have knew:∀ i,st.h.length <= i->κN i=κ2 (is.length+1+(i-st.h.length)):=λi hi=>by rw [hκN]; simp [Nat.not_lt.2 hi]
 have hmem:∀ j,j ∈ is->j<st.h.length:=λj hj=>by
  obtain ⟨k,hk⟩:=List.getElem?_of_mem hj;exact AiV (Ib hoks k j hk)
 have hback:∀ vs l,VRs S2 w' vs κ2 l->VRs S2 w' (HA.rens (K9 st.h.length is h2.length) vs) κN l:=λvs l hv=>by
  refine VR.mono_go (λ_ hb=>⟨hb,rfl⟩) _ _ _ _ (λi c hc=>?_) (ED (is:=K9 st.h.length is h2.length) vs l hv);have hc:((K9 st.h.length is h2.length)[i]?).bind κ2=some c:=hc;rw [Option.bind_eq_some_iff] at hc;obtain ⟨x,h1,h3⟩:=hc;rcases Aek h1 with ⟨hi,hp | ⟨_,hx⟩⟩ | ⟨hi,hx⟩
  ·rw [kin i x hi hp]; exact h3
  ·rw [g2.dom x (by omega)] at h3; cases h3
  ·rw [knew i hi,<- hx]; exact h3
 have hkeepV:∀ vs l,VRs S w vs κ l->VRs S2 w' (IG (ncs st.h is) vs) κN l:=λvs l hv=>by
  have h1:=QT (κ':=λi=>if i<st.h.length then κN i else none) hSS (Na (h:=st.h) hn) (λid hid=>?_) (λi hi=>?_) hv
  ·refine VR.mono_go (λ_ hb=>⟨hb,rfl⟩) _ _ _ _ (λi c hc=>?_) h1
   split at hc
   ·exact hc
   ·cases hc
  ·obtain ⟨h1,h3⟩:=LP.1 hid
   obtain ⟨k,hk⟩:=List.getElem?_of_mem h1;have ho:=Ib hoks k id hk;intro a ea;unfold okB at ho;split at ho
   ·rename_i cs hh; rw [hh] at h3; cases h3
   ·rename_i e s n g hh
    obtain ⟨_,c,xs,q1,q2,_⟩:=hg.blk id _ hh;rw [ea] at q1;cases q1;obtain ⟨_,_,q⟩:=Bo q2;cases q
   ·rename_i t n g hh
    obtain ⟨b,o,q1,_⟩:=hg.blk id _ hh;rw [ea] at q1;cases q1
   ·rename_i t n g z hh
    obtain ⟨b,o,q1,_⟩:=hg.blk id _ hh;rw [ea] at q1;cases q1
   ·rename_i j hh
    obtain ⟨c,ms,xs,q1,_⟩:=hg.blk id _ hh;rw [ea] at q1;cases q1
   ·cases ho
  ·show (if i<st.h.length then κN i else none)=κ i
   by_cases hl:i<st.h.length
   ·rw [if_pos hl]
    cases hp:Es i is 0 with
    | none=>exact kout i hl hp
    | some k =>
     have hk:=Jt hp;rw [kin i k hl hp];refine hcell k i hk ?_;cases hc:Hx st.h[i]? with
     | true=>rfl
     | false=>exact absurd (LP.2 ⟨List.mem_of_getElem? hk,hc⟩) hi
   ·rw [if_neg hl]
    exact (hg.dom i (by omega)).symm
 have hown:∀ i g,A2 κN (Rl st.h is h2) i g->(∃ k,A2 κ2 h2 k g∧(i<st.h.length∧Es i is 0=some k ∨ st.h.length <= i∧k=is.length+1+(i-st.h.length))) ∨ (i<st.h.length∧Es i is 0=none∧A2 κ st.h i g):=by
  rintro i g ⟨b,q1,q2⟩
  rcases Nat.lt_or_ge i st.h.length with hi | hi
  ·rw [Tt hi] at q1
   simp only [Option.some.injEq] at q1;unfold ZZ at q1;cases hp:Es i is 0 with
   | some k =>
    rw [hp] at q1;simp only at q1;rw [kin i k hi hp] at q2;cases hh:h2[k]? with
    | none=>rw [hh] at q1; subst q1; exact q2.elim
    | some b0 =>rw [hh] at q1;simp only at q1;subst q1;exact .inl ⟨k,⟨b0,hh,(Oy q2).1⟩,.inl ⟨hi,rfl⟩⟩
   | none =>
    rw [hp] at q1;simp only at q1;rw [kout i hi hp] at q2;cases hh:st.h[i]? with
    | none=>rw [hh] at q1; subst q1; exact q2.elim
    | some b0 =>rw [hh] at q1;simp only at q1;subst q1;exact .inr ⟨hi,rfl,b0,hh,Sl.1 q2⟩
  ·rw [Xi hi,Option.map_eq_some_iff] at q1
   obtain ⟨b0,hh,rfl⟩:=q1;rw [knew i hi] at q2;exact .inl ⟨_,⟨b0,hh,(Oy q2).1⟩,.inr ⟨hi,rfl⟩⟩
 have hnot:∀ i,i<st.h.length->Es i is 0=none->∀ j,j ∈ is->j ≠ i:=λi _ hp j hj e=>by
  obtain ⟨k,hk⟩:=UW (a:=0) hj;rw [e,hp] at hk;cases hk
 have hapart:∀ i k g,i<st.h.length->Es i is 0=none->A2 κ st.h i g->A2 κ2 h2 k g->False:=λi k g hi hp h1 h3=>by
  rcases hfrom k g h3 with ⟨j,x,q1,q2⟩ | hle
  ·exact hg.sep j i g (hnot i hi hp j (List.mem_of_getElem? q1)) q2 h1
  ·have:=hg.lt h1
   omega
 have hgood:Good κN S2 (Rl st.h is h2) w':=by
  refine ⟨λi b hb=>?_,λi j g hij hi hj=>?_,λb hb=>⟨(g2.out b hb).1,λi hi=>?_⟩,λi hi=>?_⟩
  ·rcases Nat.lt_or_ge i st.h.length with hi | hi
   ·rw [Tt hi] at hb
    simp only [Option.some.injEq] at hb;unfold ZZ at hb;cases hp:Es i is 0 with
    | some k =>
     rw [hp] at hb;simp only at hb;rw [kin i k hi hp];cases hh:h2[k]? with
     | none=>rw [hh] at hb; subst hb; trivial
     | some b0 =>rw [hh] at hb;simp only at hb;subst hb;exact KH hback (g2.blk k _ hh)
    | none =>
     rw [hp] at hb;simp only at hb;rw [kout i hi hp];cases hh:st.h[i]? with
     | none=>rw [hh] at hb; subst hb; trivial
     | some b0 =>rw [hh] at hb;simp only at hb;subst hb;exact A5.killL hSS (λg hgb=>hkeep g (hg.lt ((Aq hh).2 hgb)) λj hj=>hg.sep i j g (λe=>hnot i hi hp j hj e.symm) ((Aq hh).2 hgb)) hkeepV (hg.blk i _ hh)
   ·rw [Xi hi,Option.map_eq_some_iff] at hb
    obtain ⟨b0,hh,rfl⟩:=hb;rw [knew i hi];exact KH hback (g2.blk _ _ hh)
  ·rcases hown i g hi with ⟨k,h1,h3⟩ | ⟨h1,h3,h4⟩ <;> rcases hown j g hj with ⟨k',h1',h3'⟩ | ⟨h1',h3',h4'⟩
   ·refine g2.sep k k' g (λe=>hij ?_) h1 h1'
    subst e;rcases h3 with ⟨a1,a2⟩ | ⟨a1,a2⟩ <;> rcases h3' with ⟨b1,b2⟩ | ⟨b1,b2⟩
    ·have:=(Jt a2).symm.trans (Jt b2)
     simpa using this
    ·have:=(List.getElem?_eq_some_iff.1 (Jt a2)).1
     omega
    ·have:=(List.getElem?_eq_some_iff.1 (Jt b2)).1
     omega
    ·omega
   ·exact hapart j k g h1' h3' h4' h1
   ·exact hapart i k' g h1 h3 h4 h1'
   ·exact hg.sep i j g hij h4 h4'
  ·rcases hown i b hi with ⟨k,h1,_⟩ | ⟨h1,h3,h4⟩
   ·exact (g2.out b hb).2 k h1
   ·rcases gx.sub b hb with hs | ⟨j,hj⟩ | hle
    ·exact (hg.out b hs).2 i h4
    ·obtain ⟨j',q1,q2⟩:=Iy (EU.1 hj)
     exact hg.sep j' i b (hnot i h1 h3 j' (List.mem_of_getElem? q1)) q2 h4
    ·have:=hg.lt h4
     omega
  ·rw [AfA] at hi
   rw [knew i (by omega)];exact g2.dom _ (by omega)
 have hext:Ext κ S st.h w κN S2 (Rl st.h is h2) w':=by
  refine ⟨gx.os,gx.tape,gx.output,gx.size,λb hb hno=>hkeep b hb λj _=>hno j,λi b hi=>?_,λb hb=>?_,gx.sup,HB gx.size (λb hb hno=>hkeep b hb λj _=>hno j) (λi b hi hb=>?_) (λi e s n g b hh hb=>?_),λi b hi hf=>?_⟩
  ·rcases hown i b hi with ⟨k,h1,_⟩ | ⟨_,_,h4⟩
   ·rcases hfrom k b h1 with ⟨j,_,_,q2⟩ | hle
    ·exact .inl ⟨j,q2⟩
    ·exact .inr hle
   ·exact .inl ⟨i,h4⟩
  ·rcases gx.sub b hb with hs | ⟨j,hj⟩ | hle
   ·exact .inl hs
   ·obtain ⟨j',_,q2⟩:=Iy (EU.1 hj)
    exact .inr (.inl ⟨j',q2⟩)
   ·exact .inr (.inr hle)
  ·rcases hown i b hi with ⟨k,h1,_⟩ | ⟨h1,h3,h4⟩
   ·rcases hfrom k b h1 with ⟨j,x,q1,q2⟩ | hle
    ·refine ⟨j,q2,λe s n g hh=>?_⟩
     have:=Ib hoks x j q1;rw [hh] at this;cases this
    ·omega
   ·refine ⟨i,h4,λe s n g hh=>⟨e,s,n,g,?_,Nat.le_refl _⟩⟩
    rw [Tt h1];unfold ZZ;rw [h3,hh];exact congrArg some NW
  ·refine Em.same (hkeep b (hg.lt hb) λj hj=>?_)
   intro hj';have hne:j ≠ i:=λe'=>by
    subst e';obtain ⟨k,hk⟩:=List.getElem?_of_mem hj;have:=Ib hoks k j hk;rw [hh] at this;cases this
   exact hg.sep j i b hne hj' hb
  ·rcases Nat.lt_or_ge i st.h.length with hl | hl
   ·rw [Tt hl] at hi
    simp only [Option.some.injEq] at hi;unfold ZZ at hi;cases hp:Es i is 0 with
    | some k =>
     rw [hp] at hi;simp only at hi;cases hh:h2[k]? with
     | none=>rw [hh] at hi; subst hi; rcases hf with ⟨_,_,_,_,hf⟩ | ⟨_,hf⟩ <;> cases hf
     | some b0=>rw [hh] at hi; simp only at hi; subst hi; exact absurd hf KI
    | none =>
     rw [hp] at hi;simp only at hi;cases hh:st.h[i]? with
     | none=>rw [hh] at hi; subst hi; rcases hf with ⟨_,_,_,_,hf⟩ | ⟨_,hf⟩ <;> cases hf
     | some b0 =>rw [hh] at hi;simp only at hi;subst hi;exact ⟨kout i hl hp,b0,rfl,(LW hf).2⟩
   ·rw [Xi hl,Option.map_eq_some_iff] at hi
    obtain ⟨b0,hh,rfl⟩:=hi;exact absurd hf KI
 have gv':VR S2 w' (HA (K9 st.h.length is h2.length) v2) κN c:=by
  obtain ⟨a,l',e1,h1,_⟩:=hback [v2] [c] ⟨c,[],rfl,gv,rfl⟩;simp only [List.cons.injEq] at e1;rw [e1.1];exact h1
 exact ⟨c,κN,S2,rfl,hgood,gv',hext,hkeepV _ _ ht⟩
def My (ut:List (Nat×(List V->List Blk->A3))) (c:FuncId->List V->St->T (V×Res)) (f:FuncId) (vs:List V) (st:St):T (V×Res) :=
 match Jy f ut with
 | some E=>AmM E vs st
 | none=>c f vs st
theorem Io {P:Program} {G:Nat->V} {ut:List (Nat×(List V->List Blk->A3))} {c:FuncId->List V->St->T (V×Res)} (hu:JE P G ut) (hc:AY P ⟨c,G⟩):AY P ⟨My ut c,G⟩:=by
 intro f vs cs κ S st l w v r hg hE hv ht he;have he:(My ut c f vs st).sem=some (v,r):=he;unfold My at he;split at he
 ·rename_i E hl
  exact .inl (Afm (hu _ (IC hl)) hg hE hv ht he)
 ·exact hc f vs cs κ S st l w v r hg hE hv ht he
end Go.Sy
