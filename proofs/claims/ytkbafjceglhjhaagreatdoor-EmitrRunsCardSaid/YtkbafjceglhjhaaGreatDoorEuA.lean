/-
  An answer whose slices are nil may be told as one that has empty rows of its own. Conditions: none.
-/
import Derived.Test.YtkbafjceglhjhaaGreatDoorSyZa
namespace Go.Sy
inductive NilB:Blk->Value->Prop where
 | row {e s:Nat} {g:Nat->V} (h:0<s):NilB (.row e s 0 g) (.slice none 0 0)
 | jag {e size off e' s':Nat} {get:Nat->V} {live:Nat->Bool} {len:Nat->Nat} {mem:Nat->Nat->V} (h1:0<size) (h2:off<size) (h3:0<s'):NilB (.jag ⟨e,size,0,get,off,e',s',live,len,mem,none⟩) (.tuple #[.slice none 0 0,.agg #[]])
inductive Ups:V->List Blk->V->List Blk->Prop where
 | refl (v:V) (h:List Blk):Ups v h v h
 | up {v v1:V} {h:List Blk} {b:Blk} {c:Value} {v2:V} {h2:List Blk} (hb:NilB b c) (hv:∀ (S:Nat->Prop) (w:World) (κ:Aq) (d:Value),κ h.length=some c->VR S w v κ d->VR S w v1 κ d) (u:Ups v1 (h++[b]) v2 h2):Ups v h v2 h2
theorem NilB.free {b:Blk} {c:Value} (h:NilB b c) (x:Nat):¬ inBlk (some c) x b:=by
 cases h with
 | row h=>intro hx; cases hx
 | jag h1 h2 h3 =>
  intro hx;obtain ⟨c,ms,e,hx⟩:=hx;cases e;rcases hx with hx | ⟨i,m,hm,_⟩
  ·cases hx
  ·simp at hm
theorem NilB.fixed {b:Blk} {c:Value} (h:NilB b c):¬ Df b:=by
 cases h with
 | row h=>intro hx; rcases hx with ⟨_,_,_,_,h⟩ | ⟨_,h⟩ <;> cases h
 | jag h1 h2 h3=>exact B2 _
theorem NilB.holds {b:Blk} {c:Value} (h:NilB b c) (S:Nat->Prop) (w:World) (κ:Aq):AQ S w κ (some c) b:=by
 cases h with
 | row h=>exact ⟨h,_,[],rfl,World.ownsRow_nil w 0 _ _,λi hi=>absurd hi (Nat.not_lt_zero _)⟩
 | jag h1 h2 h3=>exact ⟨_,_,[],rfl,SI _ _ _ _ _ h1 h2 h3 _ _ _ _⟩
theorem NilB.isRow {b:Blk} {c:Value} (h:NilB b c):FV b:=by
 cases h with
 | row h=>exact .inl ⟨_,_,_,_,rfl⟩
 | jag h1 h2 h3=>exact .inr ⟨_,rfl⟩
theorem HQ.snoc {h:List Blk} {b:Blk} (hr:HQ h) (hb:FV b):HQ (h++[b]):=λi b' hi=>by
 rcases Nat.lt_trichotomy i h.length with hl | hl | hl
 ·rw [List.getElem?_append_left hl] at hi
  exact hr i b' hi
 ·subst hl
  rw [List.getElem?_append_right (Nat.le_refl _),Nat.sub_self] at hi;cases hi;exact hb
 ·rw [List.getElem?_eq_none (by simp; omega)] at hi
  cases hi
theorem Ups.rows {v v2:V} {h h2:List Blk} (u:Ups v h v2 h2) (hr:HQ h):HQ h2:=by
 induction u with
 | refl v h=>exact hr
 | up hb hv u ih=>exact ih (hr.snoc hb.isRow)
theorem Ups.ok {κ0:Aq} {S0:Nat->Prop} {h0:List Blk} {w0:World} {v v2:V} {h h2:List Blk} (u:Ups v h v2 h2):∀ {κ:Aq} {S:Nat->Prop} {w:World} {d:Value},
  Good κ S h w->VR S w v κ d->Ext κ0 S0 h0 w0 κ S h w->∃ κ2,Good κ2 S h2 w∧VR S w v2 κ2 d∧Ext κ0 S0 h0 w0 κ2 S h2 w:=by
 induction u with
 | refl v h=>exact λhg hv he=>⟨_,hg,hv,he⟩
 | @up v v1 h b c v2 h2 hb hv u ih =>intro κ S w d hg hvr he;exact ih (κ:=Bh κ h.length c) (hg.adopt b c (hb.holds S w _) λx hx=>absurd hx (hb.free x)) (hv S w _ d (by simp [Bh]) (VR.mono (λ_ hb=>⟨hb,rfl⟩) _ _ _ _ (hg.addK_sub _) hvr)) (he.adopt b c hb.fixed λx hx=>absurd hx (hb.free x))
theorem As.ups {P:Program} {G:Nat->V} {f:FuncId} {F F':List V->AA} (h:As P G f F) (hF:∀ vs v h',(F' vs).sem=some (v,h')->∃ v0 h0,(F vs).sem=some (v0,h0)∧Ups v0 h0 v h'):As P G f F' :=
 ⟨h.1,λvs cs S w v h' h1 h2 h3 h4=>by
  obtain ⟨v0,h0,e,u⟩:=hF vs v h' h4;obtain ⟨r,k⟩:=h.2 vs cs S w v0 h0 h1 h2 h3 e;have hR:=u.rows r;refine ⟨hR,k.mono ?_⟩
  rintro e' w' ⟨c,κ',S',q1,q2,q3,q4⟩
  obtain ⟨κ2,g1,g2,g3⟩:=u.ok q2 q3 q4;exact ⟨c,κ2,S',q1,g1,g2,g3⟩⟩
theorem Air {S:Nat->Prop} {w:World} {κ:Aq} {v v':V} (h:∀ a,VR S w v κ a->VR S w v' κ a) (r:List V):∀ (l:List V) {ca:List Value},VRs S w (l++v::r) κ ca->VRs S w (l++v'::r) κ ca
 | [],_,⟨a,l',e,h1,h2⟩=>⟨a,l',e,h a h1,h2⟩
 | _::l,_,⟨a,l',e,h1,h2⟩=>⟨a,l',e,h1,Air h r l h2⟩
theorem VR.aggUp {S:Nat->Prop} {w:World} {κ:Aq} {v v':V} (l r:List V) (h:∀ a,VR S w v κ a->VR S w v' κ a) (a:Value):VR S w (.agg (l++v::r)) κ a->VR S w (.agg (l++v'::r)) κ a :=
 λ⟨ca,e,hq⟩=>⟨ca,e,Air h r l hq⟩
end Go.Sy
namespace Go.Sy
def Ld (is:List Nat):V->V
 | .agg cs=>.agg (rens cs)
 | .tup cs=>.tup (rens cs)
 | .fn f cs=>.fn f (rens cs)
 | .ptr id o=>match posN id is 0 with
  | some k=>.ptr k o
  | none=>.und
 | .ref id=>match posN id is 0 with
  | some k=>.ref k
  | none=>.und
 | .ept id s i o=>match posN id is 0 with
  | some k=>.ept k s i o
  | none=>.und
 | .rct id n=>match posN id is 0 with
  | some k=>.rct k n
  | none=>.und
 | .jref id=>match posN id is 0 with
  | some k=>.jref k
  | none=>.und
 | .jept id s i o=>match posN id is 0 with
  | some k=>.jept k s i o
  | none=>.und
 | .mref id i=>match posN id is 0 with
  | some k=>.mref k i
  | none=>.und
 | .mept id i s n o=>match posN id is 0 with
  | some k=>.mept k i s n o
  | none=>.und
 | .mmap id i=>match posN id is 0 with
  | some k=>.mmap k i
  | none=>.und
 | v=>v
 where rens:List V->List V
 | []=>[]
 | v::vs=>Ld is v::rens vs
def Wr (is:List Nat):Blk->Blk
 | .cells cs=>.cells (Ld.rens is cs)
 | .xrow _ _ _ _ _=>.dead
 | .saved _=>.dead
 | b=>b
def IQ (is:List Nat) (h:List Blk):List Nat->List Blk
 | []=>[]
 | j::l=>(match h[j]? with
  | some b=>Wr is b
  | none=>.dead)::IQ is h l
def Anh (is:List Nat) (st:St):St:=⟨Ld.rens is st.t,IQ is st.h is⟩
section
variable {S:Nat->Prop} {w:World} {κ:Aq} {is:List Nat}
theorem Sf {id k:Nat} (h:posN id is 0=some k):(is[k]?).bind κ=κ id:=by
 obtain ⟨_,h2⟩:=J2 h;rw [Nat.sub_zero] at h2;rw [h2];rfl
mutual
theorem AlT:∀ (v:V) (c:Value),VR S w v κ c->VR S w (Ld is v) (λi=>(is[i]?).bind κ) c
 | .val _,_,h=>h
 | .str _,_,h=>h
 | .agg cs,_,h=>by
  obtain ⟨ca,e,h⟩:=h;exact ⟨ca,e,HN cs _ h⟩
 | .tup cs,_,h=>by
  obtain ⟨ca,e,h⟩:=h;exact ⟨ca,e,HN cs _ h⟩
 | .fn f cs,_,h=>by
  obtain ⟨ca,e,h⟩:=h;exact ⟨ca,e,HN cs _ h⟩
 | .nilS,_,h=>h
 | .sl _ _ _,_,h=>h
 | .slr _ _ _ _,_,h=>h
 | .pp _,_,h=>h
 | .ptr id _,_,h=>by
  simp only [Ld];split
  ·rename_i k hk
   obtain ⟨g,h1,h2⟩:=h;exact ⟨g,(Sf hk).trans h1,h2⟩
  ·trivial
 | .ref id,_,h=>by
  simp only [Ld];split
  ·rename_i k hk
   exact ⟨(Sf hk).trans h.1,h.2⟩
  ·trivial
 | .ept id _ _ _,_,h=>by
  simp only [Ld];split
  ·rename_i k hk
   obtain ⟨g,n,cap,h1,h2⟩:=h;exact ⟨g,n,cap,(Sf hk).trans h1,h2⟩
  ·trivial
 | .rct id _,_,h=>by
  simp only [Ld];split
  ·rename_i k hk
   obtain ⟨a,n,cap,h1,h2⟩:=h;exact ⟨a,n,cap,(Sf hk).trans h1,h2⟩
  ·trivial
 | .jref id,_,h=>by
  simp only [Ld];split
  ·rename_i k hk
   obtain ⟨ms,h1,h2⟩:=h;exact ⟨ms,(Sf hk).trans h1,h2⟩
  ·trivial
 | .jept id _ _ _,_,h=>by
  simp only [Ld];split
  ·rename_i k hk
   obtain ⟨g,n,cap,ms,h1,h2⟩:=h;exact ⟨g,n,cap,ms,(Sf hk).trans h1,h2⟩
  ·trivial
 | .mref id _,_,h=>by
  simp only [Ld];split
  ·rename_i k hk
   obtain ⟨o,ms,h1,h2⟩:=h;exact ⟨o,ms,(Sf hk).trans h1,h2⟩
  ·trivial
 | .mept id _ _ _ _,_,h=>by
  simp only [Ld];split
  ·rename_i k hk
   obtain ⟨o,ms,g,n,cap,h1,h2⟩:=h;exact ⟨o,ms,g,n,cap,(Sf hk).trans h1,h2⟩
  ·trivial
 | .mmap id _,_,h=>by
  simp only [Ld];split
  ·rename_i k hk
   obtain ⟨o,ms,h1,h2⟩:=h;exact ⟨o,ms,(Sf hk).trans h1,h2⟩
  ·trivial
 | .anym,_,h=>h
 | .und,_,_=>trivial
theorem HN:∀ (vs:List V) (l:List Value),VRs S w vs κ l->VRs S w (Ld.rens is vs) (λi=>(is[i]?).bind κ) l
 | [],_,h=>h
 | v::vs,_,h=>by
  obtain ⟨a,l',e,h1,h2⟩:=h;exact ⟨a,l',e,AlT v _ h1,HN vs _ h2⟩
end
end
theorem QF (is0:List Nat) (h:List Blk):∀ (is:List Nat) (i:Nat),(IQ is0 h is)[i]? = (is[i]?).map λj=>match h[j]? with
  | some b=>Wr is0 b
  | none=>.dead
 | [],i=>by simp [IQ]
 | j::l,0=>by simp [IQ]
 | j::l,i+1=>by simpa [IQ] using QF is0 h l i
theorem QE (is0:List Nat) (h:List Blk):∀ (is:List Nat),(IQ is0 h is).length=is.length
 | []=>rfl
 | j::l=>by simp [IQ,QE is0 h l]
theorem Afo {is:List Nat} {b:Blk} {v:Option Value} {g:Nat} (h:inBlk v g (Wr is b)):inBlk v g b∧∀ lk e s n g,b ≠ .xrow lk e s n g:=by
 cases b with
 | xrow lk e s n gt=>exact h.elim
 | saved vs=>exact h.elim
 | _=>exact ⟨h,λ_ _ _ _ _ e=>by cases e⟩
theorem Wq {is:List Nat} {b:Blk}:¬ Df (Wr is b):=λh=>by
 cases b <;> rcases h with ⟨_,_,_,_,h⟩ | ⟨_,h⟩ <;> cases h
theorem AlY {Γ:Cx0} {is:List Nat} (hn:Kv is=true) (st:St):LE Γ st (Anh is st):=by
 intro κ S a w hr;have hat:∀ (i:Nat) (b:Blk),(IQ is st.h is)[i]? = some b->b = .dead ∨ ∃ j b0,is[i]? = some j∧st.h[j]? = some b0∧b=Wr is b0:=by
  intro i b hb;rw [QF,Option.map_eq_some_iff] at hb;obtain ⟨j,h1,h2⟩:=hb;split at h2
  ·rename_i b0 h3
   exact .inr ⟨j,b0,h1,h3,h2.symm⟩
  ·exact .inl h2.symm
 have hown:∀ (i b:Nat),AC (λi=>(is[i]?).bind κ) (IQ is st.h is) i b->∃ j,is[i]? = some j∧AC κ st.h j b∧∀ lk e s n g,st.h[j]? ≠ some (.xrow lk e s n g):=by
  rintro i b ⟨bl,q1,q2⟩
  rcases hat i bl q1 with rfl | ⟨j,b0,h1,h2,rfl⟩
  ·exact q2.elim
  ·have q2:inBlk ((is[i]?).bind κ) b (Wr is b0):=q2
   rw [h1] at q2;obtain ⟨q3,q4⟩:=Afo q2;exact ⟨j,h1,⟨b0,h2,q3⟩,λlk e s n g h=>by rw [h2] at h; cases h; exact q4 _ _ _ _ _ rfl⟩
 refine ⟨λi=>(is[i]?).bind κ,S,⟨⟨?_,?_,?_,?_⟩,hr.env,HN _ _ hr.tmps,hr.defers⟩,
  ⟨rfl,rfl,rfl,Nat.le_refl _,λ_ _ _=>rfl,λi b hb=>?_,λ_ hb=>.inl hb,λ_ hb=>hb,
   IT (Nat.le_refl _) (λ_ _ _=>rfl) (λi b hb _=>?_) (λ_ _ _ _ _ _ _ _=>En.refl _ _ _),λi bl hi hf=>?_⟩⟩
 ·intro i b hi
  rcases hat i b hi with rfl | ⟨j,b0,h1,h2,rfl⟩
  ·trivial
  ·have h3:=hr.good.blk j _ h2
   show AQ S w (λi=>(is[i]?).bind κ) ((is[i]?).bind κ) (Wr is b0);rw [h1];cases b0 with
   | cells cs =>obtain ⟨g,e,ca,p1,p2,p3⟩:=h3;exact ⟨g,e,ca,p1,p2,HN _ _ p3⟩
   | xrow lk e s n g=>trivial
   | saved vs=>trivial
   | dead=>trivial
   | _=>exact h3
 ·intro i j b hij hi hj
  obtain ⟨i',h1,h2,_⟩:=hown i b hi;obtain ⟨j',h3,h4,_⟩:=hown j b hj;refine hr.good.sep i' j' b (λe=>hij ?_) h2 h4;subst e;exact IU hn i j i' h1 h3
 ·intro b hb
  refine ⟨(hr.good.out b hb).1,λi hi=>?_⟩;obtain ⟨j,_,h2,_⟩:=hown i b hi;exact (hr.good.out b hb).2 j h2
 ·intro i hi
  have hi:(IQ is st.h is).length <= i:=hi;rw [QE] at hi;show (is[i]?).bind κ=none;rw [List.getElem?_eq_none hi];rfl
 ·obtain ⟨j,_,h2,_⟩:=hown i b hb
  exact .inl ⟨j,h2⟩
 ·obtain ⟨j,_,h2,h3⟩:=hown i b hb
  exact ⟨j,h2,λe s n g h=>absurd h (h3 _ _ _ _ _)⟩
 ·rcases hat i bl hi with rfl | ⟨j,b0,h1,h2,rfl⟩
  ·rcases hf with ⟨_,_,_,_,h⟩ | ⟨_,h⟩ <;> cases h
  ·exact absurd hf Wq
def MI (l:Lp) (is:List Nat) (r:Ex×St):Ex×St:=match r.1 with
 | .nm=>(.nm,Anh is (Hv l.ks l.n r.2))
 | .ex i=>(.ex i,Hv l.ke l.ne r.2)
 | .rt=>(.rt,Hv l.ke l.ne r.2)
def Jd (f:St->T (Ex×St)) (l:Lp) (is:List Nat):Nat->St->T (Ex×St)
 | 0,_=>.fail
 | m+1,st=>(f st).bind λr=>match (MI l is r).1 with
  | .nm=>Jd f l is m (MI l is r).2
  | _=>.leaf (MI l is r)
def IP (f:St->T (Ex×St)) (l:Lp) (is:List Nat) (st:St):Option (Ex×St):=((f st).bind λr=>T.leaf (MI l is r)).sem
theorem Rh {Γ:Cx0} {f:St->T (Ex×St)} {l:Lp} {is:List Nat} (hn:Kv is=true):∀ {m:Nat} {st:St} {r:Ex×St},(Jd f l is m st).sem=some r->LRun Γ f st r
 | 0,_,_,h=>by cases h
 | m+1,st,r,h=>by
  obtain ⟨⟨e,st1⟩,h1,h2⟩:=Ag h;cases e with
  | nm=>exact .next h1 ((Js _ _ _).trans (AlY hn _)) (Rh hn h2)
  | ex i =>have:=Aa h2;subst this;exact .stop h1 (by simp) (Js _ _ _)
  | rt =>have:=Aa h2;subst this;exact .stop h1 (by simp) (Js _ _ _)
theorem AcQ {f:St->T (Ex×St)} {l:Lp} {is:List Nat} {m:Nat} {st st1:St} (h:IP f l is st=some (.nm,st1)):(Jd f l is (m+1) st).sem=(Jd f l is m st1).sem:=by
 obtain ⟨r,h1,h2⟩:=Ag (show ((f st).bind λr=>T.leaf (MI l is r)).sem=_ from h);have h2:=(Aa h2).symm;show ((f st).bind _).sem=_;rw [C7,h1];show (match (MI l is r).1 with
  | .nm=>Jd f l is m (MI l is r).2
  | _=>.leaf (MI l is r):T (Ex×St)).sem=_
 rw [h2]
theorem AcR {f:St->T (Ex×St)} {l:Lp} {is:List Nat} {m:Nat} {st st1:St} {e:Ex} (he:e ≠ .nm) (h:IP f l is st=some (e,st1)):(Jd f l is (m+1) st).sem=some (e,st1):=by
 obtain ⟨r,h1,h2⟩:=Ag (show ((f st).bind λr=>T.leaf (MI l is r)).sem=_ from h);have h2:=(Aa h2).symm;show ((f st).bind _).sem=_;rw [C7,h1];show (match (MI l is r).1 with
  | .nm=>Jd f l is m (MI l is r).2
  | _=>.leaf (MI l is r):T (Ex×St)).sem=_
 rw [h2];cases e with
 | nm=>exact absurd rfl he
 | ex i=>rfl
 | rt=>rfl
def AgT (k:Nat) (l:Lp) (is:List Nat) (ls:List (Nat×Lp×List (Nat×(Nat->V)))) (id:Nat) (f:St->T (Ex×St)) (st:St):T (Ex×St) :=
 match Nat.beq id k with
 | true=>.ask (Jd f l is l.fuel (Hv l.ks l.n st)).sem .leaf
 | false=>askL ls id f st
theorem AgS (c:FuncId->List V->St->T (V×Res)) (G:Nat->V) (k:Nat) (l:Lp) (is:List Nat) (hn:Kv is=true) (ls:List (Nat×Lp×List (Nat×(Nat->V)))):BU ⟨c,AgT k l is ls,G⟩:=λid f st r hr=>by
 have hr:(AgT k l is ls id f st).sem=some r:=hr;unfold AgT at hr;split at hr
 ·cases hi:(Jd f l is l.fuel (Hv l.ks l.n st)).sem with
  | none=>rw [hi] at hr; cases hr
  | some r' =>rw [hi] at hr;cases hr;exact .run (.weak (Js _ _ _) (Rh hn hi))
 ·exact Ei c G ls id f st r hr
theorem DW.rn {f:St->T (Ex×St)} {lp:Lp} {is:List Nat} {st:St} {r:Ex×St} {d:DT (Ex×St)} (w:DW r d) (h:d.run ((f st).bind λr=>T.leaf (MI lp is r))=some (d.cs,d.os,d.ls)):IP f lp is st=some r:=w.ok h
end Go.Sy
namespace Go.Proofs.YtkbafjceglhjhaaGreatDoor.Er
open Go.Sy Go Go.Proofs.YtkbafjceglhjhaaGreatDoor.Ed Go.Proofs.YtkbafjceglhjhaaGreatDoor.Sh
set_option maxRecDepth 100000
set_option maxHeartbeats 1000000
structure Vl where
 lc:List UInt8
 n:Int
def vlV (x:Vl):V:=.agg [.str x.lc,iV x.n]
def Aey:V->Option Vl
 | .agg [.str a,.val (.int .i64 b)]=>some ⟨a,b⟩
 | _=>none
theorem Zk {v:V} {e:Vl} (h:Aey v=some e):v=vlV e:=by
 unfold Aey at h;split at h
 ·simp only [Option.some.injEq] at h
  subst h;rfl
 ·cases h
def Af0 (v:V):Bool:=match Aey v with
 | some _=>true
 | none=>false
def Aai (v:V):Vl:=match Aey v with
 | some e=>e
 | none=>⟨[],0⟩
theorem Mz {v:V} (h:Af0 v=true):v=vlV (Aai v):=by
 unfold Af0 at h;unfold Aai;split at h
 ·rename_i e he
  exact Zk he
 ·cases h
def AgM:Cod Vl:=⟨2,vlV,Af0,Aai,λv h S w c hv=>by rw [<- Mz h]; exact hv⟩
theorem Aqs:As Tryz.prog Gl 129 rgT:=by
 refine Am A0 mixed Tryz.func129 (by kernel_rfl) (by kernel_rfl) λvs v h' h=>?_;unfold rgT at h;split at h
 ·rename_i z
  have hx:=Bd C5 [] (G:=Gl);exact ⟨_,cxA Gl tb0 [],_,Bw.refl _,rfl,hx.1,hx.2,DK.of h (.g λh0=>.r 3 (AI h0).1 <| .e (congrArg (λb=>(bV b,([]:List Blk))) (show ilt z 32=true from decide_eq_true (by have:=of_decide_eq_true (AI h0).2; omega)))) (by kernel_rfl),Aw.refl _⟩
 ·cases h
def nm2 (t:List UInt8):Bool:=nmB t || (List.range 16).any λk=>seq t (BA (Int.ofNat k))
theorem AhO {t:List UInt8} (h:nmB t=true):nm2 t=true:=by unfold nm2; rw [h]; rfl
theorem Af1 {k:Nat} (h:k<16):nm2 (BA (Int.ofNat k))=true:=by
 unfold nm2;rw [Bool.or_eq_true];exact .inr (List.any_eq_true.2 ⟨k,by simpa using h,eSq _⟩)
def Af3:List V->AA
 | [.str t]=>.br (nm2 t) (.leaf (bV true,[])) .fail
 | _=>.fail
noncomputable def X6:AE:=Jm tab Gl [] [(166,Tryz.f166),(167,Tryz.f167)]
theorem AaR:Ar Tryz.prog Gl X6:=MN A0 mixed .nil (.cons Tryz.func166 (by kernel_rfl) <| .cons Tryz.func167 (by kernel_rfl) .nil)
theorem Af2:((List.range 32).all (λk=>tB (Ay (Aj tab (cxC Gl X6) Tryz.f132 [.str (GG k)] [])).sem) && (List.range 16).all (λk=>tB (Ay (Aj tab (cxC Gl X6) Tryz.f132 [.str (BA (Int.ofNat k))] [])).sem))=true:=by kernel_rfl
theorem AnO:As Tryz.prog Gl 132 Af3:=by
 refine Am A0 mixed Tryz.func132 (by kernel_rfl) (by kernel_rfl) λvs v h' h=>?_;unfold Af3 at h;split at h
 ·rename_i t
  obtain ⟨h1,h2⟩:=Ad h;have hx:=P9 AaR;have:=Aa h2;simp only [Prod.mk.injEq] at this;obtain ⟨rfl,rfl⟩:=this;obtain ⟨a1,a2⟩:=(Bool.and_eq_true _ _).mp Af2;refine ⟨_,cxC Gl X6,_,Bw.refl _,rfl,hx.1,hx.2,Ah3 ?_,Aw.refl _⟩;unfold nm2 at h1;rcases (Bool.or_eq_true _ _).mp h1 with h1 | h1
  ·obtain ⟨k,hk,rfl⟩:=AbW h1
   exact List.all_eq_true.1 a1 k (by simpa using hk)
  ·obtain ⟨k,hk,h1⟩:=List.any_eq_true.1 h1
   obtain rfl:t=BA (Int.ofNat k):=by simpa [seq] using h1
   exact List.all_eq_true.1 a2 k hk
 ·cases h
noncomputable def Ae7:AE:=(132,Af3)::(129,rgT)::[]
theorem RN:Ar Tryz.prog Gl Ae7:=.cons AnO <| .cons Aqs .nil
noncomputable def Γ85:Cx:=⟨I7 [(128,F8 tab (cxA Gl Ae7 []) Tryz.f128)] (A2 Ae7),Go.Sy.askL [],Gl⟩
theorem Adk:Bi Tryz.prog Γ85.base∧BU Γ85:=⟨EV mixed (.cons rfl A0 (Bd RN []).1 (Bd RN []).2 Tryz.func128 (by kernel_rfl) (by kernel_rfl) .nil) (FF (Γ:=⟨A2 Ae7,Gl⟩) rfl RN),Ei _ _ _⟩
theorem Am7 (d a:Int) (hd:rgB d=true) (ha:rgB a=true):(Ay (Aj tab Γ85 Tryz.f85 [.agg [iV 6,iV d,iV a,iV 0,iV 0,.str [],.str [],iV 0]] [])).sem=some (iV 0,[]):=DW.ok (.k (eI 6) <| .r 2 (eI a) <| .r 4 (eN eT) <| .r 3 (eN (eA (eI 6) (eA (eI d) (eA (eI a) (eA (eI 0) (eA (eI 0) (eA (eSq []) (eA (eSq []) (eA (eI 0) eT))))))))) <| .k hd <| .r 2 (eN (eA (eI 6) (eA (eI d) (eA (eI a) (eA (eI 0) (eA (eI 0) (eA (eSq []) (eA (eSq []) (eA (eI 0) eT))))))))) <| .r 3 (eN eT) <| .k ha <| .r 5 (eN eT) <| .k (show rgB 0=true from rfl) <| .r 3 (eN eT) <| .l) (by kernel_rfl)
theorem Am6 (a:Int) (ha:rgB a=true):(Ay (Aj tab Γ85 Tryz.f85 [.agg [iV 7,iV 0,iV a,iV 5,iV 0,.str [],.str [],iV 0]] [])).sem=some (iV 0,[]):=DW.ok (.k (show ieq 7 6=false from rfl) <| .k (eI 7) <| .r 2 (eI 5) <| .r 4 (eN eT) <| .r 3 (eN (eA (eI 7) (eA (eI 0) (eA (eI a) (eA (eI 5) (eA (eI 0) (eA (eSq []) (eA (eSq []) (eA (eI 0) eT))))))))) <| .k (show rgB 0=true from rfl) <| .r 2 (eN (eA (eI 7) (eA (eI 0) (eA (eI a) (eA (eI 5) (eA (eI 0) (eA (eSq []) (eA (eSq []) (eA (eI 0) eT))))))))) <| .r 3 (eN eT) <| .k ha <| .r 5 (eN eT) <| .k (show rgB 5=true from rfl) <| .r 3 (eN eT) <| .l) (by kernel_rfl)
theorem Ajl (a m:Int) (ha:rgB a=true) (hm:ile (-2048) m=true) (hm2:ile m 2047=true):(Ay (Aj tab Γ85 Tryz.f85 [.agg [iV 8,iV 5,iV a,iV 0,iV m,.str [],.str [],iV 0]] [])).sem=some (iV 0,[]):=DW.ok (.k (show ieq 8 6=false from rfl) <| .k (show ieq 8 7=false from rfl) <| .k (eI 8) <| .k (eI a) <| .k (eI m) <| .k (eI a) <| .r 3 (eI m) <| .r 4 hm <| .r 4 (eN hm2) <| .r 3 (eN (eA (eI 8) (eA (eI 5) (eA (eI a) (eA (eI 0) (eA (eI m) (eA (eSq []) (eA (eSq []) (eA (eI 0) eT))))))))) <| .k (show rgB 5=true from rfl) <| .r 2 (eN (eA (eI 8) (eA (eI 5) (eA (eI a) (eA (eI 0) (eA (eI m) (eA (eSq []) (eA (eSq []) (eA (eI 0) eT))))))))) <| .r 3 (eN eT) <| .k ha <| .r 5 (eN eT) <| .k (show rgB 0=true from rfl) <| .r 3 (eN eT) <| .l) (by kernel_rfl)
theorem Ajk (d a:Int) (hd:rgB d=true) (ha:rgB a=true):(Ay (Aj tab Γ85 Tryz.f85 [.agg [iV 9,iV d,iV a,iV a,iV 0,.str [],.str [],iV 0]] [])).sem=some (iV 0,[]):=DW.ok (.k (show ieq 9 6=false from rfl) <| .k (show ieq 9 7=false from rfl) <| .k (show ieq 9 8=false from rfl) <| .r 2 (eI 9) <| .r 6 (eI a) <| .r 4 (eN eT) <| .r 3 (eN (eA (eI 9) (eA (eI d) (eA (eI a) (eA (eI a) (eA (eI 0) (eA (eSq []) (eA (eSq []) (eA (eI 0) eT))))))))) <| .k hd <| .r 2 (eN (eA (eI 9) (eA (eI d) (eA (eI a) (eA (eI a) (eA (eI 0) (eA (eSq []) (eA (eSq []) (eA (eI 0) eT))))))))) <| .r 3 (eN eT) <| .k ha <| .r 5 (eN eT) <| .k ha <| .r 3 (eN eT) <| .l) (by kernel_rfl)
theorem Ajp (b:Int) (hb:rgB b=true):(Ay (Aj tab Γ85 Tryz.f85 [.agg [iV 10,iV 6,iV 6,iV b,iV 0,.str [],.str [],iV 0]] [])).sem=some (iV 0,[]):=DW.ok (.k (show ieq 10 6=false from rfl) <| .k (show ieq 10 7=false from rfl) <| .k (show ieq 10 8=false from rfl) <| .k (show ieq 10 9=false from rfl) <| .k (eI 10) <| .k (eI 6) <| .k (eI b) <| .k (eI 6) <| .r 3 (eI b) <| .r 4 (eN eT) <| .r 3 (eN (eA (eI 10) (eA (eI 6) (eA (eI 6) (eA (eI b) (eA (eI 0) (eA (eSq []) (eA (eSq []) (eA (eI 0) eT))))))))) <| .k (show rgB 6=true from rfl) <| .r 2 (eN (eA (eI 10) (eA (eI 6) (eA (eI 6) (eA (eI b) (eA (eI 0) (eA (eSq []) (eA (eSq []) (eA (eI 0) eT))))))))) <| .r 3 (eN eT) <| .k (show rgB 6=true from rfl) <| .r 5 (eN eT) <| .k hb <| .r 3 (eN eT) <| .l) (by kernel_rfl)
theorem Ajo (a:Int) (t:List UInt8) (ha:rgB a=true) (ht:nmB t=true):(Ay (Aj tab Γ85 Tryz.f85 [.agg [iV 11,iV 0,iV a,iV 0,iV 0,.str [],.str t,iV 0]] [])).sem=some (iV 0,[]):=DW.ok (.k (show ieq 11 6=false from rfl) <| .k (show ieq 11 7=false from rfl) <| .k (show ieq 11 8=false from rfl) <| .k (show ieq 11 9=false from rfl) <| .k (show ieq 11 10=false from rfl) <| .k (eI 11) <| .k (eI 0) <| .k (eSq t) <| .k (eI 0) <| .r 3 (eSq t) <| .k (AhO ht) <| .r 4 (eN eT) <| .r 3 (eN (eA (eI 11) (eA (eI 0) (eA (eI a) (eA (eI 0) (eA (eI 0) (eA (eSq []) (eA (eSq t) (eA (eI 0) eT))))))))) <| .k (show rgB 0=true from rfl) <| .r 2 (eN (eA (eI 11) (eA (eI 0) (eA (eI a) (eA (eI 0) (eA (eI 0) (eA (eSq []) (eA (eSq t) (eA (eI 0) eT))))))))) <| .r 3 (eN eT) <| .k ha <| .r 5 (eN eT) <| .k (show rgB 0=true from rfl) <| .r 3 (eN eT) <| .l) (by kernel_rfl)
theorem Ajm (t:List UInt8) (ht:nmB t=true):(Ay (Aj tab Γ85 Tryz.f85 [.agg [iV 12,iV 0,iV 0,iV 0,iV 0,.str [],.str t,iV 0]] [])).sem=some (iV 0,[]):=DW.ok (.k (show ieq 12 6=false from rfl) <| .k (show ieq 12 7=false from rfl) <| .k (show ieq 12 8=false from rfl) <| .k (show ieq 12 9=false from rfl) <| .k (show ieq 12 10=false from rfl) <| .k (show ieq 12 11=false from rfl) <| .k (eI 12) <| .k (AhO ht) <| .r 4 (eN eT) <| .r 3 (eN (eA (eI 12) (eA (eI 0) (eA (eI 0) (eA (eI 0) (eA (eI 0) (eA (eSq []) (eA (eSq t) (eA (eI 0) eT))))))))) <| .k (show rgB 0=true from rfl) <| .r 2 (eN (eA (eI 12) (eA (eI 0) (eA (eI 0) (eA (eI 0) (eA (eI 0) (eA (eSq []) (eA (eSq t) (eA (eI 0) eT))))))))) <| .r 3 (eN eT) <| .k (show rgB 0=true from rfl) <| .r 5 (eN eT) <| .k (show rgB 0=true from rfl) <| .r 3 (eN eT) <| .l) (by kernel_rfl)
theorem Ajn (f:Int) (hf:ile 2 f=true) (hf2:ile f 11=true):(Ay (Aj tab Γ85 Tryz.f85 [.agg [iV 13,iV 0,iV 0,iV 0,iV 0,.str [],.str [],iV f]] [])).sem=some (iV 0,[]):=DW.ok (.k (show ieq 13 6=false from rfl) <| .k (show ieq 13 7=false from rfl) <| .k (show ieq 13 8=false from rfl) <| .k (show ieq 13 9=false from rfl) <| .k (show ieq 13 10=false from rfl) <| .k (show ieq 13 11=false from rfl) <| .k (show ieq 13 12=false from rfl) <| .k (eI 13) <| .r 4 hf <| .r 4 (eN hf2) <| .r 3 (eN (eA (eI 13) (eA (eI 0) (eA (eI 0) (eA (eI 0) (eA (eI 0) (eA (eSq []) (eA (eSq []) (eA (eI f) eT))))))))) <| .k (show rgB 0=true from rfl) <| .r 2 (eN (eA (eI 13) (eA (eI 0) (eA (eI 0) (eA (eI 0) (eA (eI 0) (eA (eSq []) (eA (eSq []) (eA (eI f) eT))))))))) <| .r 3 (eN eT) <| .k (show rgB 0=true from rfl) <| .r 5 (eN eT) <| .k (show rgB 0=true from rfl) <| .r 3 (eN eT) <| .l) (by kernel_rfl)
theorem p85:As Tryz.prog Gl 85 PK:=by
 refine Am A0 mixed Tryz.func85 (by kernel_rfl) (by kernel_rfl) λvs v h' h=>?_;unfold PK at h;split at h
 ·rename_i u
  obtain ⟨h1,h⟩:=Ad h;obtain ⟨h2,h⟩:=Ad h;have:=Aa h;simp only [Prod.mk.injEq] at this;obtain ⟨rfl,rfl⟩:=this;refine ⟨_,Γ85,_,Bw.refl _,rfl,Adk.1,Adk.2,?_,Aw.refl _⟩;rw [EJ h1];generalize Jj u=I at h2;cases Li h2 with
  | lw hd ha=>exact Am7 _ _ hd ha
  | sw ha h5=>exact Am6 _ ha
  | ori ha hm hm2=>exact Ajl _ _ ha hm hm2
  | xor hd ha=>exact Ajk _ _ hd ha
  | add hb h6=>exact Ajp _ hb
  | bne ha h0 ht=>exact Ajo _ _ ha ht
  | lab ht=>exact Ajm _ ht
  | fen hf hf2=>exact Ajn _ hf hf2
 ·cases h
end Go.Proofs.YtkbafjceglhjhaaGreatDoor.Er
