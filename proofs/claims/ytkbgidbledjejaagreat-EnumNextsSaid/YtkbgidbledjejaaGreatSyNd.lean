/-
  Regions that draw their order and store once: the store may come up ahead of what looks elsewhere. Conditions: the table of types is the program's.
-/
import Derived.Test.YtkbgidbledjejaaGreatSyNc
namespace Go.Sy
variable {dl:List Deferred} {ro:Option Nat}
theorem H3 {τ:List Ty} {Γ:Cx0} (all:Array Oper) (s:Nat):∀ (l:List Oper) (i:Nat) (st st':St),(L9 τ Γ all s i l st).sem=some st' ->
  ∃ vals,(∀ k o,l[k]? = some o->i+k ≠ s->(CV τ Γ all o (AE st l vals k)).sem=some (vals k))∧st'=AE st l vals l.length
 | [],_,st,st',h=>⟨λ_=>.und,λk o hk=>by simp at hk,Aa h⟩
 | o::l,i,st,st',h=>by
  unfold L9 at h;split at h
  ·rename_i hb
   have hb:=Nat.eq_of_beq_eq_true hb;obtain ⟨vals,h3,h4⟩:=H3 all s l _ _ _ h;refine ⟨λi=>match i with | 0=>A5 | i+1=>vals i,λk o' hk hne=>?_,?_⟩
   ·cases k with
    | zero=>exact absurd hb hne
    | succ k =>exact (congrArg (λq=>(CV τ Γ all o' q).sem) (Er st o l A5 vals k)).trans (h3 k o' (by simpa using hk) (by omega))
   ·exact h4.trans (Er st o l A5 vals l.length).symm
  ·obtain ⟨v,h1,h2⟩:=Ad h
   obtain ⟨vals,h3,h4⟩:=H3 all s l _ _ _ h2;refine ⟨λi=>match i with | 0=>v | i+1=>vals i,λk o' hk hne=>?_,?_⟩
   ·cases k with
    | zero =>simp at hk;subst hk;exact h1
    | succ k =>exact (congrArg (λq=>(CV τ Γ all o' q).sem) (Er st o l v vals k)).trans (h3 k o' (by simpa using hk) (by omega))
   ·exact h4.trans (Er st o l v vals l.length).symm
section
variable {P:Program} {τ:List Ty} (hτ:TabOK P τ) {Γ:Cx0} {ops:Array Oper} {Q:Exit->Act->World->Prop} {S:Nat->Prop} {w:World} {κ:Ai} {st:St} {a:Act} {o:Oper}
include hτ in
theorem AaJ (hg:Good κ S st.h w) (hE:CC Γ S w) (ht:VRs S w st.t κ a.tmps.toList) (hk:Jq o=true) {v:V} (h:(Gv τ Γ o st).sem=some v):HE P a o S w κ v:=by
 have value:∀ c,(execOp a.eval o).run P w = .ok (.value c) w->VR S w v κ c->HE P a o S w κ v:=λc h1 h2=>⟨c,h1,h2⟩;unfold Jq at hk;split at hk
 ·rename_i x ho
  unfold Gv at h;simp only [ho] at h;split at h
  ·cases h
  ·rw [Aa h] at value
   rw [Aa h];exact value _ (by unfold execOp; simp only [ho]; rfl) (AT hE ht x)
 ·rename_i c x y ho
  unfold Gv at h;simp only [ho] at h;have hc:=AT hE ht c;split at h
  ·rename_i b hb
   rw [hb] at hc;have hc:a.eval c = .bool b:=hc;cases b with
   | true=>exact value _ (by unfold execOp; simp only [ho,hc]; rfl) (by rw [Aa (show (T.leaf (ev Γ st x)).sem=some v from h)]; exact AT hE ht x)
   | false=>exact value _ (by unfold execOp; simp only [ho,hc]; rfl) (by rw [Aa (show (T.leaf (ev Γ st y)).sem=some v from h)]; exact AT hE ht y)
  ·cases h
 ·rename_i op t x ho
  unfold Gv at h;simp only [ho] at h;obtain ⟨c,h2,h3⟩:=AbK (P:=P) h (AT hE ht x);refine value c ?_ h3;unfold execOp;simp only [ho,Sem.run_bind,h2,Result.andThen_ok,Sem.run_pure]
 ·exact SC (P:=P) (o:={ o with guard:=none }) hτ hg hE ht hk h
structure MidS (dl:List Deferred) (Γ:Cx0) (κ0:Ai) (S0:Nat->Prop) (w0:World) (st:St) (hc:List Blk) (ops:Array Oper) (vals:Nat->V) (X:Nat->Prop) (κ:Ai) (S:Nat->Prop) (a:Act) (w:World):Prop where
 good:Good κ S hc w
 env:CC Γ S w
 ext:Ext κ0 S0 st.h w0 κ S hc w
 defers:a.defers=dl
 size:a.tmps.size=st.t.length
 wrote:∀ j o t,ops[j]? = some o->o.dst=some t->t<st.t.length->X j->VR S w (vals j) κ (a.tmps.getD t undef)
 stays:∀ t,t<st.t.length->(∀ j o,ops[j]? = some o->X j->o.dst ≠ some t)->VR S w (nth st.t t) κ (a.tmps.getD t undef)
include hτ in
theorem Aac (hΓ:Bb P Γ) {κ0:Ai} {S0:Nat->Prop} {w0:World} {vals:Nat->V} (hd:Ej ops=true) {s:Nat} {os:Oper} {t0:TypeId} {x0 y0:Operand} (hos:ops[s]? = some os) (hop:os.op = .store t0 x0 y0) (hgs:os.guard=none) (hds:os.dst=none)
  (hk:∀ k o,ops.toList[k]? = some o->k ≠ s->Jq o=true) {id off:Nat} {old cs:List V} {ty:Ty} (hid:st.h[id]? = some (.cells old)) (hty:τ[t0]? = some ty) (hcz:cs.length=ty.size) (hle:off+cs.length <= old.length)
  (hna:∀ k o d,s<k->ops.toList[k]? = some o->o.dst=some d->D2 d (Bq ops os)=false)
  (hv:∀ k o,ops.toList[k]? = some o->k ≠ s->(CV τ Γ ops o ⟨(AE st ops.toList vals k).t,st.h.set id .dead⟩).sem=some (vals k))
  (hx:∀ h,ev Γ ⟨C9 (Bq ops os) 0 (AE st ops.toList vals ops.size).t,h⟩ x0 = .ptr id off) (hy:∀ h,(ev Γ ⟨C9 (Bq ops os) 0 (AE st ops.toList vals ops.size).t,h⟩ y0).cells=some cs)
  (hw:Way dl Γ κ0 S0 st.h w0 ⟨(AE st ops.toList vals ops.size).t,st.h.set id (.cells (Dc old off cs))⟩ (λa' w'=>Q .normal a' w')) :
  ∀ (fuel:Nat) (listed:Array Bool) (κ:Ai) (S:Nat->Prop) (a:Act) (w:World),listed.size=ops.size->left ops.size listed=fuel ->
   EU ops.toList (λi=>listed.getD i false=true)->MidS dl Γ κ0 S0 w0 st (bif listed.getD s false then st.h.set id (.cells (Dc old off cs)) else st.h) ops vals (λi=>listed.getD i false=true) κ S a w->wpAny P .any ops Q fuel listed a w:=by
 unfold Ej at hd;split at hd
 ·rename_i hback honce
  have honce:=Hp honce;have hedges:=λi o hi=>C0 ops.toList 0 hback i o hi;have hreads:=λi o hi=>CY ops.toList 0 hd i o hi;have hsl:s<ops.size:=(Array.getElem?_eq_some_iff.1 hos).1;have hidl:id<st.h.length:=(List.getElem?_eq_some_iff.1 hid).1;have fin:∀ (fuel:Nat) (listed:Array Bool) (κ:Ai) (S:Nat->Prop) (a:Act) (w:World),listed.size=ops.size->left ops.size listed=fuel ->
    (∀ i,i<ops.size->listed.getD i false=true)->MidS dl Γ κ0 S0 w0 st (bif listed.getD s false then st.h.set id (.cells (Dc old off cs)) else st.h) ops vals (λi=>listed.getD i false=true) κ S a w->wpAny P .any ops Q fuel listed a w:=by
   intro fuel listed κ S a w hsz hleft hall hm;have hf:fuel=0:=by
    rw [<- hleft];refine (Of (m:=ops.size) (λi hi=>?_) (λi hi hn=>by omega)).trans (Nat.sub_self _);have h1:=hall i hi;have hil:i<listed.size:=by omega
    simp [Array.getD,hil] at h1 ⊢;exact h1
   subst hf;rw [hall s hsl] at hm;refine Lu (P:=P) (m:=ops.size) hτ hΓ hback (λi h1 h2=>by omega) 0 ops.size listed ⟨(AE st ops.toList vals ops.size).t,st.h.set id (.cells (Dc old off cs))⟩ _ κ S a w rfl (Nat.le_refl _) hsz (λi hi=>⟨λ_=>hi,λ_=>hall i hi⟩) ⟨hm.good,hm.env,?_,hm.defers⟩ (by rw [List.drop_eq_nil_of_le (by simp)]; rfl) (hw.ext hm.ext);refine C3 _ _ (by rw [Array.length_toList,hm.size,Bt]) λt ht=>?_;rw [Bt] at ht;rw [B5];by_cases hex:∃ (j:Nat) (o:Oper),j<ops.size∧ops[j]? = some o∧o.dst=some t
   ·obtain ⟨j,o,hjm,hj,hdst⟩:=hex
    rw [Cl honce (by simpa using hj) hdst ht ops.size hjm];exact hm.wrote j o t hj hdst ht (hall j hjm)
   ·rw [BD ops.size (λj o hjm hj hdst=>hex ⟨j,o,hjm,by simpa using hj,hdst⟩)]
    exact hm.stays t ht (λj o hj _ hdst=>hex ⟨j,o,(Array.getElem?_eq_some_iff.1 hj).1,hj,hdst⟩)
  have allOf:∀ listed:Array Bool,listed.size=ops.size->Region.ready .any ops listed=[]->∀ i,i<ops.size->listed.getD i false=true:=by
   intro listed hsz hready i
   induction i using Nat.strongRecOn with
   | _ i ih =>
    intro hi;cases hl:listed.getD i false with
    | true=>rfl
    | false =>
     exfalso
     have hmem:i ∈ Region.ready .any ops listed:=by
      refine mem_ready.2 ⟨?_,ops[i],by simp [hi],λe he hb=>?_⟩
      ·have:i<listed.size:=by omega
       simp [Array.getD,this] at hl ⊢;exact hl
      ·have hlt:=hedges i ops[i] (by simp [hi]) e he hb
       exact ih e.on (by omega) (by omega)
     rw [hready] at hmem;cases hmem
  intro fuel
  induction fuel with
  | zero =>
   intro listed κ S a w hsz hleft hcl hm;refine fin 0 listed κ S a w hsz hleft (λi hi=>?_) hm;cases hl:listed.getD i true with
   | true =>
    have hil':i<listed.size:=by omega
    simp [Array.getD,hil'] at hl ⊢;exact hl
   | false =>
    exfalso
    have:=D3 hi hsz hl;omega
  | succ fuel ih =>
   intro listed κ S a w hsz hleft hcl hm;by_cases hall:∀ i,i<ops.size->listed.getD i false=true
   ·exact fin (fuel+1) listed κ S a w hsz hleft hall hm
   refine ⟨λhready=>absurd (λi hi=>allOf listed hsz hready i hi) hall,λi hi=>?_⟩;obtain ⟨h0,o,ho,hafter⟩:=mem_ready.1 hi;have hil:i<ops.size:=(Array.getElem?_eq_some_iff.1 ho).1;have hiF:listed.getD i false=false:=by
    have:i<listed.size:=by omega
    simp [Array.getD,this] at h0 ⊢;exact h0
   have hol:ops.toList[i]? = some o:=by simpa using ho
   have hr:=hreads i o hol;rw [Nat.zero_add,Bg] at hr;have hslot:∀ t,t<st.t.length->D2 t (Bq ops o)=true->VR S w (nth (AE st ops.toList vals i).t t) κ (a.tmps.getD t undef):=by
    intro t ht hmem;by_cases hex:∃ (j:Nat) (o':Oper),ops[j]? = some o'∧o'.dst=some t
    ·obtain ⟨j,o',hj,hdst⟩:=hex
     have hjl:ops.toList[j]? = some o':=by simpa using hj
     obtain ⟨hne,hlt,hgt⟩:=Du ops.toList 0 hr j o' t hjl hdst hmem;rw [Nat.zero_add] at hne hlt hgt;rcases Nat.lt_or_gt_of_ne hne with hc | hc
     ·have hX:=BV hcl (i+1) i j o (by omega) hol hafter (hlt hc)
      rw [Cl honce hjl hdst ht i hc];exact hm.wrote j o' t hj hdst ht hX
     ·have hnX:¬ (listed.getD j false=true):=by
       intro hX;have:=BV hcl (j+1) j i o' (by omega) hjl (λe he hb=>hcl j o' hjl hX e he hb) (hgt hc);rw [hiF] at this;cases this
      rw [BD i (λk o'' hk hok hdk=>by
       have:=honce k j o'' o' t hok hjl hdk hdst;omega)]
      exact hm.stays t ht (λk o'' hok hXk hdk=>by
       have:=honce k j o'' o' t (by simpa using hok) hjl hdk hdst;subst this;exact hnX hXk)
    ·rw [BD i (λk o'' _ hok hdk=>hex ⟨k,o'',by simpa using hok,hdk⟩)]
     exact hm.stays t ht (λk o'' hok _ hdk=>hex ⟨k,o'',hok,hdk⟩)
   have hX':∀ k,(listed.setIfInBounds i true).getD k false=true↔(k=i ∨ listed.getD k false=true):=by
    intro k;rw [BJ];by_cases hk:k=i
    ·rw [if_pos ⟨hk,by omega⟩]
     simp [hk]
    ·rw [if_neg (λhc=>hk hc.1)]
     simp [hk]
   have hcl':EU ops.toList (λk=>(listed.setIfInBounds i true).getD k false=true):=by
    intro k ok hk hXk e he hb;rw [hX'] at hXk;rw [hX'];rcases hXk with rfl | hXk
    ·rw [hol] at hk
     cases hk;exact .inr (hafter e he hb)
    ·exact .inr (hcl k ok hk hXk e he hb)
   have hfu:left ops.size (listed.setIfInBounds i true)=fuel:=by have:=D3 hil hsz h0; omega
   by_cases his:i=s
   ·-- the store
    subst his;rw [hos] at ho;cases ho;rw [hiF] at hm;have hmask:VRs S w (C9 (Bq ops os) 0 (AE st ops.toList vals ops.size).t) κ a.tmps.toList:=by
     refine C3 _ _ (by rw [Array.length_toList,hm.size,Cf,Bt]) λt ht=>?_;rw [Cf,Bt] at ht;rw [HY,Nat.zero_add,B5];split
     ·rename_i hmem
      have:=hslot t ht hmem;have e:nth (AE st ops.toList vals ops.size).t t=nth (AE st ops.toList vals i).t t:=by
       by_cases hex:∃ (j:Nat) (o':Oper),ops.toList[j]? = some o'∧o'.dst=some t
       ·obtain ⟨j,o',hj,hdst⟩:=hex
        have hjl:j<ops.size:=by
         have:=(List.getElem?_eq_some_iff.1 hj).1;simpa using this
        have hji:j<i:=by
         rcases Nat.lt_trichotomy j i with hc | hc | hc
         ·exact hc
         ·subst hc
          rw [hol] at hj;cases hj;rw [hds] at hdst;cases hdst
         ·have:=hna j o' t hc hj hdst
          rw [this] at hmem;cases hmem
        rw [Cl honce hj hdst ht ops.size hjl,Cl honce hj hdst ht i hji]
       ·rw [BD ops.size (λj o' _ hj hdst=>hex ⟨j,o',hj,hdst⟩),BD i (λj o' _ hj hdst=>hex ⟨j,o',hj,hdst⟩)]
      rw [e];exact this
     ·trivial
    have hgd:Good κ S st.h w:=hm.good;have hxv:=AT (st:=⟨C9 (Bq ops os) 0 (AE st ops.toList vals ops.size).t,st.h⟩) hm.env hmask x0;have hyv:=AT (st:=⟨C9 (Bq ops os) 0 (AE st ops.toList vals ops.size).t,st.h⟩) hm.env hmask y0;rw [hx] at hxv;obtain ⟨hrc,h1c⟩:=Cp (hy st.h) hyv;have hl:=hrc.length;obtain ⟨i0,d,hi0,_,_,hsz0,_⟩:=hτ.info hty;obtain ⟨g,e,ca,hkk,hcx,hgw,hrold⟩:=Kq hgd hid hxv;have hlo:=hrold.length;have hrun':(execOp a.eval os).run P w = .ok .skip (w.setRow g (ca.toList.take off++(a.eval y0).cells.toList++ca.toList.drop (off+(a.eval y0).cells.toList.length)).toArray):=by
     have hst:=run_storeCells_at (P:=P) g off e (a.eval y0).cells.toList 0 ca w hgw (by simp at hlo; simpa [hl] using (by omega:off+cs.length <= ca.size)) h1c;simp only [Nat.add_zero] at hst;have hsz2:¬ ((a.eval y0).cells.size ≠ i0.size):=by
      have:(a.eval y0).cells.size=cs.length:=by rw [<- hl]; simp
      rw [this,hcz,hsz0]; simp
     unfold execOp;simp only [hop];rw [hcx];simp only [Instr.storeAt,Instr.sureAddr,Sem.run_bind,Sem.run_pure,Result.andThen_ok,storeVar,AS hi0,if_neg hsz2,hst]
    have hidb:Ak (κ id)=some g:=by rw [hkk]; rfl
    have hwk:∀ k,k ≠ g->(w.setRow g (ca.toList.take off++(a.eval y0).cells.toList++ca.toList.drop (off+(a.eval y0).cells.toList.length)).toArray).heap[k]? = w.heap[k]? :=
     λk hk=>setRow_other w g k _ hk
    have hgown:A3 κ st.h id g:=(F6.own (b:=.cells old) trivial hid).2 hidb;have hS:∀ b,S b->S b∧(w.setRow g (ca.toList.take off++(a.eval y0).cells.toList++ca.toList.drop (off+(a.eval y0).cells.toList.length)).toArray).heap[b]? = w.heap[b]? :=
     λb hb=>⟨hb,hwk b λeb=>(hgd.out b hb).2 id (by rw [eb]; exact hgown)⟩
    have hup:=Good.upd (w':=w.setRow g (ca.toList.take off++(a.eval y0).cells.toList++ca.toList.drop (off+(a.eval y0).cells.toList.length)).toArray)
     (b':=.cells (Dc old off cs)) hgd hid trivial trivial hidb hwk (size_setRow _ _ _)
     ⟨g,e,_,hkk,setRow_heap w g ca _ e _ hgw,by
      rw [List.toList_toArray];exact VR.mono_go hS _ _ _ _ (λ_ _ h=>h) (Hg hrold hrc off)⟩
    have hext:Ext κ S st.h w κ S (st.h.set id (.cells (Dc old off cs))) (w.setRow g (ca.toList.take off++(a.eval y0).cells.toList++ca.toList.drop (off+(a.eval y0).cells.toList.length)).toArray) :=
     Ext.upd hgd hid trivial trivial hidb hwk (size_setRow _ _ _) rfl rfl rfl hup.2 (λ_ _ _ _=>by simp) (λ_ _ _ _ h=>by cases h)
    unfold wpOp;rw [hos];simp only;rw [if_pos (by simp [Region.wanted,hgs])];left;unfold Oper.wp;rw [hrun'];refine ih (listed.setIfInBounds i true) κ S _ _ (by simp [hsz]) hfu hcl' ?_;rw [(hX' i).2 (.inl rfl)];have hput:a.put os.dst undef=a:=by rw [hds]; rfl
    rw [hput];refine ⟨hup.1,hm.env.ext hgd hext,hm.ext.trans hext,hm.defers,hm.size,λk ok t hkq hdk ht hXk=>?_,λt ht hno=>?_⟩
    ·rw [hX'] at hXk
     rcases hXk with hXe | hXk
     ·rw [hXe,hos] at hkq
      cases hkq;rw [hds] at hdk;cases hdk
     ·exact VR.mono hS _ _ _ _ (λ_ _ h=>h) (hm.wrote k ok t hkq hdk ht hXk)
    ·exact VR.mono hS _ _ _ _ (λ_ _ h=>h) (hm.stays t ht (λk ok hk hXk=>hno k ok hk ((hX' k).2 (.inr hXk))))
   ·-- what leaves the memory as it is
    have hsX:(listed.setIfInBounds i true).getD s false=listed.getD s false:=by
     cases hb:listed.getD s false with
     | true=>exact (hX' s).2 (.inr hb)
     | false =>
      cases hb2:(listed.setIfInBounds i true).getD s false with
      | false=>rfl
      | true =>
       rcases (hX' s).1 hb2 with hc | hc
       ·exact absurd hc.symm his
       ·rw [hb] at hc; cases hc
    have hmask:VRs S w (C9 (Bq ops o) 0 (AE st ops.toList vals i).t) κ a.tmps.toList:=by
     refine C3 _ _ (by rw [Array.length_toList,hm.size,Cf,Bt]) λt ht=>?_;rw [Cf,Bt] at ht;rw [HY,Nat.zero_add,B5];split
     ·rename_i hmem
      exact hslot t ht hmem
     ·trivial
    have hgD:Good κ S (st.h.set id .dead) w:=by
     cases hb:listed.getD s false with
     | false =>have hg0:=hm.good;rw [hb] at hg0;exact (Good.upd' (b':=.dead) hg0 hid (λ_ hk=>(show False from hk).elim) (λ_ _ _=>rfl) (Nat.le_refl _) trivial).1
     | true =>have hg0:=hm.good;rw [hb] at hg0;have hg0:Good κ S (st.h.set id (.cells (Dc old off cs))) w:=hg0;have:=(Good.upd' (b':=.dead) hg0 (id:=id) (b:=.cells (Dc old off cs)) (by simp [hidl]) (λ_ hk=>(show False from hk).elim) (λ_ _ _=>rfl) (Nat.le_refl _) trivial).1;rwa [List.set_set] at this
    have next:∀ c,VR S w (vals i) κ c->wpAny P .any ops Q fuel (listed.setIfInBounds i true) (a.put o.dst c) w:=by
     intro c q2;refine ih (listed.setIfInBounds i true) κ S _ w (by simp [hsz]) hfu hcl' ?_;rw [hsX];have hput:∀ t,t<st.t.length->(a.put o.dst c).tmps.getD t undef=if o.dst=some t then c else a.tmps.getD t undef:=by
      intro t ht;have ht':t<a.tmps.size:=by rw [hm.size]; exact ht
      cases hod:o.dst with
      | none=>simp [Act.put]
      | some d =>
       simp only [Act.put];rw [BJ];by_cases hdt:d=t
       ·subst hdt
        rw [if_pos ⟨rfl,ht'⟩,if_pos rfl]
       ·rw [if_neg (λhc=>hdt hc.1.symm),if_neg (by simpa using hdt)]
     refine ⟨hm.good,hm.env,hm.ext,by rw [BA]; exact hm.defers,?_,?_,?_⟩
     ·rw [<- hm.size]
      cases o.dst <;> simp [Act.put]
     ·intro k ok t hk hdk ht hXk
      rw [hX'] at hXk;rw [hput t ht];rcases hXk with rfl | hXk
      ·rw [ho] at hk
       cases hk;rw [if_pos hdk];exact q2
      ·rw [if_neg (λhc=>by
        have:=honce k i ok o t (by simpa using hk) hol hdk hc;subst this;rw [hiF] at hXk;cases hXk)]
       exact hm.wrote k ok t hk hdk ht hXk
     ·intro t ht hno
      rw [hput t ht,if_neg (λhc=>hno i o ho ((hX' i).2 (.inl rfl)) hc)];exact hm.stays t ht (λk ok hk hXk=>hno k ok hk ((hX' k).2 (.inr hXk)))
    have hq:=hv i o hol his;unfold CV at hq;unfold wpOp;rw [ho];simp only;rcases GX (st:=⟨C9 (Bq ops o) 0 (AE st ops.toList vals i).t,st.h.set id .dead⟩) hmask hq with ⟨hwant,hrun⟩ | ⟨hwant,hskip⟩
    ·rw [if_pos hwant]
     left;obtain ⟨c,hc1,hc2⟩:=AaJ (P:=P) (st:=⟨C9 (Bq ops o) 0 (AE st ops.toList vals i).t,st.h.set id .dead⟩) hτ hgD hm.env hmask (hk i o hol his) hrun;unfold Oper.wp;rw [hc1];exact next c hc2
    ·rw [if_neg (by rw [hwant]; simp)]
     have hvi:vals i=A5:=Aa hskip;exact next undef (by rw [hvi]; exact rfl)
 ·cases hd
theorem Ot {s:Nat}:∀ (l:List Oper) (i:Nat),Ri s i l=true->∀ (k:Nat) (o:Oper),l[k]? = some o->i+k ≠ s->Jq o=true
 | [],_,_,k,o,hk,_=>by simp at hk
 | p::l,i,h,k,o,hk,hne=>by
  unfold Ri at h;split at h
  ·rename_i hp
   cases k with
   | zero =>
    simp at hk;subst hk;rw [Bool.or_eq_true] at hp;rcases hp with hp | hp
    ·exact absurd (Nat.eq_of_beq_eq_true hp) hne
    ·exact hp
   | succ k=>exact Ot l (Nat.succ i) h k o (by simpa using hk) (by omega)
  ·cases h
theorem LL {rs:List Nat}:∀ (l:List Oper),Kc rs l=true->∀ (k:Nat) (o:Oper) (d:Nat),l[k]? = some o->o.dst=some d->D2 d rs=false
 | [],_,k,o,d,hk,_=>by simp at hk
 | p::l,h,k,o,d,hk,hd=>by
  unfold Kc at h;cases k with
  | zero =>
   simp at hk;subst hk;rw [hd] at h;simp only at h;split at h
   ·cases h
   ·rename_i hm
    exact hm
  | succ k =>
   have hl:Kc rs l=true:=by
    split at h
    ·split at h
     ·cases h
     ·exact h
    ·exact h
   exact LL l hl k o d (by simpa using hk) hd
theorem Hw (l:List Oper) (vals:Nat->V) (h:List Blk):∀ k,AE ⟨st.t,h⟩ l vals k=⟨(AE st l vals k).t,h⟩
 | 0=>rfl
 | k+1=>by
  simp only [AE];split
  ·rw [Hw l vals h k]
   rename_i o _;cases o.dst <;> rfl
  ·exact Hw l vals h k
theorem Zx (t:List V) (h h':List Blk) (x:Operand):ev Γ ⟨t,h⟩ x=ev Γ ⟨t,h'⟩ x:=by cases x <;> rfl
theorem Jl {s:Nat} {r:Ex×St} (h:(FV τ Γ ops s st).sem=some r):r.1 = .nm:=by
 unfold FV at h;split at h
 ·split at h
  ·split at h
   ·obtain ⟨st1,_,h⟩:=Ad h
    split at h
    ·split at h
     ·rw [Aa h]
     ·cases h
    ·cases h
   ·cases h
  ·cases h
 ·cases h
include hτ in
theorem Ox (hm:P.follows .mixedOrders=true) (hΓ:Bb P Γ) {i s:Nat} {r:Ex×St} (hr:Rel dl Γ κ S st a w) (hd:Ej ops=true) (hone:PQ ops=some s) (h:(FV τ Γ ops s st).sem=some r)
  (hnd:ro=none ∨ ops.all Gm=true) (hw:Way dl Γ κ S st.h w r.2 (λa' w'=>Q .normal a' w')):(Code.region i ops true).wpIn (Ez ro) 0 P Q a w:=by
 have hall:Ri s 0 ops.toList=true:=by
  unfold PQ at hone;split at hone
  ·split at hone
   ·rename_i hb
    cases hone;exact hb
   ·cases hone
  ·cases hone
 unfold FV at h;split at h
 ·rename_i os hos
  split at h
  ·rename_i t0 x0 y0 hop hgs hds
   split at h
   ·rename_i id off0 hx0 hnw
    obtain ⟨st1,h1,h⟩:=Ad h;obtain ⟨vals,hv,rfl⟩:=H3 ops s _ _ _ _ h1;split at h
    ·rename_i id' off old cs ty hx hid hy hty
     split at h
     ·rename_i hii hcl hle
      have hii:=Nat.eq_of_beq_eq_true hii;subst hii;have hr2:=Aa h;subst hr2;rw [Array.length_toList,Hw] at hx hy hw;refine wpIn_mono (Q:=λe a w=>e = .normal∧Q .normal a w) (wpIn_region_any hm (Tn hnd (λ⟨a,w,h⟩=>by cases h.1) _ _ _ _ ?_)) (λe a w h=>h.1 ▸ h.2);have hw:Way dl Γ κ S st.h w ⟨(AE st ops.toList vals ops.size).t,st.h.set id' (.cells (Dc old off cs))⟩ (λa' w'=>Exit.normal = .normal∧Q .normal a' w'):=λκ' S' a' w' h1 h2=>⟨rfl,hw κ' S' a' w' h1 h2⟩;have hg':Good κ S st.h { w with drawn:=w.drawn+1 }:=by
       obtain ⟨g1,g2,g3,g4⟩:=hr.good;refine ⟨λi b hb=>?_,g2,g3,g4⟩;exact A7.mono (w:=w) (λb hb=>⟨hb,rfl⟩) (λ_ _ h=>h) (λ_ _=>rfl) (g1 i b hb)
      have hext:Ext κ S st.h w κ S st.h { w with drawn:=w.drawn+1 }:=⟨rfl,rfl,rfl,Nat.le_refl _,λ_ _ _=>rfl,λi b hb=>.inl ⟨i,hb⟩,λ_ hb=>.inl hb,λ_ hb=>hb,λb p h=>⟨h,E5.same rfl⟩,λ_ b h hb=>⟨rfl,b,h,Bz.refl hb⟩⟩
      have hpers:∀ b,S b->S b∧({ w with drawn:=w.drawn+1 }:World).heap[b]? = w.heap[b]?:=λb hb=>⟨hb,rfl⟩
      have hrep:∀ i,(Array.replicate ops.size false).getD i false=false:=by
       intro i;by_cases hi:i<ops.size
       ·simp [Array.getD,hi]
       ·simp [Array.getD,hi]
      refine Aac (P:=P) hτ hΓ hd hos hop hgs hds (λk o hk hne=>Ot ops.toList 0 hall k o hk (by omega)) hid hty (Nat.eq_of_beq_eq_true hcl) (by simpa using hle)
       (λk o d hk ho hdo=>LL _ hnw (k-(s+1)) o d (by rw [List.getElem?_drop,show s+1+(k-(s+1))=k by omega]; exact ho) hdo)
       (λk o hk hne=>?_) (λh=>(Zx _ _ _ _).trans hx) (λh=>(congrArg V.cells (Zx _ _ _ _)).trans hy) (hw.ext hext) ops.size _ κ S a _ (by simp) ?_ ?_ ?_
      ·have:=hv k o hk (by omega)
       rw [Hw] at this;exact this
      ·unfold left
       rw [List.filter_eq_self.2]
       ·simp
       ·intro i hi
        simp at hi;simp [Array.getD,hi]
      ·intro i o hi hX
       rw [hrep] at hX;cases hX
      ·rw [hrep]
       have htm:=VR.mono_go hpers _ _ κ _ (λ_ _ h=>h) hr.tmps;refine ⟨hg',λg=>VR.mono hpers _ _ _ _ (λ_ _ h=>h) (hr.env g),Ext.refl _ _ _ _,hr.defers,?_,?_,?_⟩
       ·have:=hr.tmps.length
        simpa using this
       ·intro j o t _ _ _ hX
        rw [hrep] at hX;cases hX
       ·intro t ht _
        have:=htm.nth t undef;rwa [B5] at this
     ·cases h
    ·cases h
   ·cases h
  ·cases h
 ·cases h
end
end Go.Sy
