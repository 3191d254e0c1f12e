/-
  Callees that write a row of the caller's, and callees that append to it: what the caller's own memory is behind them. Conditions: as before.
-/
import Derived.Test.YtjhnfomefcngfaaSyS
import Derived.ChangeSame
namespace Go.Sy
def Xa (P:Program) (G:Nat->V) (f:FuncId) (M:List V->List Blk->T (V × List Blk)):Prop :=
 ∀ vs cs κ S h w v h',Good κ S h w->RK G S w->VRs S w vs κ cs->(M vs h).sem = some (v,h') ->
  Lj P f cs w λe w'=>∃ c κ' S',e = .returned c ∧ Good κ' S' (after h h') w' ∧ VR S' w' v κ' c ∧ Ext κ S h w κ' S' (after h h') w' ∧ ∀ id c,κ id = some c->κ' id = some c
def Ma (P:Program) (G:Nat->V) (mt:List (Nat × (List V->List Blk->T (V × List Blk)))):Prop:=∀ p,p ∈ mt->Xa P G p.1 p.2
theorem Ma.nil {P:Program} {G:Nat->V}:Ma P G []:=λ_ h=>by cases h
theorem Ma.cons {P:Program} {G:Nat->V} {f:Nat} {M:List V->List Blk->T (V × List Blk)} {mt:List (Nat × (List V->List Blk->T (V × List Blk)))} (h:Xa P G f M) (ht:Ma P G mt):Ma P G ((f,M) :: mt):=λp hp=>by
 rcases List.mem_cons.1 hp with rfl | hp
 ·exact h
 ·exact ht p hp
def AeF (mt:List (Nat × (List V->List Blk->T (V × List Blk)))) (tbl:List (Nat × (List V->T (V × List Blk)))) (f:FuncId) (vs:List V) (st:St):T (V × Res) :=
 match Ku f mt with
 | some M=>ZG (M vs st.h)
 | none=>Am tbl f vs st
theorem callM_ok {P:Program} {Γ:Cx0} {mt:List (Nat × (List V->List Blk->T (V × List Blk)))} {tbl:List (Nat × (List V->T (V × List Blk)))} (hc:Γ.call = AeF mt tbl) (hm:Ma P Γ.glob mt) (ht:AA P Γ.glob tbl):Bk P Γ:=by
 intro f vs cs κ S st l w v r hg hE hv htt he
 rw [hc] at he
 unfold AeF at he
 split at he
 ·rename_i M hM
  obtain ⟨l2,rfl,he2⟩:=NR he
  exact hm _ (Hk hM) vs cs κ S st.h w v l2 hg hE hv he2
 ·exact DW (Γ:=⟨Am tbl,Γ.glob⟩) rfl ht f vs cs κ S st l w v r hg hE hv htt he
section
variable {S:Nat->Prop} {w w':World} {κ:Nat->Option Value} {h:List Blk}
def X6 (κ:Nat->Option Value) (id:Nat):Nat->Option Value:=λi=>if i = 0 then κ id else none
theorem IF {lk:Bool} {id e s n:Nat} {g g':Nat->V} (hh:h[id]? = some (.row e s n g)) (i b:Nat):AH (X6 κ id) [.xrow lk e s n g'] i b ↔ i = 0 ∧ AH κ h id b:=by
 rw [AB hh]
 constructor
 ·rintro ⟨bl,h1,h2⟩
  cases i with
  | zero =>
   simp at h1
   subst h1
   exact ⟨rfl,h2⟩
  | succ i=>simp at h1
 ·rintro ⟨rfl,h1⟩
  exact ⟨_,rfl,h1⟩
theorem Good.one {lk:Bool} {id e s n:Nat} {g g0:Nat->V} (hg:Good κ S h w) (hh:h[id]? = some (.row e s n g)) (h0:∀ i,i < n->g0 i = g i):Good (X6 κ id) S [.xrow lk e s n g0] w:=by
 refine ⟨λi b hi=>?_,λi j k hij hi hj=>?_,λb hb=>⟨(hg.out b hb).1,λi hi=>?_⟩,λi hi=>?_⟩
 ·cases i with
  | zero =>
   simp at hi
   subst hi
   obtain ⟨r0,cc,xs,r1,r2,r3⟩:=hg.blk id _ hh
   exact ⟨r0,cc,xs,r1,r2,λi hi=>by rw [h0 i hi]; exact r3 i hi⟩
  | succ i=>simp at hi
 ·have h1:=((IF hh i k).1 hi).1
  have h2:=((IF hh j k).1 hj).1
  omega
 ·exact (hg.out b hb).2 id ((IF hh i b).1 hi).2
 ·have hi:1 <= i:=hi
  unfold X6
  rw [if_neg (by omega)]
theorem Good.back {id e s n:Nat} {g g':Nat->V} (hg:Good κ S h w) (hh:h[id]? = some (.row e s n g)) (hsz:w.heap.size <= w'.heap.size)
  (hkeep:∀ b,b < w.heap.size->¬ AH κ h id b->w'.heap[b]? = w.heap[b]?) (hB:AT S w' κ (κ id) (.row e s n g')):Good κ S (h.set id (.row e s n g')) w' :=
 (hg.upd' (b':=.row e s n g') hh (λ_ hk=>hk) (λk hk hlt=>hkeep k hlt λq=>hk ((AB hh).1 q)) hsz hB).1
theorem Ext.back {id e s n:Nat} {g g':Nat->V} (hg:Good κ S h w) (hh:h[id]? = some (.row e s n g)) (hos:w'.os = w.os) (htape:w'.tape = w.tape) (hout:w'.output = w.output) (hsz:w.heap.size <= w'.heap.size)
  (hkeep:∀ b,b < w.heap.size->¬ AH κ h id b->w'.heap[b]? = w.heap[b]?) (hB:AT S w' κ (κ id) (.row e s n g')):Ext κ S h w κ S (h.set id (.row e s n g')) w' :=
 Ext.upd' hg hh rfl (λk hk hlt=>hkeep k hlt λq=>hk ((AB hh).1 q)) hsz hos htape hout
  (hg.upd' (b':=.row e s n g') hh (λ_ hk=>hk) (λk hk hlt=>hkeep k hlt λq=>hk ((AB hh).1 q)) hsz hB).2 (λ_ _ _ _ h=>by cases h) (λhf=>absurd hf (notFixed (b:=.row e s n g') trivial (λ_ _ _ _ h=>by cases h)))
end
def X5 (m:Value):Nat->Option Value:=λi=>if i = 0 then some m else none
section
variable {S:Nat->Prop} {w w':World} {κ:Nat->Option Value} {h:List Blk} {id i:Nat} {j:Jag} {c m:Value} {ms:Array Value}
theorem G3 {lk:Bool} {e s n:Nat} {g:Nat->V} (q b:Nat):AH (X5 m) [.xrow lk e s n g] q b ↔ q = 0 ∧ Ay (some m) = some b:=by
 constructor
 ·rintro ⟨bl,h1,h2⟩
  cases q with
  | zero =>
   simp at h1
   subst h1
   exact ⟨rfl,h2⟩
  | succ q=>simp at h1
 ·rintro ⟨rfl,h1⟩
  exact ⟨_,rfl,h1⟩
theorem Ki (hh:h[id]? = some (.jag j)) (hk:κ id = some (.tuple #[c,.agg ms])) (hm:ms[i]? = some m) (b:Nat) (hb:Ay (some m) = some b):AH κ h id b :=
 (AB hh).2 (by rw [hk]; exact Co hm hb)
theorem Good.oneM {lk:Bool} {g0:Nat->V} (hg:Good κ S h w) (hh:h[id]? = some (.jag j)) (hk:κ id = some (.tuple #[c,.agg ms])) (hm:ms[i]? = some m) (hl:j.live i = true) (h0:∀ k,k < j.len i->g0 k = j.mem i k) :
  Good (X5 m) S [.xrow lk j.e' j.s' (j.len i) g0] w:=by
 obtain ⟨c1,ms1,xs,hk1,hj⟩:=CP (st:=⟨[],h⟩) hg hh
 rw [hk] at hk1
 obtain ⟨rfl,rfl⟩:=AU hk1
 obtain ⟨_,ys,ho,he⟩:=hj.mem hm hl
 refine ⟨λq b hq=>?_,λp q k hpq hp hq=>?_,λb hb=>⟨(hg.out b hb).1,λq hq=>?_⟩,λq hq=>?_⟩
 ·cases q with
  | zero =>
   simp at hq
   subst hq
   exact ⟨hj.2.1,m,ys,rfl,ho,λk hk=>by rw [h0 k hk]; exact he k hk⟩
  | succ q=>simp at hq
 ·have h1:=((G3 p k).1 hp).1
  have h2:=((G3 q k).1 hq).1
  omega
 ·exact (hg.out b hb).2 id (Ki hh hk hm b ((G3 q b).1 hq).2)
 ·have hq:1 <= q:=hq
  unfold X5
  rw [if_neg (by omega)]
theorem M2 {g':Nat->V} (hg:Good κ S h w) (hh:h[id]? = some (.jag j)) (hk:κ id = some (.tuple #[c,.agg ms])) (hm:ms[i]? = some m) (hl:j.live i = true)
  (hkeep:∀ b,b < w.heap.size->¬ Ay (some m) = some b->w'.heap[b]? = w.heap[b]?) {ys:List Value} (ho:w'.ownsRow 0 j.e' j.s' m (j.len i) ys) (he:Ck S w' j.s' (j.len i) g' ys) :
  AT S w' κ (κ id) (.jag { j with mem:=BX j.mem i g' }):=by
 obtain ⟨c1,ms1,xs,hk1,hj⟩:=CP (st:=⟨[],h⟩) hg hh
 rw [hk] at hk1
 obtain ⟨rfl,rfl⟩:=AU hk1
 obtain ⟨hx,_⟩:=hj.mem hm hl
 obtain ⟨g1,g2,g3,g4,g5,g6,g7,g8,g9⟩:=hj
 have hS:∀ b,S b->S b ∧ w'.heap[b]? = w.heap[b]?:=λb hb=>⟨hb,hkeep b (hg.out b hb).1 λhb'=>(hg.out b hb).2 id (Ki hh hk hm b hb')⟩
 refine ⟨c,ms,xs,hk,g1,g2,g3,g4,Cc g5 λg hgc=>hkeep g (F2 g5 hgc) λhb'=>(g9 i m g hm hb').1 hgc,g6,OT.mono (j:=j) g7 hS,λi' m' hm'=>?_,g9⟩
 by_cases hi:i' = i
 ·subst hi
  rw [hm] at hm'
  cases hm'
  unfold HC
  show match j.live i' with
   | true=>xs[i' * j.size+j.off]? = some m ∧ ∃ ys,w'.ownsRow 0 j.e' j.s' m (j.len i') ys ∧ Ck S w' j.s' (j.len i') (BX j.mem i' g' i') ys
   | false=>m = .slice none 0 0
  rw [hl,Fm]
  exact ⟨hx,ys,ho,he⟩
 ·have:=(g8 i' m' hm').mono hS λg hgc=>hkeep g (hg.lt (Ki hh hk hm' g hgc)) λhb'=>(g9 i m g hm hb').2 i' m' hi hm' hgc
  unfold HC at this ⊢
  show match j.live i' with
   | true=>xs[i' * j.size+j.off]? = some m' ∧ ∃ ys,w'.ownsRow 0 j.e' j.s' m' (j.len i') ys ∧ Ck S w' j.s' (j.len i') (BX j.mem i g' i') ys
   | false=>m' = .slice none 0 0
  rw [I6 hi]
  exact this
theorem Good.backM {j':Jag} (hg:Good κ S h w) (hh:h[id]? = some (.jag j)) (hk:κ id = some (.tuple #[c,.agg ms])) (hm:ms[i]? = some m) (hsz:w.heap.size <= w'.heap.size)
  (hkeep:∀ b,b < w.heap.size->¬ Ay (some m) = some b->w'.heap[b]? = w.heap[b]?) (hB:AT S w' κ (κ id) (.jag j')):Good κ S (h.set id (.jag j')) w' :=
 (hg.upd' (b':=.jag j') hh (λ_ hk=>hk) (λk hkk hlt=>hkeep k hlt λq=>hkk (by rw [hk]; exact Co hm q)) hsz hB).1
theorem Ext.backM {j':Jag} (hg:Good κ S h w) (hh:h[id]? = some (.jag j)) (hk:κ id = some (.tuple #[c,.agg ms])) (hm:ms[i]? = some m) (hos:w'.os = w.os) (htape:w'.tape = w.tape) (hout:w'.output = w.output) (hsz:w.heap.size <= w'.heap.size)
  (hkeep:∀ b,b < w.heap.size->¬ Ay (some m) = some b->w'.heap[b]? = w.heap[b]?) (hB:AT S w' κ (κ id) (.jag j')):Ext κ S h w κ S (h.set id (.jag j')) w' :=
 have hw:∀ k,¬ inBlk (κ id) k (.jag j)->k < w.heap.size->w'.heap[k]? = w.heap[k]?:=λk hkk hlt=>hkeep k hlt λq=>hkk (by rw [hk]; exact Co hm q)
 Ext.upd' hg hh rfl hw hsz hos htape hout (hg.upd' (b':=.jag j') hh (λ_ hk=>hk) hw hsz hB).2 (λ_ _ _ _ h=>by cases h) (λhf=>by rcases hf with ⟨_,_,_,_,hf⟩ | ⟨_,hf⟩ <;> cases hf)
end
def Aes (e s:Nat) (F:Nat->(Nat->V)->List V->T (Nat->V)):List V->List Blk->T (V × List Blk)
 | .ref id :: vs,h=>match h[id]? with
  | some (.row e' s' n g)=>match Nat.beq e e',Nat.beq s s' with
   | true,true=>(F n g vs).bind λg'=>.leaf (.tup [],.dead :: h.set id (.row e s n g'))
   | _,_=>.fail
  | _=>.fail
 | .mref id i :: vs,h=>match h[id]? with
  | some (.jag j)=>match Nat.beq e j.e',Nat.beq s j.s' with
   | true,true=>.br (j.live i) ((F (j.len i) (j.mem i) vs).bind λg'=>.leaf (.tup [],.dead :: h.set id (.jag { j with mem:=BX j.mem i g' }))) .fail
   | _,_=>.fail
  | _=>.fail
 | _,_=>.fail
def Ae9 (e s:Nat) (F:Nat->(Nat->V)->List V->T Unit):List V->List Blk->T (V × List Blk)
 | .ref id :: vs,h=>match h[id]? with
  | some (.row e' s' n g)=>match Nat.beq e e',Nat.beq s s' with
   | true,true=>(F n g vs).bind λ_=>.leaf (.tup [],[])
   | _,_=>.fail
  | _=>.fail
 | .mref id i :: vs,h=>match h[id]? with
  | some (.jag j)=>match Nat.beq e j.e',Nat.beq s j.s' with
   | true,true=>.br (j.live i) ((F (j.len i) (j.mem i) vs).bind λ_=>.leaf (.tup [],[])) .fail
   | _,_=>.fail
  | _=>.fail
 | _,_=>.fail
theorem Nd {S S':Nat->Prop} {w w':World} {κ κ':Nat->Option Value} {c:Value} (h:VR S w (.tup []) κ c):VR S' w' (.tup []) κ' c:=h
section
variable {P:Program} {τ:List Ty} (hτ:TabOK P τ) (hm:P.follows .mixedOrders = true) {G:Nat->V} {f:FuncId} {fn:Func} {e s:Nat}
include hτ hm in
theorem markM_ok {F:Nat->(Nat->V)->List V->T (Nat->V)} (hf:P.funcs[f]? = some fn) (hb:fn.body.isSome = true) (hn:(fn.name == "runtime.NumGoroutine") = false)
  (H:∀ n g vs g',(F n g vs).sem = some g'->G9.frees vs = true ∧ (∀ i,i < n->LV (g' i) = true) ∧ ∃ Γ:Cx,Γ.glob = G ∧ Bk P Γ.base ∧ BM Γ ∧
   ∃ g0 h' g2,(∀ i,i < n->g0 i = g i) ∧ (Ai τ Γ fn (.ref 0 :: vs) [.xrow false e s n g0]).sem = some (.tup [],h') ∧ h'[0]? = some (.xrow false e s n g2) ∧ ∀ i,i < n->g' i = g2 i):Xa P G f (Aes e s F):=by
 intro vs cs κ S h w v h' hg hE hv he
 obtain ⟨c,hb⟩:=Option.isSome_iff_exists.1 hb
 have hn:fn.name ≠ "runtime.NumGoroutine":=by simpa using hn
 unfold Aes at he
 split at he
 ·rename_i id vs'
  split at he
  ·rename_i e' s' n g hh
   split at he
   ·rename_i h1 h2
    obtain rfl:=Nat.eq_of_beq_eq_true h1
    obtain rfl:=Nat.eq_of_beq_eq_true h2
    obtain ⟨g',q1,q2⟩:=An he
    have q2:=Ac q2
    simp only [Prod.mk.injEq] at q2
    obtain ⟨rfl,rfl⟩:=q2
    obtain ⟨hfr,hbare,Γ,rfl,hΓ,hΛ,g0,h1',g2,hg0,he',hh',hg2⟩:=H n g vs' g' q1
    obtain ⟨c0,cs',rfl,⟨hc0,hsl⟩,hvs⟩:=hv
    have hv1:VRs S w (.ref 0 :: vs') (X6 κ id) (c0 :: cs'):=⟨c0,cs',rfl,⟨hc0,hsl⟩,Dr vs' cs' hfr hvs⟩
    refine .inl ⟨⟨fn,hf,hn,by rw [hb]; rfl⟩,(GB (P:=P) hτ hm hΓ hΛ hf hb (hg.one (lk:=false) hh hg0) hE hv1 he').mono ?_⟩
    rintro en w' ⟨u,κ',S',rfl,g1,g2',g3⟩
    have hfix:=g3.fix 0 _ hh' (.inl ⟨_,_,_,_,rfl⟩)
    have hk0:κ' 0 = κ id:=hfix.1
    have hkeep:∀ b,b < w.heap.size->¬ AH κ h id b->w'.heap[b]? = w.heap[b]?:=λb hb hne=>g3.keep b hb λi hi=>hne ((IF hh i b).1 hi).2
    have hB:AT S w' κ (κ id) (.row e s n g'):=by
     obtain ⟨r0,cc,xs,r1,r2,r3⟩:=g1.blk 0 _ hh'
     refine ⟨r0,cc,xs,by rw [<- hk0]; exact r1,r2,λi hi=>?_⟩
     obtain ⟨ci,p1,p2,p3,p4⟩:=r3 i hi
     exact ⟨ci,HA _ _ _ (hbare i hi) (by rw [hg2 i hi]; exact p1),p2,p3,p4⟩
    exact ⟨u,κ,S,rfl,hg.back hh g3.size hkeep hB,Nd g2',Ext.back hg hh g3.os g3.tape g3.output g3.size hkeep hB,λ_ _ h=>h⟩
   ·cases he
  ·cases he
 ·rename_i id i vs'
  split at he
  ·rename_i j hh
   split at he
   ·rename_i h1 h2
    obtain rfl:=Nat.eq_of_beq_eq_true h1
    obtain rfl:=Nat.eq_of_beq_eq_true h2
    obtain ⟨hl,he⟩:=Ad he
    obtain ⟨g',q1,q2⟩:=An he
    have q2:=Ac q2
    simp only [Prod.mk.injEq] at q2
    obtain ⟨rfl,rfl⟩:=q2
    obtain ⟨hfr,hbare,Γ,rfl,hΓ,hΛ,g0,h1',g2,hg0,he',hh',hg2⟩:=H (j.len i) (j.mem i) vs' g' q1
    obtain ⟨c0,cs',rfl,⟨o,ms,hk,hm0,hsl⟩,hvs⟩:=hv
    have hv1:VRs S w (.ref 0 :: vs') (X5 c0) (c0 :: cs'):=⟨c0,cs',rfl,⟨rfl,.inl hsl⟩,Dr vs' cs' hfr hvs⟩
    refine .inl ⟨⟨fn,hf,hn,by rw [hb]; rfl⟩,(GB (P:=P) hτ hm hΓ hΛ hf hb (hg.oneM (lk:=false) hh hk hm0 hl hg0) hE hv1 he').mono ?_⟩
    rintro en w' ⟨u,κ',S',rfl,g1,g2',g3⟩
    have hfix:=g3.fix 0 _ hh' (.inl ⟨_,_,_,_,rfl⟩)
    have hk0:κ' 0 = some c0:=hfix.1
    have hkeep:∀ b,b < w.heap.size->¬ Ay (some c0) = some b->w'.heap[b]? = w.heap[b]?:=λb hb hne=>g3.keep b hb λi hi=>hne ((G3 i b).1 hi).2
    obtain ⟨r0,cc,xs,r1,r2,r3⟩:=g1.blk 0 _ hh'
    rw [hk0] at r1
    cases r1
    have hB:=M2 (w':=w') (g':=g') hg hh hk hm0 hl hkeep r2 (λi hi=>by
     obtain ⟨ci,p1,p2,p3,p4⟩:=r3 i hi
     exact ⟨ci,HA _ _ _ (hbare i hi) (by rw [hg2 i hi]; exact p1),p2,p3,p4⟩)
    exact ⟨u,κ,S,rfl,hg.backM hh hk hm0 g3.size hkeep hB,Nd g2',Ext.backM hg hh hk hm0 g3.os g3.tape g3.output g3.size hkeep hB,λ_ _ h=>h⟩
   ·cases he
  ·cases he
 ·cases he
include hτ hm in
theorem growM_ok {F:Nat->(Nat->V)->List V->T Unit} (hf:P.funcs[f]? = some fn) (hb:fn.body.isSome = true) (hn:(fn.name == "runtime.NumGoroutine") = false)
  (H:∀ n g vs u,(F n g vs).sem = some u->G9.frees vs = true ∧ ∃ Γ:Cx,Γ.glob = G ∧ Bk P Γ.base ∧ BM Γ ∧
   ∃ h',(Ai τ Γ fn (.ref 0 :: vs) [.xrow true e s n g]).sem = some (.tup [],h')):Xa P G f (Ae9 e s F):=by
 intro vs cs κ S h w v h' hg hE hv he
 obtain ⟨c,hb⟩:=Option.isSome_iff_exists.1 hb
 have hn:fn.name ≠ "runtime.NumGoroutine":=by simpa using hn
 unfold Ae9 at he
 split at he
 ·rename_i id vs'
  split at he
  ·rename_i e' s' n g hh
   split at he
   ·rename_i h1 h2
    obtain rfl:=Nat.eq_of_beq_eq_true h1
    obtain rfl:=Nat.eq_of_beq_eq_true h2
    obtain ⟨u0,q1,q2⟩:=An he
    have q2:=Ac q2
    simp only [Prod.mk.injEq] at q2
    obtain ⟨rfl,rfl⟩:=q2
    obtain ⟨hfr,Γ,rfl,hΓ,hΛ,h1',he'⟩:=H n g vs' u0 q1
    obtain ⟨c0,cs',rfl,⟨hc0,hsl⟩,hvs⟩:=hv
    have hv1:VRs S w (.ref 0 :: vs') (X6 κ id) (c0 :: cs'):=⟨c0,cs',rfl,⟨hc0,hsl⟩,Dr vs' cs' hfr hvs⟩
    refine .inl ⟨⟨fn,hf,hn,by rw [hb]; rfl⟩,(GB (P:=P) hτ hm hΓ hΛ hf hb (hg.one (lk:=true) hh λ_ _=>rfl) hE hv1 he').mono ?_⟩
    rintro en w' ⟨u,κ',S',rfl,g1,g2',g3⟩
    have hkeep:∀ b,b < w.heap.size->¬ AH κ h id b->w'.heap[b]? = w.heap[b]?:=λb hb hne=>g3.keep b hb λi hi=>hne ((IF hh i b).1 hi).2
    have hS:∀ b,S b->S b ∧ w'.heap[b]? = w.heap[b]?:=λb hb=>⟨hb,hkeep b (hg.out b hb).1 ((hg.out b hb).2 id)⟩
    have hset:h.set id (.row e s n g) = h:=by
     have hl:=(List.getElem?_eq_some_iff.1 hh).1
     have:=(List.getElem?_eq_some_iff.1 hh).2
     rw [<- this,List.set_getElem_self]
    have hB:AT S w' κ (κ id) (.row e s n g):=by
     obtain ⟨r0,cc,xs,r1,r2,r3⟩:=hg.blk id _ hh
     refine ⟨r0,cc,xs,r1,⟨r2.1,?_⟩,r3.mono hS⟩
     rcases r2.2 with hnil | ⟨k,cap,cur,rfl,k0,k1,k2,k3,k4,k5⟩
     ·exact .inl hnil
     ·have hown:AH κ h id k:=(AB hh).2 (by rw [r1]; rfl)
      have hsafe:VA (X6 κ id) [.xrow true e s n g] w k (n * s):=⟨hg.lt hown,λi hi=>by
       have:=((IF hh i k).1 hi).1
       subst this
       exact ⟨e,s,n,g,rfl,Nat.le_refl _⟩⟩
      obtain ⟨cur',p1,p2,p3⟩:=(g3.pre k (n * s) hsafe).2 cur e (0,0) k1
      refine .inr ⟨k,cap,cur',rfl,k0,p1,k2,k3,by rw [p2,k4],?_⟩
      rw [<- k5]
      apply List.ext_getElem?
      intro j
      rw [List.getElem?_take,List.getElem?_take]
      split
      ·rename_i hj
       rw [Array.getElem?_toList,Array.getElem?_toList]
       exact p3 j hj
      ·rfl
    have hgood:=hg.back (g':=g) hh g3.size hkeep hB
    have hext:=Ext.back (S:=S) (g':=g) hg hh g3.os g3.tape g3.output g3.size hkeep hB
    rw [hset] at hgood hext
    exact ⟨u,κ,S,rfl,hgood,Nd g2',hext,λ_ _ h=>h⟩
   ·cases he
  ·cases he
 ·rename_i id i vs'
  split at he
  ·rename_i j hh
   split at he
   ·rename_i h1 h2
    obtain rfl:=Nat.eq_of_beq_eq_true h1
    obtain rfl:=Nat.eq_of_beq_eq_true h2
    obtain ⟨hl,he⟩:=Ad he
    obtain ⟨u0,q1,q2⟩:=An he
    have q2:=Ac q2
    simp only [Prod.mk.injEq] at q2
    obtain ⟨rfl,rfl⟩:=q2
    obtain ⟨hfr,Γ,rfl,hΓ,hΛ,h1',he'⟩:=H (j.len i) (j.mem i) vs' u0 q1
    obtain ⟨c0,cs',rfl,⟨o,ms,hk,hm0,hsl⟩,hvs⟩:=hv
    have hv1:VRs S w (.ref 0 :: vs') (X5 c0) (c0 :: cs'):=⟨c0,cs',rfl,⟨rfl,.inl hsl⟩,Dr vs' cs' hfr hvs⟩
    have hg1:=hg.oneM (lk:=true) hh hk hm0 hl λ_ _=>rfl
    refine .inl ⟨⟨fn,hf,hn,by rw [hb]; rfl⟩,(GB (P:=P) hτ hm hΓ hΛ hf hb hg1 hE hv1 he').mono ?_⟩
    rintro en w' ⟨u,κ',S',rfl,g1,g2',g3⟩
    have hkeep:∀ b,b < w.heap.size->¬ Ay (some c0) = some b->w'.heap[b]? = w.heap[b]?:=λb hb hne=>g3.keep b hb λi hi=>hne ((G3 i b).1 hi).2
    have hS:∀ b,S b->S b ∧ w'.heap[b]? = w.heap[b]?:=λb hb=>⟨hb,hkeep b (hg.out b hb).1 λq=>(hg.out b hb).2 id (Ki hh hk hm0 b q)⟩
    have hset:h.set id (.jag { j with mem:=BX j.mem i (j.mem i) }) = h:=by
     have hl:=(List.getElem?_eq_some_iff.1 hh).1
     have:=(List.getElem?_eq_some_iff.1 hh).2
     have e:BX j.mem i (j.mem i) = j.mem:=by
      funext k
      by_cases hki:k = i
      ·rw [hki,Fm]
      ·rw [I6 hki]
     rw [e]
     show h.set id (.jag j) = h
     rw [<- this,List.set_getElem_self]
    obtain ⟨r0,cc,xs,r1,r2,r3⟩:=hg1.blk 0 _ rfl
    cases r1
    have hB:=M2 (w':=w') (g':=j.mem i) (ys:=xs) hg hh hk hm0 hl hkeep ⟨r2.1,by
     rcases r2.2 with hnil | ⟨k,cap,cur,rfl,k0,k1,k2,k3,k4,k5⟩
     ·exact .inl hnil
     ·have hown:AH κ h id k:=Ki hh hk hm0 k rfl
      have hsafe:VA (X5 (.slice (some ⟨k,0,none⟩) (j.len i) cap)) [.xrow true j.e' j.s' (j.len i) (j.mem i)] w k (j.len i * j.s'):=⟨hg.lt hown,λq hq=>by
       have:=((G3 q k).1 hq).1
       subst this
       exact ⟨_,_,_,_,rfl,Nat.le_refl _⟩⟩
      obtain ⟨cur',p1,p2,p3⟩:=(g3.pre k (j.len i * j.s') hsafe).2 cur j.e' (0,0) k1
      refine .inr ⟨k,cap,cur',rfl,k0,p1,k2,k3,by rw [p2,k4],?_⟩
      rw [<- k5]
      apply List.ext_getElem?
      intro q
      rw [List.getElem?_take,List.getElem?_take]
      split
      ·rename_i hq
       rw [Array.getElem?_toList,Array.getElem?_toList]
       exact p3 q hq
      ·rfl⟩ (r3.mono hS)
    have hgood:=hg.backM hh hk hm0 g3.size hkeep hB
    have hext:=Ext.backM (S:=S) hg hh hk hm0 g3.os g3.tape g3.output g3.size hkeep hB
    rw [hset] at hgood hext
    exact ⟨u,κ,S,rfl,hgood,Nd g2',hext,λ_ _ h=>h⟩
   ·cases he
  ·cases he
 ·cases he
end
end Go.Sy
namespace Go.Sy
def EP:List (List UInt8 × List UInt8)->List (List UInt8)
 | []=>[]
 | z :: zs=>z.1 :: z.2 :: EP zs
theorem UF (zs:List (List UInt8 × List UInt8)):(EP zs).length = 2 * zs.length:=by
 induction zs with
 | nil=>rfl
 | cons z zs ih=>simp only [EP,List.length_cons,ih]; omega
theorem PA:∀ (zs:List (List UInt8 × List UInt8)) (i:Nat),(EP zs)[2 * i]? = zs[i]?.map (·.1) ∧ (EP zs)[2 * i+1]? = zs[i]?.map (·.2)
 | [],i=>by simp [EP]
 | z :: zs,0=>by simp [EP]
 | z :: zs,i+1=>by
  have:=PA zs i
  rw [EP,show 2 * (i+1) = 2 * i+1+1 by omega]
  simpa using this
theorem SE {H:Type} {enc:TypeId × Value->H} {P:Program} {w:World} {base:Nat} {sp:Nat->Bool} {held:Bool} {fuel:Nat} {t e:TypeId} {n:Nat} {cs:List Value} {zs:List (List UInt8 × List UInt8)} {p:List MemPlace} {f0 f1:Field}
  (ht:P.underlying t = some (.array n e)) (he:P.underlying e = some (.struct #[f0,f1])) (h0:P.underlying f0.type = some .string) (h1:P.underlying f1.type = some .string)
  (o0:f0.offset = 0) (o1:f1.offset = 1) (k0:P.cellsOf f0.type = 1) (k1:P.cellsOf f1.type = 1) (hce:P.cellsOf e = 2) (hct:P.cellsOf t = n * 2)
  (h:DataW.trod enc P w base sp held fuel t cs = some (.agg (zs.map λz=>.agg [.lit (.string z.1),.lit (.string z.2)]),p)):cs = (EP zs).map λz=>Value.string ⟨z.toArray⟩:=by
 cases fuel with
 | zero=>simp [DataW.trod] at h
 | succ fuel =>
  simp only [DataW.trod,ht,hce,hct] at h
  split at h
  ·rename_i hl
   obtain ⟨xs,hm,hx⟩:=Option.map_eq_some_iff.1 h
   have hxs:xs.map (·.1) = zs.map λz=>(DataW.agg [.lit (.string z.1),.lit (.string z.2)]:DataW H):=by
    have:=congrArg Prod.fst hx
    simpa using this
   have hxl:xs.length = n:=by simpa using Lib.mapM_length hm
   have hzl:zs.length = n:=by
    have:=congrArg List.length hxs
    simp at this
    omega
   have hcl:cs.length = n * 2:=by simpa using hl
   have key:∀ i,i < n->∃ z,zs[i]? = some z ∧ cs[2 * i]? = some (.string ⟨z.1.toArray⟩) ∧ cs[2 * i+1]? = some (.string ⟨z.2.toArray⟩):=λi hi=>by
    obtain ⟨b,hb,hf⟩:=Lib.mapM_at hm i i (by simp [hi])
    obtain ⟨y0,y1,m,hy,_,hf0,hf1⟩:=Go.ChangeShapes.trod_struct2 he hf
    rw [o0,k0] at hf0
    rw [o1,k1] at hf1
    obtain ⟨s0,c0,e0,_⟩:=DataW.trod_string h0 hf0
    obtain ⟨s1,c1,e1,_⟩:=DataW.trod_string h1 hf1
    have h2:(xs.map (·.1))[i]? = some b.1:=by simp [hb]
    rw [hxs] at h2
    simp only [List.getElem?_map,Option.map_eq_some_iff] at h2
    obtain ⟨z,hz,hzb⟩:=h2
    rw [hy,e0,e1] at hzb
    simp only [DataW.agg.injEq,List.cons.injEq,DataW.lit.injEq,Lit.string.injEq,and_true] at hzb
    refine ⟨z,hz,?_,?_⟩
    ·have:=congrArg (·[0]?) c0
     rw [hzb.1]
     simpa [List.getElem?_take,List.getElem?_drop,Nat.mul_comm] using this
    ·have:=congrArg (·[0]?) c1
     rw [hzb.2]
     simpa [List.getElem?_take,List.getElem?_drop,Nat.mul_comm] using this
   apply List.ext_getElem?
   intro j
   by_cases hj:j < n * 2
   ·obtain ⟨z,q1,q2,q3⟩:=key (j / 2) (by omega)
    have hp:=PA zs (j / 2)
    rcases Nat.mod_two_eq_zero_or_one j with hr | hr
    ·rw [show j = 2 * (j / 2) by omega,q2,List.getElem?_map,hp.1,q1]
     rfl
    ·rw [show j = 2 * (j / 2)+1 by omega,q3,List.getElem?_map,hp.2,q1]
     rfl
   ·rw [List.getElem?_eq_none (by omega),List.getElem?_eq_none (by rw [List.length_map,UF]; omega)]
  ·cases h
theorem pairs_ok {P:Program} {W:World} {name:String} {zs:List (List UInt8 × List UInt8)} {g:Nat} {t e:TypeId} {n:Nat} {ps:List MemPlace} {rest:List (String × DataW Unit)} {f0 f1:Field}
  (hg:P.globalNamed name = some g) (hty:(P.globals[g]?).map (·.type) = some t) (ht:P.underlying t = some (.array n e)) (he:P.underlying e = some (.struct #[f0,f1])) (h0:P.underlying f0.type = some .string) (h1:P.underlying f1.type = some .string)
  (o0:f0.offset = 0) (o1:f1.offset = 1) (k0:P.cellsOf f0.type = 1) (k1:P.cellsOf f1.type = 1) (hce:P.cellsOf e = 2) (hct:P.cellsOf t = n * 2)
  (h:DataW.LaidVars P W ((name,.agg (zs.map λz=>.agg [.lit (.string z.1),.lit (.string z.2)])) :: rest) ps) :
  VR (Lh W) W (Y6 (EP zs)) noK (.pointer (some ⟨g,0,none⟩)) ∧ ∃ qs,DataW.LaidVars P W rest qs:=by
 obtain ⟨g',t',cs,fuel,p,q,hg',ht',hvar,hd,hr,_⟩:=h
 obtain rfl:=Option.some.inj (hg.symm.trans hg')
 obtain rfl:=Option.some.inj (hty.symm.trans ht')
 have hcs:=SE ht he h0 h1 o0 o1 k0 k1 hce hct hd
 refine ⟨⟨g,0,.agg ((EP zs).map λz=>Value.string ⟨z.toArray⟩).toArray,rfl,⟨_,rfl,LZ _⟩,λj u hj=>?_⟩,q,hr⟩
 have hj:((EP zs).map λz=>Value.string ⟨z.toArray⟩)[j]? = some u:=by
  simpa only [Value.cells] using hj
 have h1:=World.var?_cell hg hvar j
 have h2:cs[j]? = some u:=by
  rw [<- Array.getElem?_toList,hcs]
  exact hj
 rw [h2] at h1
 rw [Nat.zero_add]
 exact ⟨Na h1,h1⟩
end Go.Sy
