/-
  Callees that write a row of the caller's, and callees that append to it: what the caller's own memory is behind them. Conditions: as before.
-/
import Derived.Test.YtkgdhhieomndeaaGreatDoorSyS
import Derived.ChangeSame
import Derived.Test.YtkgdhhieomndeaaGreatDoorSyA
import Derived.Test.YtkgdhhieomndeaaGreatDoorProg
import Derived.KernelRfl
import Derived.Test.YtkgdhhieomndeaaGreatDoorRows
namespace Go.Sy
def Ze (P:Program) (G:Nat->V) (f:FuncId) (M:List V->List Blk->AE):Prop :=
 ∀ vs cs κ S h w v h',Good κ S h w->Tm G S w->VRs S w vs κ cs->(M vs h).sem=some (v,h') ->
  LI P f cs w λe w'=>∃ c κ' S',e = .returned c∧Good κ' S' (after h h') w'∧VR S' w' v κ' c∧Ext κ S h w κ' S' (after h h') w'∧Zf κ κ' w w' h'
def Kq (P:Program) (G:Nat->V) (mt:List (Nat×(List V->List Blk->AE))):Prop:=∀ p,p ∈ mt->Ze P G p.1 p.2
theorem Kq.nil {P:Program} {G:Nat->V}:Kq P G []:=λ_ h=>by cases h
theorem Kq.cons {P:Program} {G:Nat->V} {f:Nat} {M:List V->List Blk->AE} {mt:List (Nat×(List V->List Blk->AE))} (h:Ze P G f M) (ht:Kq P G mt):Kq P G ((f,M)::mt):=λp hp=>by
 rcases List.mem_cons.1 hp with rfl | hp
 ·exact h
 ·exact ht p hp
def Ng (mt:List (Nat×(List V->List Blk->AE))) (tbl:AK) (f:FuncId) (vs:List V) (st:St):T (V×Res) :=
 match JK f mt with
 | some M=>AbW (M vs st.h)
 | none=>Am tbl f vs st
theorem AdE {P:Program} {Γ:Cx0} {mt:List (Nat×(List V->List Blk->AE))} {tbl:AK} (hc:Γ.call=Ng mt tbl) (hm:Kq P Γ.glob mt) (ht:Aq P Γ.glob tbl):Bv P Γ:=by
 intro f vs cs κ S st l w v r hg hE hv htt he;rw [hc] at he;unfold Ng at he;split at he
 ·rename_i M hM
  obtain ⟨l2,rfl,he2⟩:=O7 he;exact hm _ (HJ hM) vs cs κ S st.h w v l2 hg hE hv he2
 ·exact D5 (Γ:=⟨Am tbl,Γ.glob⟩) rfl ht f vs cs κ S st l w v r hg hE hv htt he
section
variable {S:Nat->Prop} {w w':World} {κ:A2} {h:List Blk}
def Aff (κ:A2) (id:Nat):A2:=λi=>if i=0 then κ id else none
theorem N3 {lk:Bool} {id e s n:Nat} {g g':Nat->V} (hh:h[id]? = some (.row e s n g)) (i b:Nat):AU (Aff κ id) [.xrow lk e s n g'] i b↔i=0∧AU κ h id b:=by
 rw [A8 hh];constructor
 ·rintro ⟨bl,h1,h2⟩
  cases i with
  | zero =>simp at h1;subst h1;exact ⟨rfl,h2⟩
  | succ i=>simp at h1
 ·rintro ⟨rfl,h1⟩
  exact ⟨_,rfl,h1⟩
theorem Good.one {lk:Bool} {id e s n:Nat} {g g0:Nat->V} (hg:Good κ S h w) (hh:h[id]? = some (.row e s n g)) (h0:∀ i,i<n->g0 i=g i):Good (Aff κ id) S [.xrow lk e s n g0] w:=by
 refine ⟨λi b hi=>?_,λi j k hij hi hj=>?_,λb hb=>⟨(hg.out b hb).1,λi hi=>?_⟩,λi hi=>?_⟩
 ·cases i with
  | zero =>simp at hi;subst hi;obtain ⟨r0,cc,xs,r1,r2,r3⟩:=hg.blk id _ hh;exact ⟨r0,cc,xs,r1,r2,λi hi=>by rw [h0 i hi]; exact r3 i hi⟩
  | succ i=>simp at hi
 ·have h1:=((N3 hh i k).1 hi).1
  have h2:=((N3 hh j k).1 hj).1;omega
 ·exact (hg.out b hb).2 id ((N3 hh i b).1 hi).2
 ·have hi:1 <= i:=hi
  unfold Aff;rw [if_neg (by omega)]
theorem Good.back {id e s n:Nat} {g g':Nat->V} (hg:Good κ S h w) (hh:h[id]? = some (.row e s n g)) (hsz:w.heap.size <= w'.heap.size)
  (hkeep:∀ b,b<w.heap.size->¬ AU κ h id b->w'.heap[b]? = w.heap[b]?) (hB:Be S w' κ (κ id) (.row e s n g')):Good κ S (h.set id (.row e s n g')) w' :=
 (hg.upd' (b':=.row e s n g') hh (λ_ hk=>hk) (λk hk hlt=>hkeep k hlt λq=>hk ((A8 hh).1 q)) hsz hB).1
theorem Ext.back {id e s n:Nat} {g g':Nat->V} (hg:Good κ S h w) (hh:h[id]? = some (.row e s n g)) (hos:w'.os=w.os) (htape:w'.tape=w.tape) (hout:w'.output=w.output) (hsz:w.heap.size <= w'.heap.size)
  (hkeep:∀ b,b<w.heap.size->¬ AU κ h id b->w'.heap[b]? = w.heap[b]?) (hB:Be S w' κ (κ id) (.row e s n g')):Ext κ S h w κ S (h.set id (.row e s n g')) w' :=
 Ext.upd' hg hh rfl (λk hk hlt=>hkeep k hlt λq=>hk ((A8 hh).1 q)) hsz hos htape hout
  (hg.upd' (b':=.row e s n g') hh (λ_ hk=>hk) (λk hk hlt=>hkeep k hlt λq=>hk ((A8 hh).1 q)) hsz hB).2 (λ_ _ _ _ h=>by cases h) (λhf=>absurd hf (notFixed (b:=.row e s n g') trivial (λ_ _ _ _ h=>by cases h)))
end
def Afe (m:Value):A2:=λi=>if i=0 then some m else none
section
variable {S:Nat->Prop} {w w':World} {κ:A2} {h:List Blk} {id i:Nat} {j:Jag} {c m:Value} {ms:Array Value}
theorem K9 {lk:Bool} {e s n:Nat} {g:Nat->V} (q b:Nat):AU (Afe m) [.xrow lk e s n g] q b↔q=0∧A1 (some m)=some b:=by
 constructor
 ·rintro ⟨bl,h1,h2⟩
  cases q with
  | zero =>simp at h1;subst h1;exact ⟨rfl,h2⟩
  | succ q=>simp at h1
 ·rintro ⟨rfl,h1⟩
  exact ⟨_,rfl,h1⟩
theorem RZ (hh:h[id]? = some (.jag j)) (hk:κ id=some (.tuple #[c,.agg ms])) (hm:ms[i]? = some m) (b:Nat) (hb:A1 (some m)=some b):AU κ h id b :=
 (A8 hh).2 (by rw [hk]; exact Cw hm hb)
theorem Good.oneM {lk:Bool} {g0:Nat->V} (hg:Good κ S h w) (hh:h[id]? = some (.jag j)) (hk:κ id=some (.tuple #[c,.agg ms])) (hm:ms[i]? = some m) (hl:j.live i=true) (h0:∀ k,k<j.len i->g0 k=j.mem i k) :
  Good (Afe m) S [.xrow lk j.e' j.s' (j.len i) g0] w:=by
 obtain ⟨c1,ms1,xs,hk1,hj⟩:=CP (st:=⟨[],h⟩) hg hh;rw [hk] at hk1;obtain ⟨rfl,rfl⟩:=Bf hk1;obtain ⟨_,ys,ho,he⟩:=hj.mem hm hl;refine ⟨λq b hq=>?_,λp q k hpq hp hq=>?_,λb hb=>⟨(hg.out b hb).1,λq hq=>?_⟩,λq hq=>?_⟩
 ·cases q with
  | zero =>simp at hq;subst hq;exact ⟨hj.2.1,m,ys,rfl,ho,λk hk=>by rw [h0 k hk]; exact he k hk⟩
  | succ q=>simp at hq
 ·have h1:=((K9 p k).1 hp).1
  have h2:=((K9 q k).1 hq).1;omega
 ·exact (hg.out b hb).2 id (RZ hh hk hm b ((K9 q b).1 hq).2)
 ·have hq:1 <= q:=hq
  unfold Afe;rw [if_neg (by omega)]
theorem UD {g':Nat->V} (hg:Good κ S h w) (hh:h[id]? = some (.jag j)) (hk:κ id=some (.tuple #[c,.agg ms])) (hm:ms[i]? = some m) (hl:j.live i=true)
  (hkeep:∀ b,b<w.heap.size->¬ A1 (some m)=some b->w'.heap[b]? = w.heap[b]?) {ys:List Value} (ho:w'.ownsRow 0 j.e' j.s' m (j.len i) ys) (he:Cr S w' j.s' (j.len i) g' ys) :
  Be S w' κ (κ id) (.jag { j with mem:=Cm j.mem i g' }):=by
 obtain ⟨c1,ms1,xs,hk1,hj⟩:=CP (st:=⟨[],h⟩) hg hh;rw [hk] at hk1;obtain ⟨rfl,rfl⟩:=Bf hk1;obtain ⟨hx,_⟩:=hj.mem hm hl;obtain ⟨g1,g2,g3,g4,g5,g6,g7,g8,g9⟩:=hj;have hS:∀ b,S b->S b∧w'.heap[b]? = w.heap[b]?:=λb hb=>⟨hb,hkeep b (hg.out b hb).1 λhb'=>(hg.out b hb).2 id (RZ hh hk hm b hb')⟩;refine ⟨c,ms,xs,hk,g1,g2,g3,g4,Ck g5 λg hgc=>hkeep g (FR g5 hgc) λhb'=>(g9 i m g hm hb').1 hgc,g6,M9.mono (j:=j) g7 hS,λi' m' hm'=>?_,g9⟩;by_cases hi:i'=i
 ·subst hi
  rw [hm] at hm';cases hm';unfold Gt;show match j.live i' with
   | true=>xs[i' * j.size+j.off]? = some m∧∃ ys,w'.ownsRow 0 j.e' j.s' m (j.len i') ys∧Cr S w' j.s' (j.len i') (Cm j.mem i' g' i') ys
   | false=>m = .slice none 0 0
  rw [hl,F9];exact ⟨hx,ys,ho,he⟩
 ·have:=(g8 i' m' hm').mono hS λg hgc=>hkeep g (hg.lt (RZ hh hk hm' g hgc)) λhb'=>(g9 i m g hm hb').2 i' m' hi hm' hgc
  unfold Gt at this ⊢;show match j.live i' with
   | true=>xs[i' * j.size+j.off]? = some m'∧∃ ys,w'.ownsRow 0 j.e' j.s' m' (j.len i') ys∧Cr S w' j.s' (j.len i') (Cm j.mem i g' i') ys
   | false=>m' = .slice none 0 0
  rw [Jh hi];exact this
theorem Good.backM {j':Jag} (hg:Good κ S h w) (hh:h[id]? = some (.jag j)) (hk:κ id=some (.tuple #[c,.agg ms])) (hm:ms[i]? = some m) (hsz:w.heap.size <= w'.heap.size)
  (hkeep:∀ b,b<w.heap.size->¬ A1 (some m)=some b->w'.heap[b]? = w.heap[b]?) (hB:Be S w' κ (κ id) (.jag j')):Good κ S (h.set id (.jag j')) w' :=
 (hg.upd' (b':=.jag j') hh (λ_ hk=>hk) (λk hkk hlt=>hkeep k hlt λq=>hkk (by rw [hk]; exact Cw hm q)) hsz hB).1
theorem Ext.backM {j':Jag} (hg:Good κ S h w) (hh:h[id]? = some (.jag j)) (hk:κ id=some (.tuple #[c,.agg ms])) (hm:ms[i]? = some m) (hos:w'.os=w.os) (htape:w'.tape=w.tape) (hout:w'.output=w.output) (hsz:w.heap.size <= w'.heap.size)
  (hkeep:∀ b,b<w.heap.size->¬ A1 (some m)=some b->w'.heap[b]? = w.heap[b]?) (hB:Be S w' κ (κ id) (.jag j')):Ext κ S h w κ S (h.set id (.jag j')) w' :=
 have hw:∀ k,¬ inBlk (κ id) k (.jag j)->k<w.heap.size->w'.heap[k]? = w.heap[k]?:=λk hkk hlt=>hkeep k hlt λq=>hkk (by rw [hk]; exact Cw hm q)
 Ext.upd' hg hh rfl hw hsz hos htape hout (hg.upd' (b':=.jag j') hh (λ_ hk=>hk) hw hsz hB).2 (λ_ _ _ _ h=>by cases h) (λhf=>by rcases hf with ⟨_,_,_,_,hf⟩ | ⟨_,hf⟩ <;> cases hf)
end
def Yb (e s:Nat) (F:Nat->(Nat->V)->List V->T (Nat->V)):List V->List Blk->AE
 | .ref id::vs,h=>match h[id]? with
  | some (.row e' s' n g)=>match Nat.beq e e',Nat.beq s s' with
   | true,true=>(F n g vs).bind λg'=>.leaf (.tup [],.dead::h.set id (.row e s n g'))
   | _,_=>.fail
  | _=>.fail
 | .mref id i::vs,h=>match h[id]? with
  | some (.jag j)=>match Nat.beq e j.e',Nat.beq s j.s' with
   | true,true=>.br (j.live i) ((F (j.len i) (j.mem i) vs).bind λg'=>.leaf (.tup [],.dead::h.set id (.jag { j with mem:=Cm j.mem i g' }))) .fail
   | _,_=>.fail
  | _=>.fail
 | _,_=>.fail
theorem YW {S S':Nat->Prop} {w w':World} {κ κ':A2} {c:Value} (h:VR S w (.tup []) κ c):VR S' w' (.tup []) κ' c:=h
section
variable {P:Program} {τ:List Ty} (hτ:TabOK P τ) (hm:P.follows .mixedOrders=true) {G:Nat->V} {f:FuncId} {fn:Func} {e s:Nat}
include hτ hm in
theorem AbY {F:Nat->(Nat->V)->List V->T (Nat->V)} (hf:P.funcs[f]? = some fn) (hb:fn.body.isSome=true) (hn:(fn.name == "runtime.NumGoroutine")=false)
  (H:∀ n g vs g',(F n g vs).sem=some g'->GY.frees vs=true∧(∀ i,i<n->M6 (g' i)=true)∧∃ Γ:Cx,Γ.glob=G∧Bv P Γ.base∧Cd Γ ∧
   ∃ g0 h' g2,(∀ i,i<n->g0 i=g i)∧(Ai τ Γ fn (.ref 0::vs) [.xrow false e s n g0]).sem=some (.tup [],h')∧h'[0]? = some (.xrow false e s n g2)∧∀ i,i<n->g' i=g2 i):Ze P G f (Yb e s F):=by
 intro vs cs κ S h w v h' hg hE hv he;obtain ⟨c,hb⟩:=Option.isSome_iff_exists.1 hb;have hn:fn.name ≠ "runtime.NumGoroutine":=by simpa using hn
 unfold Yb at he;split at he
 ·rename_i id vs'
  split at he
  ·rename_i e' s' n g hh
   split at he
   ·rename_i h1 h2
    obtain rfl:=Nat.eq_of_beq_eq_true h1;obtain rfl:=Nat.eq_of_beq_eq_true h2;obtain ⟨g',q1,q2⟩:=Ah he;have q2:=Ab q2;simp only [Prod.mk.injEq] at q2;obtain ⟨rfl,rfl⟩:=q2;obtain ⟨hfr,hbare,Γ,rfl,hΓ,hΛ,g0,h1',g2,hg0,he',hh',hg2⟩:=H n g vs' g' q1;obtain ⟨c0,cs',rfl,⟨hc0,hsl⟩,hvs⟩:=hv;have hv1:VRs S w (.ref 0::vs') (Aff κ id) (c0::cs'):=⟨c0,cs',rfl,⟨hc0,hsl⟩,E7 vs' cs' hfr hvs⟩;refine .inl ⟨⟨fn,hf,hn,by rw [hb]; rfl⟩,(La (P:=P) hτ hm hΓ hΛ hf hb (hg.one (lk:=false) hh hg0) hE hv1 he').mono ?_⟩
    rintro en w' ⟨u,κ',S',rfl,g1,g2',g3⟩
    have hfix:=g3.fix 0 _ hh' (.inl ⟨_,_,_,_,rfl⟩);have hk0:κ' 0=κ id:=hfix.1;have hkeep:∀ b,b<w.heap.size->¬ AU κ h id b->w'.heap[b]? = w.heap[b]?:=λb hb hne=>g3.keep b hb λi hi=>hne ((N3 hh i b).1 hi).2;have hB:Be S w' κ (κ id) (.row e s n g'):=by
     obtain ⟨r0,cc,xs,r1,r2,r3⟩:=g1.blk 0 _ hh';refine ⟨r0,cc,xs,by rw [<- hk0]; exact r1,r2,λi hi=>?_⟩;obtain ⟨ci,p1,p2,p3,p4⟩:=r3 i hi;exact ⟨ci,Im _ _ _ (hbare i hi) (by rw [hg2 i hi]; exact p1),p2,p3,p4⟩
    exact ⟨u,κ,S,rfl,hg.back hh g3.size hkeep hB,YW g2',Ext.back hg hh g3.os g3.tape g3.output g3.size hkeep hB,λ_ _ h=>h,λh=>nomatch h⟩
   ·cases he
  ·cases he
 ·rename_i id i vs'
  split at he
  ·rename_i j hh
   split at he
   ·rename_i h1 h2
    obtain rfl:=Nat.eq_of_beq_eq_true h1;obtain rfl:=Nat.eq_of_beq_eq_true h2;obtain ⟨hl,he⟩:=Ad he;obtain ⟨g',q1,q2⟩:=Ah he;have q2:=Ab q2;simp only [Prod.mk.injEq] at q2;obtain ⟨rfl,rfl⟩:=q2;obtain ⟨hfr,hbare,Γ,rfl,hΓ,hΛ,g0,h1',g2,hg0,he',hh',hg2⟩:=H (j.len i) (j.mem i) vs' g' q1;obtain ⟨c0,cs',rfl,⟨o,ms,hk,hm0,hsl⟩,hvs⟩:=hv;have hv1:VRs S w (.ref 0::vs') (Afe c0) (c0::cs'):=⟨c0,cs',rfl,⟨rfl,.inl hsl⟩,E7 vs' cs' hfr hvs⟩;refine .inl ⟨⟨fn,hf,hn,by rw [hb]; rfl⟩,(La (P:=P) hτ hm hΓ hΛ hf hb (hg.oneM (lk:=false) hh hk hm0 hl hg0) hE hv1 he').mono ?_⟩
    rintro en w' ⟨u,κ',S',rfl,g1,g2',g3⟩
    have hfix:=g3.fix 0 _ hh' (.inl ⟨_,_,_,_,rfl⟩);have hk0:κ' 0=some c0:=hfix.1;have hkeep:∀ b,b<w.heap.size->¬ A1 (some c0)=some b->w'.heap[b]? = w.heap[b]?:=λb hb hne=>g3.keep b hb λi hi=>hne ((K9 i b).1 hi).2;obtain ⟨r0,cc,xs,r1,r2,r3⟩:=g1.blk 0 _ hh';rw [hk0] at r1;cases r1;have hB:=UD (w':=w') (g':=g') hg hh hk hm0 hl hkeep r2 (λi hi=>by
     obtain ⟨ci,p1,p2,p3,p4⟩:=r3 i hi;exact ⟨ci,Im _ _ _ (hbare i hi) (by rw [hg2 i hi]; exact p1),p2,p3,p4⟩)
    exact ⟨u,κ,S,rfl,hg.backM hh hk hm0 g3.size hkeep hB,YW g2',Ext.backM hg hh hk hm0 g3.os g3.tape g3.output g3.size hkeep hB,λ_ _ h=>h,λh=>nomatch h⟩
   ·cases he
  ·cases he
 ·cases he
include hτ hm in
end
end Go.Sy
namespace Go.Sy
end Go.Sy
namespace Go.Sy
open Go.Proofs
set_option maxRecDepth 100000
def tab:List Ty:=[
 ⟨.other,1,0,.und,false⟩,
 ⟨.other,1,8,.val (.nilFunc),false⟩,
 ⟨.int .i64,1,8,.val (.int .i64 0),false⟩,
 ⟨.int .i64,1,8,.val (.int .i64 0),false⟩,
 ⟨.bool,1,1,.val (.bool false),false⟩,
 ⟨.int .u8,1,1,.val (.int .u8 0),false⟩,
 ⟨.int .u8,1,1,.val (.int .u8 0),false⟩,
 ⟨.st [(0,2),(1,3),(2,4),(3,6)],4,24,.agg [.val (.int .i64 0),.val (.int .i64 0),.val (.bool false),.val (.int .u8 0)],true⟩,
 ⟨.st [(0,2),(1,3),(2,4),(3,6)],4,24,.agg [.val (.int .i64 0),.val (.int .i64 0),.val (.bool false),.val (.int .u8 0)],true⟩,
 ⟨.str,1,16,.str [],false⟩,
 ⟨.str,1,16,.str [],false⟩,
 ⟨.str,1,16,.str [],false⟩,
 ⟨.int .u64,1,8,.val (.int .u64 0),false⟩,
 ⟨.st [(0,9),(1,12)],2,24,.agg [.str [],.val (.int .u64 0)],false⟩,
 ⟨.st [(0,9),(1,12)],2,24,.agg [.str [],.val (.int .u64 0)],false⟩,
 ⟨.other,1,8,.val (.pointer none),false⟩,
 ⟨.other,1,8,.val (.pointer none),false⟩,
 ⟨.other,1,8,.val (.pointer none),false⟩,
 ⟨.st [(0,17)],1,8,.agg [.val (.pointer none)],false⟩,
 ⟨.st [(0,17)],1,8,.agg [.val (.pointer none)],false⟩,
 ⟨.other,1,16,.val (.nilIface),false⟩,
 ⟨.int .i32,1,4,.val (.int .i32 0),false⟩,
 ⟨.sl 92,1,24,.nilS,false⟩,
 ⟨.sl 80,1,24,.nilS,false⟩,
 ⟨.sl 3,1,24,.nilS,false⟩,
 ⟨.sl 24,1,24,.nilS,false⟩,
 ⟨.st [(0,3),(1,22),(2,23),(3,3),(4,3),(5,24),(6,25)],7,120,.agg [.val (.int .i64 0),.nilS,.nilS,.val (.int .i64 0),.val (.int .i64 0),.nilS,.nilS],false⟩,
 ⟨.st [(0,3),(1,22),(2,23),(3,3),(4,3),(5,24),(6,25)],7,120,.agg [.val (.int .i64 0),.nilS,.nilS,.val (.int .i64 0),.val (.int .i64 0),.nilS,.nilS],false⟩,
 ⟨.other,1,8,.val (.nilFunc),false⟩,
 ⟨.sl 55,1,24,.nilS,false⟩,
 ⟨.sl 49,1,24,.nilS,false⟩,
 ⟨.st [(0,3),(1,3),(2,9)],3,32,.agg [.val (.int .i64 0),.val (.int .i64 0),.str []],true⟩,
 ⟨.st [(0,3),(1,3),(2,9)],3,32,.agg [.val (.int .i64 0),.val (.int .i64 0),.str []],true⟩,
 ⟨.sl 35,1,24,.nilS,false⟩,
 ⟨.st [(0,3),(1,32),(4,3),(5,33)],6,72,.agg [.val (.int .i64 0),.val (.int .i64 0),.val (.int .i64 0),.str [],.val (.int .i64 0),.nilS],false⟩,
 ⟨.st [(0,3),(1,32),(4,3),(5,33)],6,72,.agg [.val (.int .i64 0),.val (.int .i64 0),.val (.int .i64 0),.str [],.val (.int .i64 0),.nilS],false⟩,
 ⟨.st [(0,3),(1,35)],7,80,.agg [.val (.int .i64 0),.val (.int .i64 0),.val (.int .i64 0),.val (.int .i64 0),.str [],.val (.int .i64 0),.nilS],false⟩,
 ⟨.st [(0,3),(1,35)],7,80,.agg [.val (.int .i64 0),.val (.int .i64 0),.val (.int .i64 0),.val (.int .i64 0),.str [],.val (.int .i64 0),.nilS],false⟩,
 ⟨.st [(0,3),(1,9),(2,9),(3,29),(4,30),(5,37)],12,168,.agg [.val (.int .i64 0),.str [],.str [],.nilS,.nilS,.val (.int .i64 0),.val (.int .i64 0),.val (.int .i64 0),.val (.int .i64 0),.str [],.val (.int .i64 0),.nilS],false⟩,
 ⟨.st [(0,3),(1,9),(2,9),(3,29),(4,30),(5,37)],12,168,.agg [.val (.int .i64 0),.str [],.str [],.nilS,.nilS,.val (.int .i64 0),.val (.int .i64 0),.val (.int .i64 0),.val (.int .i64 0),.str [],.val (.int .i64 0),.nilS],false⟩,
 ⟨.int .i64,1,8,.val (.int .i64 0),false⟩,
 ⟨.other,1,0,.und,false⟩,
 ⟨.other,1,8,.val (.nilFunc),false⟩,
 ⟨.other,1,8,.val (.nilFunc),false⟩,
 ⟨.other,1,8,.val (.nilFunc),false⟩,
 ⟨.other,1,8,.val (.nilFunc),false⟩,
 ⟨.other,1,8,.val (.nilFunc),false⟩,
 ⟨.other,1,0,.und,false⟩,
 ⟨.other,1,8,.val (.nilFunc),false⟩,
 ⟨.sl 51,1,24,.nilS,false⟩,
 ⟨.st [(0,3),(1,3),(2,3),(3,3),(4,3),(5,9),(6,9),(7,3)],8,80,.agg [.val (.int .i64 0),.val (.int .i64 0),.val (.int .i64 0),.val (.int .i64 0),.val (.int .i64 0),.str [],.str [],.val (.int .i64 0)],true⟩,
 ⟨.st [(0,3),(1,3),(2,3),(3,3),(4,3),(5,9),(6,9),(7,3)],8,80,.agg [.val (.int .i64 0),.val (.int .i64 0),.val (.int .i64 0),.val (.int .i64 0),.val (.int .i64 0),.str [],.str [],.val (.int .i64 0)],true⟩,
 ⟨.st [(0,9),(1,3)],2,24,.agg [.str [],.val (.int .i64 0)],true⟩,
 ⟨.st [(0,9),(1,3)],2,24,.agg [.str [],.val (.int .i64 0)],true⟩,
 ⟨.st [(0,3),(1,3),(2,9),(3,53)],5,56,.agg [.val (.int .i64 0),.val (.int .i64 0),.str [],.str [],.val (.int .i64 0)],true⟩,
 ⟨.st [(0,3),(1,3),(2,9),(3,53)],5,56,.agg [.val (.int .i64 0),.val (.int .i64 0),.str [],.str [],.val (.int .i64 0)],true⟩,
 ⟨.other,1,0,.und,false⟩,
 ⟨.other,1,8,.val (.nilFunc),false⟩,
 ⟨.other,1,8,.val (.nilFunc),false⟩,
 ⟨.other,1,8,.val (.nilFunc),false⟩,
 ⟨.other,1,8,.val (.nilFunc),false⟩,
 ⟨.other,1,8,.val (.nilFunc),false⟩,
 ⟨.other,1,0,.und,false⟩,
 ⟨.other,1,8,.val (.nilFunc),false⟩,
 ⟨.other,1,0,.und,false⟩,
 ⟨.other,1,8,.val (.nilFunc),false⟩,
 ⟨.other,1,0,.und,false⟩,
 ⟨.other,1,8,.val (.nilFunc),false⟩,
 ⟨.other,1,8,.val (.nilFunc),false⟩,
 ⟨.other,1,8,.val (.nilFunc),false⟩,
 ⟨.other,1,0,.und,false⟩,
 ⟨.other,1,8,.val (.nilFunc),false⟩,
 ⟨.other,1,8,.val (.nilFunc),false⟩,
 ⟨.other,1,8,.val (.nilFunc),false⟩,
 ⟨.other,1,8,.val (.nilFunc),false⟩,
 ⟨.other,1,8,.val (.nilFunc),false⟩,
 ⟨.other,1,8,.val (.nilFunc),false⟩,
 ⟨.other,1,8,.val (.nilFunc),false⟩,
 ⟨.other,1,8,.val (.nilFunc),false⟩,
 ⟨.st [(0,3),(1,3),(2,3),(3,3),(4,3)],5,40,.agg [.val (.int .i64 0),.val (.int .i64 0),.val (.int .i64 0),.val (.int .i64 0),.val (.int .i64 0)],true⟩,
 ⟨.st [(0,3),(1,3),(2,3),(3,3),(4,3)],5,40,.agg [.val (.int .i64 0),.val (.int .i64 0),.val (.int .i64 0),.val (.int .i64 0),.val (.int .i64 0)],true⟩,
 ⟨.other,1,0,.und,false⟩,
 ⟨.other,1,8,.val (.nilFunc),false⟩,
 ⟨.other,1,0,.und,false⟩,
 ⟨.other,1,8,.val (.nilFunc),false⟩,
 ⟨.sl 89,1,24,.nilS,false⟩,
 ⟨.st [(0,49)],1,24,.agg [.nilS],false⟩,
 ⟨.st [(0,49)],1,24,.agg [.nilS],false⟩,
 ⟨.st [(0,87),(1,3)],2,32,.agg [.nilS,.val (.int .i64 0)],false⟩,
 ⟨.st [(0,87),(1,3)],2,32,.agg [.nilS,.val (.int .i64 0)],false⟩,
 ⟨.other,1,8,.val (.nilFunc),false⟩,
 ⟨.st [(0,3),(1,4),(2,4),(3,3),(4,3),(5,3)],6,40,.agg [.val (.int .i64 0),.val (.bool false),.val (.bool false),.val (.int .i64 0),.val (.int .i64 0),.val (.int .i64 0)],true⟩,
 ⟨.st [(0,3),(1,4),(2,4),(3,3),(4,3),(5,3)],6,40,.agg [.val (.int .i64 0),.val (.bool false),.val (.bool false),.val (.int .i64 0),.val (.int .i64 0),.val (.int .i64 0)],true⟩,
 ⟨.other,1,8,.val (.nilFunc),false⟩,
 ⟨.other,1,8,.val (.nilFunc),false⟩,
 ⟨.sl 9,1,24,.nilS,false⟩,
 ⟨.other,1,8,.val (.nilFunc),false⟩,
 ⟨.other,1,8,.val (.nilFunc),false⟩,
 ⟨.sl 32,1,24,.nilS,false⟩,
 ⟨.other,1,0,.und,false⟩,
 ⟨.other,1,8,.val (.nilFunc),false⟩,
 ⟨.other,1,8,.val (.nilFunc),false⟩,
 ⟨.other,1,8,.val (.nilFunc),false⟩,
 ⟨.other,1,8,.val (.nilFunc),false⟩,
 ⟨.other,1,0,.und,false⟩,
 ⟨.other,1,8,.val (.nilFunc),false⟩,
 ⟨.other,1,0,.und,false⟩,
 ⟨.other,1,8,.val (.nilFunc),false⟩,
 ⟨.other,1,8,.val (.nilFunc),false⟩,
 ⟨.other,1,8,.val (.nilFunc),false⟩,
 ⟨.other,1,8,.val (.pointer none),false⟩,
 ⟨.other,1,8,.val (.nilFunc),false⟩,
 ⟨.other,1,0,.und,false⟩,
 ⟨.other,1,8,.val (.nilFunc),false⟩,
 ⟨.other,1,8,.val (.nilFunc),false⟩,
 ⟨.other,1,8,.val (.pointer none),false⟩,
 ⟨.sl 5,1,24,.nilS,false⟩,
 ⟨.st [(0,115),(1,116)],2,32,.agg [.val (.pointer none),.nilS],false⟩,
 ⟨.st [(0,115),(1,116)],2,32,.agg [.val (.pointer none),.nilS],false⟩,
 ⟨.other,1,8,.val (.nilFunc),false⟩,
 ⟨.other,1,16,.val (.nilIface),false⟩,
 ⟨.other,1,16,.val (.nilIface),false⟩,
 ⟨.other,1,0,.und,false⟩,
 ⟨.other,1,8,.val (.nilFunc),false⟩,
 ⟨.other,1,8,.val (.nilFunc),false⟩,
 ⟨.other,1,8,.val (.nilFunc),false⟩,
 ⟨.other,1,8,.val (.nilFunc),false⟩,
 ⟨.other,1,0,.und,false⟩,
 ⟨.other,1,8,.val (.nilFunc),false⟩,
 ⟨.other,1,8,.val (.nilFunc),false⟩,
 ⟨.other,1,8,.val (.nilFunc),false⟩,
 ⟨.other,1,8,.val (.nilFunc),false⟩,
 ⟨.other,1,0,.und,false⟩,
 ⟨.other,1,8,.val (.nilFunc),false⟩,
 ⟨.other,1,8,.val (.nilFunc),false⟩,
 ⟨.other,1,8,.val (.nilFunc),false⟩,
 ⟨.other,1,8,.val (.nilFunc),false⟩,
 ⟨.other,1,8,.val (.nilFunc),false⟩,
 ⟨.other,1,8,.val (.nilFunc),false⟩,
 ⟨.imap 3,1,8,.val (.map none),false⟩,
 ⟨.other,1,8,.val (.nilFunc),false⟩,
 ⟨.other,1,8,.val (.pointer none),false⟩,
 ⟨.other,1,8,.val (.nilFunc),false⟩,
 ⟨.other,1,8,.val (.nilFunc),false⟩,
 ⟨.other,1,8,.val (.pointer none),false⟩,
 ⟨.other,1,8,.val (.nilFunc),false⟩,
 ⟨.arr 6 9,6,96,.agg [.str [],.str [],.str [],.str [],.str [],.str []],true⟩,
 ⟨.arr 10 9,10,160,.agg [.str [],.str [],.str [],.str [],.str [],.str [],.str [],.str [],.str [],.str []],true⟩,
 ⟨.arr 9 9,9,144,.agg [.str [],.str [],.str [],.str [],.str [],.str [],.str [],.str [],.str []],true⟩,
 ⟨.arr 4 9,4,64,.agg [.str [],.str [],.str [],.str []],true⟩,
 ⟨.other,1,8,.val (.pointer none),false⟩,
 ⟨.other,1,8,.val (.nilFunc),false⟩,
 ⟨.other,1,8,.val (.nilFunc),false⟩,
 ⟨.other,1,8,.val (.nilFunc),false⟩,
 ⟨.other,1,8,.val (.nilFunc),false⟩,
 ⟨.other,1,8,.val (.nilFunc),false⟩,
 ⟨.sl 4,1,24,.nilS,false⟩,
 ⟨.other,1,8,.val (.nilFunc),false⟩,
 ⟨.other,1,8,.val (.nilFunc),false⟩,
 ⟨.other,1,0,.und,false⟩,
 ⟨.other,1,8,.val (.nilFunc),false⟩,
 ⟨.other,1,8,.val (.nilFunc),false⟩,
 ⟨.other,1,8,.val (.pointer none),false⟩,
 ⟨.other,1,8,.val (.nilFunc),false⟩,
 ⟨.other,1,8,.val (.nilFunc),false⟩,
 ⟨.other,1,8,.val (.nilFunc),false⟩,
 ⟨.st [(0,17),(1,17),(2,17),(3,9)],4,40,.agg [.val (.pointer none),.val (.pointer none),.val (.pointer none),.str []],false⟩,
 ⟨.st [(0,17),(1,17),(2,17),(3,9)],4,40,.agg [.val (.pointer none),.val (.pointer none),.val (.pointer none),.str []],false⟩,
 ⟨.arr 0 16,0,0,.agg [],false⟩,
 ⟨.st [(0,168)],0,0,.agg [],false⟩,
 ⟨.st [(0,168)],0,0,.agg [],false⟩,
 ⟨.other,1,8,.val (.nilFunc),false⟩,
 ⟨.int .u32,1,4,.val (.int .u32 0),false⟩,
 ⟨.int .u8,1,1,.val (.int .u8 0),false⟩,
 ⟨.int .u8,1,1,.val (.int .u8 0),false⟩,
 ⟨.other,1,8,.val (.nilFunc),false⟩,
 ⟨.int .i32,1,4,.val (.int .i32 0),false⟩,
 ⟨.int .i32,1,4,.val (.int .i32 0),false⟩,
 ⟨.st [(0,12),(1,12),(2,172),(3,173),(4,5),(5,5),(6,174),(7,175),(8,150),(9,176),(10,177)],11,48,.agg [.val (.int .u64 0),.val (.int .u64 0),.val (.int .u32 0),.val (.int .u8 0),.val (.int .u8 0),.val (.int .u8 0),.val (.int .u8 0),.val (.nilFunc),.val (.pointer none),.val (.int .i32 0),.val (.int .i32 0)],false⟩,
 ⟨.st [(0,12),(1,12),(2,172),(3,173),(4,5),(5,5),(6,174),(7,175),(8,150),(9,176),(10,177)],11,48,.agg [.val (.int .u64 0),.val (.int .u64 0),.val (.int .u32 0),.val (.int .u8 0),.val (.int .u8 0),.val (.int .u8 0),.val (.int .u8 0),.val (.nilFunc),.val (.pointer none),.val (.int .i32 0),.val (.int .i32 0)],false⟩]
def RB (P:Program):Nat->Nat->List (Option Ty)
 | 0,_=>[]
 | n+1,k=>AaC P k::RB P n (Nat.succ k)
def XD:List Ty->List (Option Ty)
 | []=>[]
 | t::l=>some t::XD l
theorem Ai9:RB Tryz.prog 180 0=XD tab:=by kernel_rfl
theorem TV (P:Program):∀ (n k j:Nat),j<n->(RB P n k)[j]? = some (AaC P (k+j))
 | 0,_,_,h=>absurd h (Nat.not_lt_zero _)
 | n+1,k,0,_=>rfl
 | n+1,k,j+1,h=>by
  have:=TV P n (Nat.succ k) j (Nat.lt_of_succ_lt_succ h);simp only [RB,List.getElem?_cons_succ,this];rw [show Nat.succ k+j=k+(j+1) by omega]
theorem Ql:∀ (l:List Ty) (j:Nat) (t:Ty),l[j]? = some t->(XD l)[j]? = some (some t)∧j<l.length
 | [],_,_,h=>by simp at h
 | a::l,0,t,h=>by simp at h; subst h; exact ⟨rfl,by simp⟩
 | a::l,j+1,t,h=>by
  have:=Ql l j t (by simpa using h);exact ⟨by simpa [XD] using this.1,by simp; exact this.2⟩
theorem AeB:tab.length=180:=by kernel_rfl
theorem Ai8 (j:Nat) (t:Ty) (h:tab[j]? = some t):AaC Tryz.prog j=some t:=by
 obtain ⟨h1,h2⟩:=Ql tab j t h;rw [AeB] at h2;rw [<- Ai9,TV _ _ _ _ h2] at h1;simpa using h1
end Go.Sy
namespace Go.Proofs.YtkgdhhieomndeaaGreatDoor.Ed
open Go.Sy
def SO:List (List UInt8):=[[82,102,101],[82,102,105],[70,114,101],[70,114,105],[67,111,101],[67,111,105]]
def YB:List (List UInt8):=[[82,82],[82,87],[87,82],[87,87]]
def XE:List (List UInt8):=[[114,46,114],[114,46,119],[114,46,114,119],[119,46,114],[119,46,119],[119,46,114,119],[114,119,46,114],[114,119,46,119],[114,119,46,114,119]]
def YL:List (List UInt8):=[[68,112,65,100,100,114,100,82],[68,112,65,100,100,114,100,87],[68,112,65,100,100,114,115,82],[68,112,65,100,100,114,115,87],[68,112,68,97,116,97,100,87],
 [68,112,68,97,116,97,115,87],[68,112,67,116,114,108,100,82],[68,112,67,116,114,108,100,87],[68,112,67,116,114,108,115,82],[68,112,67,116,114,108,115,87]]
def Gl:Nat->V:=Anx [(0,NU SO),(1,NU YL),(2,NU XE),(3,NU YB)]
theorem mixed:Tryz.prog.follows .mixedOrders=true:=by kernel_rfl
theorem A7:TabOK Tryz.prog tab:=⟨Ai8,Aek⟩
end Go.Proofs.YtkgdhhieomndeaaGreatDoor.Ed
namespace Go.Proofs.YtkgdhhieomndeaaGreatDoor.Ed
open Go.Sy
structure E6 where
 kind:Int
 ext:Bool
 same:Bool
 src:Int
 dst:Int
 fence:Int
 deriving DecidableEq
def eV (e:E6):V:=.agg [iV e.kind,bV e.ext,bV e.same,iV e.src,iV e.dst,iV e.fence]
def toE:V->Option E6
 | .agg [a,b,c,d,e,f]=>match gI a,gB b,gB c,gI d,gI e,gI f with
  | some a,some b,some c,some d,some e,some f=>some ⟨a,b,c,d,e,f⟩
  | _,_,_,_,_,_=>none
 | _=>none
theorem NT {v:V} {e:E6} (h:toE v=some e):v=eV e:=by
 unfold toE at h;split at h
 ·split at h
  ·rename_i h1 h2 h3 h4 h5 h6
   simp only [Option.some.injEq] at h;subst h;rw [G6 h1,S6 h2,S6 h3,G6 h4,G6 h5,G6 h6];rfl
  ·cases h
 ·cases h
def eqE (a b:E6):Bool:=Ao (ieq a.kind b.kind) (Ao (Kk a.ext b.ext) (Ao (Kk a.same b.same) (Ao (ieq a.src b.src) (Ao (ieq a.dst b.dst) (Ao (ieq a.fence b.fence) true)))))
theorem Jw (a b:E6):eqE a b=true↔a=b:=by
 cases a; cases b;simp [eqE,Ao,ieq,Kk]
theorem AcW (a b:E6):eqE a b=eqE b a:=by
 rw [Bool.eq_iff_iff,Jw,Jw];exact eq_comm
def Dv (c:Nat):E6 :=
 if c<6 then ⟨c / 2+1,c % 2 == 0,false,if c / 2 == 1 then 1 else 2,if c / 2 == 0 then 1 else 2,0⟩
 else if c<102 then ⟨if (c-6) / 8 == 0 then 4 else 5,false,decide (4 <= (c-6) % 8),1+((c-6) % 4 / 2:Nat),1+((c-6) % 2:Nat),((c-6) / 8:Nat)⟩
 else if c<106 then ⟨6,false,decide (2 <= c-102),1,1+((c-102) % 2:Nat),0⟩
 else if c<108 then ⟨7,false,c-102 == 5,1,2,0⟩
 else ⟨8,false,decide (8 <= c-102),1,1+((c-102) % 2:Nat),0⟩
def ES:E6:=⟨0,false,false,0,0,0⟩
def inR (n:Int):Bool:=decide (0 <= n) && decide (n<112)
theorem U6 {n:Int} (h:inR n=true):∃ k:Nat,n=(k:Int)∧k<112:=by
 simp [inR] at h;exact ⟨n.toNat,by omega,by omega⟩
theorem AcD {n:Int} (h:inR n=false):n<0 ∨ 0 <= n∧112 <= n:=by
 simp [inR] at h;omega
def cx0:Cx:=AA Gl [] []
noncomputable def Aoo:List V->AE:=λvs=>Ay (Ai tab cx0 Tryz.f93 vs [])
theorem Ap1:Ax Tryz.prog Gl 93 Aoo:=AM A7 mixed Tryz.func93 (by kernel_rfl) (by kernel_rfl) (AH Aq.nil _)
noncomputable def AkJ:List V->AE:=λvs=>Ay (Ai tab cx0 Tryz.f61 vs [])
theorem Ap2:Ax Tryz.prog Gl 61 AkJ:=AM A7 mixed Tryz.func61 (by kernel_rfl) (by kernel_rfl) (AH Aq.nil _)
noncomputable def AhT:List V->AE:=λvs=>Ay (Ai tab cx0 Tryz.f104 vs [])
theorem p74:Ax Tryz.prog Gl 104 AhT:=AM A7 mixed Tryz.func104 (by kernel_rfl) (by kernel_rfl) (AH Aq.nil _)
noncomputable def AdZ:List V->AE:=λvs=>Ay (Ai tab cx0 Tryz.f105 vs [])
theorem p75:Ax Tryz.prog Gl 105 AdZ:=AM A7 mixed Tryz.func105 (by kernel_rfl) (by kernel_rfl) (AH Aq.nil _)
noncomputable def Aop:List V->AE:=λvs=>Ay (Ai tab cx0 Tryz.f106 vs [])
theorem p76:Ax Tryz.prog Gl 106 Aop:=AM A7 mixed Tryz.func106 (by kernel_rfl) (by kernel_rfl) (AH Aq.nil _)
noncomputable def tb0:AK:=(104,AhT)::(105,AdZ)::(106,Aop)::[]
theorem CS:Aq Tryz.prog Gl tb0:=.cons p74 <| .cons p75 <| .cons p76 .nil
noncomputable def Ak2:Cx:=AA Gl tb0 []
def IB (c:Nat):List UInt8 :=
 if c<6 then SO.getD c []
 else if 102 <= c then YL.getD (c-102) []
 else (if (c-6) / 8=0 then [80,111] else if (c-6) / 8=1 then [77,70,101,110,99,101] else if (c-6) / 8=2 then [70,101,110,99,101,46,116,115,111]
  else [70,101,110,99,101,46]++XE.getD ((c-6) / 8-3) [])++((if 4 <= (c-6) % 8 then [115] else [100])++YB.getD ((c-6) % 4) [])
end Go.Proofs.YtkgdhhieomndeaaGreatDoor.Ed
namespace Go.Proofs.YtkgdhhieomndeaaGreatDoor.Ed
open Go.Sy
theorem AjW:(List.range 112).map (λk:Nat=>(Ay (Ai tab cx0 Tryz.f93 [nV k] [])).sem)=(List.range 112).map λk=>some (eV (Dv k),[]):=by kernel_rfl
theorem Afi:(List.range 112).map (λk:Nat=>(Ay (Ai tab cx0 Tryz.f61 [nV k] [])).sem)=(List.range 112).map λk=>some (.str (IB k),[]):=by kernel_rfl
theorem ApG:(List.range 112).map (λk:Nat=>(Ay (Ai tab Ak2 Tryz.f75 [nV k] [])).sem)=(List.range 112).map λk=>some (.tup [eV (Dv k),iV 0],[]):=by kernel_rfl
theorem AmS (n:Int):(Ay (Ai tab Ak2 Tryz.f75 [iV n] [])).path [true,true,true,true]=some ([ilt n 0,ilt n 0,ilt n 0,true],(.tup [eV ES,iV 30],[])):=by kernel_rfl
theorem AmR (n:Int):(Ay (Ai tab Ak2 Tryz.f75 [iV n] [])).path [false,false,false,true]=some ([ilt n 0,ilt n 0,ilt n 0,ile 112 n],(.tup [eV ES,iV 30],[])):=by kernel_rfl
end Go.Proofs.YtkgdhhieomndeaaGreatDoor.Ed
namespace Go.Proofs.YtkgdhhieomndeaaGreatDoor.Ed
open Go.Sy
def codeT (f:Nat->V):List V->AE
 | [v]=>match gI v with
  | some n=>.br (inR n) (.leaf (f n.toNat,[])) .fail
  | none=>.fail
 | _=>.fail
theorem Pr {f:Nat->V} {vs:List V} {r:V×List Blk} (h:(codeT f vs).sem=some r):∃ k:Nat,k<112∧vs=[nV k]∧r=(f k,[]):=by
 unfold codeT at h;split at h
 ·split at h
  ·rename_i v n hn
   obtain ⟨h1,h2⟩:=Ad h;obtain ⟨k,rfl,hk⟩:=U6 h1;exact ⟨k,hk,by rw [G6 hn]; rfl,by rw [Ab h2]; rfl⟩
  ·cases h
 ·cases h
theorem p71:Ax Tryz.prog Gl 93 (codeT λk=>eV (Dv k)):=by
 refine Ap1.congr λvs r h=>?_;obtain ⟨k,hk,rfl,rfl⟩:=Pr h;exact FF AjW k hk
theorem p70:Ax Tryz.prog Gl 61 (codeT λk=>.str (IB k)):=by
 refine Ap2.congr λvs r h=>?_;obtain ⟨k,hk,rfl,rfl⟩:=Pr h;exact FF Afi k hk
def ofT:List V->AE
 | [v]=>match gI v with
  | some n=>.br (inR n) (.leaf (.tup [eV (Dv n.toNat),iV 0],[])) (.leaf (.tup [eV ES,iV 30],[]))
  | none=>.fail
 | _=>.fail
theorem AbT {vs:List V} {r:V×List Blk} (h:(ofT vs).sem=some r):∃ n,vs=[iV n]∧((∃ k:Nat,n=Int.ofNat k∧k<112∧r=(.tup [eV (Dv k),iV 0],[])) ∨ ((n<0 ∨ 0 <= n∧112 <= n)∧r=(.tup [eV ES,iV 30],[]))):=by
 unfold ofT at h;split at h
 ·split at h
  ·rename_i v n hn
   refine ⟨n,by rw [G6 hn],?_⟩;cases hi:inR n with
   | true =>obtain ⟨k,rfl,hk⟩:=U6 hi;simp only [T.sem,hi,sel,cond_true,Option.some.injEq] at h;exact .inl ⟨k,rfl,hk,h.symm⟩
   | false =>simp only [T.sem,hi,sel,cond_false,Option.some.injEq] at h;exact .inr ⟨AcD hi,h.symm⟩
  ·cases h
 ·cases h
theorem Afs {a b:Int} (h:a<b):ilt a b=true:=by simpa [ilt] using h
theorem Aca {a b:Int} (h:b <= a):ilt a b=false:=by simp [ilt]; omega
theorem Yf {a b:Int} (h:a <= b):ile a b=true:=by simpa [ile] using h
theorem p31:Ax Tryz.prog Gl 75 ofT:=by
 refine Ax.congr (AM A7 mixed Tryz.func75 (by kernel_rfl) (by kernel_rfl) (AH CS [])) λvs r h=>?_;obtain ⟨n,rfl,⟨k,rfl,hk,rfl⟩ | ⟨hn,rfl⟩⟩:=AbT h
 ·exact FF ApG k hk
 ·rcases hn with hn | ⟨h0,hn⟩
  ·exact AL (AmS n) (by rw [Afs hn])
  ·exact AL (AmR n) (by rw [Aca h0,Yf hn])
noncomputable def tb1:AK:=(93,codeT λk=>eV (Dv k))::(61,codeT λk=>.str (IB k))::(75,ofT)::[]
theorem VF:Aq Tryz.prog Gl tb1:=.cons p71 <| .cons p70 <| .cons p31 .nil
noncomputable def cx1:Cx:=AA Gl tb1 [(0,⟨[],1,[],1,113⟩)]
def G8 (e:E6):Nat->Nat->Option Nat
 | 0,_=>none
 | m+1,k=>match eqE (Dv k) e with
  | true=>some k
  | false=>G8 e m (Nat.succ k)
def BD (e:E6):Int:=match G8 e 112 0 with
 | some k=>Int.ofNat k
 | none=>0
def Bd (e:E6):Int:=match G8 e 112 0 with
 | some _=>0
 | none=>30
def Pt (e:E6):Nat->Nat->Option (V×List Blk)
 | 0,_=>some (.tup [iV 0,iV 30],[])
 | m+1,k=>sel (eqE (Dv k) e) (some (.tup [nV k,iV 0],[])) (Pt e m (Nat.succ k))
def SQ (e:E6):Nat->Nat->Option (V×List Blk)
 | 0,_=>some (.tup [iV 0,iV 30],[])
 | m+1,k=>sel (eqE e (Dv k)) (some (.tup [nV k,iV 0],[])) (SQ e m (Nat.succ k))
theorem Vm (e:E6):∀ m k,Pt e m k=match G8 e m k with
  | some j=>some (.tup [nV j,iV 0],[])
  | none=>some (.tup [iV 0,iV 30],[])
 | 0,k=>rfl
 | m+1,k=>by
  simp only [Pt,G8];cases h:eqE (Dv k) e with
  | true=>rfl
  | false=>exact Vm e m (Nat.succ k)
theorem QP (e:E6):∀ m k,SQ e m k=Pt e m k
 | 0,_=>rfl
 | m+1,k=>by
  simp only [Pt,SQ,QP e m,AcW e]
theorem QO (e:E6):Pt e 112 0=some (.tup [iV (BD e),iV (Bd e)],[]):=by
 rw [Vm];unfold BD Bd;cases G8 e 112 0 <;> rfl
theorem Ak5 (e:E6):(Ay (Ai tab cx1 Tryz.f60 [eV e] [])).sem=Pt e 112 0:=by kernel_rfl
theorem Ak4 (e:E6):(Ay (Ai tab cx1 Tryz.f98 [eV e] [])).sem=SQ e 112 0:=by kernel_rfl
def BW (f:E6->V):List V->AE
 | [v]=>match toE v with
  | some e=>.leaf (f e,[])
  | none=>.fail
 | _=>.fail
theorem Ci {f:E6->V} {vs:List V} {r:V×List Blk} (h:(BW f vs).sem=some r):∃ e,vs=[eV e]∧r=(f e,[]):=by
 unfold BW at h;split at h
 ·split at h
  ·rename_i v e hn
   exact ⟨e,by rw [NT hn],Ab h⟩
  ·cases h
 ·cases h
def Vn (e:E6):V:=.tup [iV (BD e),iV (Bd e)]
theorem p24:Ax Tryz.prog Gl 60 (BW Vn):=by
 refine Ax.congr (AM A7 mixed Tryz.func60 (by kernel_rfl) (by kernel_rfl) (Γ:=cx1) (AH VF _)) λvs r h=>?_;obtain ⟨e,rfl,rfl⟩:=Ci h;exact (Ak5 e).trans (QO e)
theorem p25:Ax Tryz.prog Gl 98 (BW Vn):=by
 refine Ax.congr (AM A7 mixed Tryz.func98 (by kernel_rfl) (by kernel_rfl) (Γ:=cx1) (AH VF _)) λvs r h=>?_;obtain ⟨e,rfl,rfl⟩:=Ci h;exact (Ak4 e).trans ((QP e 112 0).trans (QO e))
end Go.Proofs.YtkgdhhieomndeaaGreatDoor.Ed
