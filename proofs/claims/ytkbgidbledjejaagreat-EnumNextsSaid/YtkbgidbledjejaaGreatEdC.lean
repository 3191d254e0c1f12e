/-
  Callees that write a row of the caller's, and callees that append to it: what the caller's own memory is behind them. Conditions: as before.
-/
import Derived.Test.YtkbgidbledjejaaGreatSyS
import Derived.ChangeSame
import Derived.Test.YtkbgidbledjejaaGreatSyA
import Derived.Test.YtkbgidbledjejaaGreatProg
import Derived.KernelRfl
import Derived.Test.YtkbgidbledjejaaGreatRows
namespace Go.Sy
def Rw (P:Program) (G:Nat->V) (f:FuncId) (M:List V->List Blk->A2):Prop :=
 ∀ vs cs κ S h w v h',Good κ S h w->MK G S w->VRs S w vs κ cs->(M vs h).sem=some (v,h') ->
  Ou P f cs w λe w'=>∃ c κ' S',e = .returned c∧Good κ' S' (after h h') w'∧VR S' w' v κ' c∧Ext κ S h w κ' S' (after h h') w'∧ZS κ κ' w w' h'
def Lf (P:Program) (G:Nat->V) (mt:List (Nat×(List V->List Blk->A2))):Prop:=∀ p,p ∈ mt->Rw P G p.1 p.2
theorem Lf.nil {P:Program} {G:Nat->V}:Lf P G []:=λ_ h=>by cases h
theorem Lf.cons {P:Program} {G:Nat->V} {f:Nat} {M:List V->List Blk->A2} {mt:List (Nat×(List V->List Blk->A2))} (h:Rw P G f M) (ht:Lf P G mt):Lf P G ((f,M)::mt):=λp hp=>by
 rcases List.mem_cons.1 hp with rfl | hp
 ·exact h
 ·exact ht p hp
def AeH (mt:List (Nat×(List V->List Blk->A2))) (tbl:AH) (f:FuncId) (vs:List V) (st:St):T (V×Res) :=
 match Jb f mt with
 | some M=>Adk (M vs st.h)
 | none=>A6 tbl f vs st
theorem AeG {P:Program} {Γ:Cx0} {mt:List (Nat×(List V->List Blk->A2))} {tbl:AH} (hc:Γ.call=AeH mt tbl) (hm:Lf P Γ.glob mt) (ht:Ao P Γ.glob tbl):Bb P Γ:=by
 intro f vs cs κ S st l w v r hg hE hv htt he;rw [hc] at he;unfold AeH at he;split at he
 ·rename_i M hM
  obtain ⟨l2,rfl,he2⟩:=PV he;exact hm _ (GU hM) vs cs κ S st.h w v l2 hg hE hv he2
 ·exact Ep (Γ:=⟨A6 tbl,Γ.glob⟩) rfl ht f vs cs κ S st l w v r hg hE hv htt he
def YV (e s:Nat) (F:Nat->(Nat->V)->List V->T (Nat->V)):List V->List Blk->A2
 | .ref id::vs,h=>match h[id]? with
  | some (.row e' s' n g)=>match Nat.beq e e',Nat.beq s s' with
   | true,true=>(F n g vs).bind λg'=>.leaf (.tup [],.dead::h.set id (.row e s n g'))
   | _,_=>.fail
  | _=>.fail
 | .mref id i::vs,h=>match h[id]? with
  | some (.jag j)=>match Nat.beq e j.e',Nat.beq s j.s' with
   | true,true=>.br (j.live i) ((F (j.len i) (j.mem i) vs).bind λg'=>.leaf (.tup [],.dead::h.set id (.jag { j with mem:=Dz j.mem i g' }))) .fail
   | _,_=>.fail
  | _=>.fail
 | _,_=>.fail
def SI (e s:Nat) (F:Nat->(Nat->V)->List V->T Unit):List V->List Blk->A2
 | .ref id::vs,h=>match h[id]? with
  | some (.row e' s' n g)=>match Nat.beq e e',Nat.beq s s' with
   | true,true=>(F n g vs).bind λ_=>.leaf (.tup [],.dead::h)
   | _,_=>.fail
  | _=>.fail
 | .mref id i::vs,h=>match h[id]? with
  | some (.jag j)=>match Nat.beq e j.e',Nat.beq s j.s' with
   | true,true=>.br (j.live i) ((F (j.len i) (j.mem i) vs).bind λ_=>.leaf (.tup [],.dead::h)) .fail
   | _,_=>.fail
  | _=>.fail
 | _,_=>.fail
theorem OU {S S':Nat->Prop} {w w':World} {κ κ':Ai} {c:Value} (h:VR S w (.tup []) κ c):VR S' w' (.tup []) κ' c:=h
section
variable {P:Program} {τ:List Ty} (hτ:TabOK P τ) (hm:P.follows .mixedOrders=true) {G:Nat->V} {f:FuncId} {fn:Func} {e s:Nat}
include hτ hm in
theorem Ado {F:Nat->(Nat->V)->List V->T (Nat->V)} (hf:P.funcs[f]? = some fn) (hb:fn.body.isSome=true) (hn:(fn.name == "runtime.NumGoroutine")=false)
  (H:∀ n g vs g',(F n g vs).sem=some g'->free.frees vs=true∧(∀ i,i<n->MC (g' i)=true)∧∃ Γ:Cx,Γ.glob=G∧Bb P Γ.base∧Cb Γ ∧
   ∃ g0 h' g2,(∀ i,i<n->g0 i=g i)∧(Ar τ Γ fn (.ref 0::vs) [.xrow false e s n g0]).sem=some (.tup [],h')∧h'[0]? = some (.xrow false e s n g2)∧∀ i,i<n->g' i=g2 i):Rw P G f (YV e s F):=by
 intro vs cs κ S h w v h' hg hE hv he;obtain ⟨c,hb⟩:=Option.isSome_iff_exists.1 hb;have hn:fn.name ≠ "runtime.NumGoroutine":=by simpa using hn
 unfold YV at he;split at he
 ·rename_i id vs'
  split at he
  ·rename_i e' s' n g hh
   split at he
   ·rename_i h1 h2
    obtain rfl:=Nat.eq_of_beq_eq_true h1;obtain rfl:=Nat.eq_of_beq_eq_true h2;obtain ⟨g',q1,q2⟩:=Ad he;have q2:=Aa q2;simp only [Prod.mk.injEq] at q2;obtain ⟨rfl,rfl⟩:=q2;obtain ⟨hfr,hbare,Γ,rfl,hΓ,hΛ,g0,h1',g2,hg0,he',hh',hg2⟩:=H n g vs' g' q1;obtain ⟨c0,cs',rfl,⟨hc0,hsl⟩,hvs⟩:=hv;have hv1:VRs S w (.ref 0::vs') (Aa0 κ id) (c0::cs'):=⟨c0,cs',rfl,⟨hc0,hsl⟩,Es vs' cs' hfr hvs⟩;refine .inl ⟨⟨fn,hf,hn,by rw [hb]; rfl⟩,(If (P:=P) hτ hm hΓ hΛ hf hb (hg.one (lk:=false) hh hg0) hE hv1 he').mono ?_⟩
    rintro en w' ⟨u,κ',S',rfl,g1,g2',g3⟩
    have hfix:=g3.fix 0 _ hh' (.inl ⟨_,_,_,_,rfl⟩);have hk0:κ' 0=κ id:=hfix.1;have hkeep:∀ b,b<w.heap.size->¬ A3 κ h id b->w'.heap[b]? = w.heap[b]?:=λb hb hne=>g3.keep b hb λi hi=>hne ((JZ hh i b).1 hi).2;have hB:A7 S w' κ (κ id) (.row e s n g'):=by
     obtain ⟨r0,cc,xs,r1,r2,r3⟩:=g1.blk 0 _ hh';refine ⟨r0,cc,xs,by rw [<- hk0]; exact r1,r2,λi hi=>?_⟩;obtain ⟨ci,p1,p2,p3,p4⟩:=r3 i hi;exact ⟨ci,Hx _ _ _ (hbare i hi) (by rw [hg2 i hi]; exact p1),p2,p3,p4⟩
    exact ⟨u,κ,S,rfl,hg.back hh g3.size hkeep hB,OU g2',Ext.back hg hh g3.os g3.tape g3.output g3.size hkeep hB,λ_ _ h=>h,λh=>nomatch h⟩
   ·cases he
  ·cases he
 ·rename_i id i vs'
  split at he
  ·rename_i j hh
   split at he
   ·rename_i h1 h2
    obtain rfl:=Nat.eq_of_beq_eq_true h1;obtain rfl:=Nat.eq_of_beq_eq_true h2;obtain ⟨hl,he⟩:=Ab he;obtain ⟨g',q1,q2⟩:=Ad he;have q2:=Aa q2;simp only [Prod.mk.injEq] at q2;obtain ⟨rfl,rfl⟩:=q2;obtain ⟨hfr,hbare,Γ,rfl,hΓ,hΛ,g0,h1',g2,hg0,he',hh',hg2⟩:=H (j.len i) (j.mem i) vs' g' q1;obtain ⟨c0,cs',rfl,⟨o,ms,hk,hm0,hsl⟩,hvs⟩:=hv;have hv1:VRs S w (.ref 0::vs') (Aaz c0) (c0::cs'):=⟨c0,cs',rfl,⟨rfl,.inl hsl⟩,Es vs' cs' hfr hvs⟩;refine .inl ⟨⟨fn,hf,hn,by rw [hb]; rfl⟩,(If (P:=P) hτ hm hΓ hΛ hf hb (hg.oneM (lk:=false) hh hk hm0 hsl hl hg0) hE hv1 he').mono ?_⟩
    rintro en w' ⟨u,κ',S',rfl,g1,g2',g3⟩
    have hfix:=g3.fix 0 _ hh' (.inl ⟨_,_,_,_,rfl⟩);have hk0:κ' 0=some c0:=hfix.1;have hkeep:∀ b,b<w.heap.size->¬ Ak (some c0)=some b->w'.heap[b]? = w.heap[b]?:=λb hb hne=>g3.keep b hb λi hi=>hne ((HT i b).1 hi).2;obtain ⟨r0,cc,xs,r1,r2,r3⟩:=g1.blk 0 _ hh';rw [hk0] at r1;cases r1;have hB:=J6 (w':=w') (g':=g') hg hh hk hm0 hsl hl hkeep r2 (λi hi=>by
     obtain ⟨ci,p1,p2,p3,p4⟩:=r3 i hi;exact ⟨ci,Hx _ _ _ (hbare i hi) (by rw [hg2 i hi]; exact p1),p2,p3,p4⟩)
    exact ⟨u,κ,S,rfl,hg.backM hh hk hm0 g3.size hkeep hB,OU g2',Ext.backM hg hh hk hm0 g3.os g3.tape g3.output g3.size hkeep hB,λ_ _ h=>h,λh=>nomatch h⟩
   ·cases he
  ·cases he
 ·cases he
include hτ hm in
theorem VT {F:Nat->(Nat->V)->List V->T Unit} (hf:P.funcs[f]? = some fn) (hb:fn.body.isSome=true) (hn:(fn.name == "runtime.NumGoroutine")=false)
  (H:∀ n g vs u,(F n g vs).sem=some u->free.frees vs=true∧∃ Γ:Cx,Γ.glob=G∧Bb P Γ.base∧Cb Γ ∧
   ∃ h',(Ar τ Γ fn (.ref 0::vs) [.xrow true e s n g]).sem=some (.tup [],h')):Rw P G f (SI e s F):=by
 intro vs cs κ S h w v h' hg hE hv he;obtain ⟨c,hb⟩:=Option.isSome_iff_exists.1 hb;have hn:fn.name ≠ "runtime.NumGoroutine":=by simpa using hn
 unfold SI at he;split at he
 ·rename_i id vs'
  split at he
  ·rename_i e' s' n g hh
   split at he
   ·rename_i h1 h2
    obtain rfl:=Nat.eq_of_beq_eq_true h1;obtain rfl:=Nat.eq_of_beq_eq_true h2;obtain ⟨u0,q1,q2⟩:=Ad he;have q2:=Aa q2;simp only [Prod.mk.injEq] at q2;obtain ⟨rfl,rfl⟩:=q2;obtain ⟨hfr,Γ,rfl,hΓ,hΛ,h1',he'⟩:=H n g vs' u0 q1;obtain ⟨c0,cs',rfl,⟨hc0,hsl⟩,hvs⟩:=hv;have hv1:VRs S w (.ref 0::vs') (Aa0 κ id) (c0::cs'):=⟨c0,cs',rfl,⟨hc0,hsl⟩,Es vs' cs' hfr hvs⟩;refine .inl ⟨⟨fn,hf,hn,by rw [hb]; rfl⟩,(If (P:=P) hτ hm hΓ hΛ hf hb (hg.one (lk:=true) hh λ_ _=>rfl) hE hv1 he').mono ?_⟩
    rintro en w' ⟨u,κ',S',rfl,g1,g2',g3⟩
    have hkeep:∀ b,b<w.heap.size->¬ A3 κ h id b->w'.heap[b]? = w.heap[b]?:=λb hb hne=>g3.keep b hb λi hi=>hne ((JZ hh i b).1 hi).2;have hS:∀ b,S b->S b∧w'.heap[b]? = w.heap[b]?:=λb hb=>⟨hb,hkeep b (hg.out b hb).1 ((hg.out b hb).2 id)⟩;have hset:h.set id (.row e s n g)=h:=by
     have hl:=(List.getElem?_eq_some_iff.1 hh).1;have:=(List.getElem?_eq_some_iff.1 hh).2;rw [<- this,List.set_getElem_self]
    have hB:A7 S w' κ (κ id) (.row e s n g):=by
     obtain ⟨r0,cc,xs,r1,r2,r3⟩:=hg.blk id _ hh;refine ⟨r0,cc,xs,r1,⟨r2.1,?_⟩,r3.mono hS⟩;rcases r2.2 with hnil | ⟨k,cap,cur,rfl,k0,k1,k2,k3,k4,k5⟩
     ·exact .inl hnil
     ·have hown:A3 κ h id k:=(Aq hh).2 (by rw [r1]; rfl)
      have hsafe:WA (Aa0 κ id) [.xrow true e s n g] w k (n * s):=⟨hg.lt hown,λi hi=>by
       have:=((JZ hh i k).1 hi).1;subst this;exact ⟨e,s,n,g,rfl,Nat.le_refl _⟩⟩
      obtain ⟨cur',p1,p2,p3⟩:=(g3.pre k (n * s) hsafe).2 cur e (0,0) k1;refine .inr ⟨k,cap,cur',rfl,k0,p1,k2,k3,by rw [p2,k4],?_⟩;rw [<- k5];apply List.ext_getElem?;intro j;rw [List.getElem?_take,List.getElem?_take];split
      ·rename_i hj
       rw [Array.getElem?_toList,Array.getElem?_toList];exact p3 j hj
      ·rfl
    have hgood:=hg.back (g':=g) hh g3.size hkeep hB;have hext:=Ext.back (S:=S) (g':=g) hg hh g3.os g3.tape g3.output g3.size hkeep hB;rw [hset] at hgood hext;exact ⟨u,κ,S,rfl,hgood,OU g2',hext,λ_ _ h=>h,λh=>nomatch h⟩
   ·cases he
  ·cases he
 ·rename_i id i vs'
  split at he
  ·rename_i j hh
   split at he
   ·rename_i h1 h2
    obtain rfl:=Nat.eq_of_beq_eq_true h1;obtain rfl:=Nat.eq_of_beq_eq_true h2;obtain ⟨hl,he⟩:=Ab he;obtain ⟨u0,q1,q2⟩:=Ad he;have q2:=Aa q2;simp only [Prod.mk.injEq] at q2;obtain ⟨rfl,rfl⟩:=q2;obtain ⟨hfr,Γ,rfl,hΓ,hΛ,h1',he'⟩:=H (j.len i) (j.mem i) vs' u0 q1;obtain ⟨c0,cs',rfl,⟨o,ms,hk,hm0,hsl⟩,hvs⟩:=hv;have hv1:VRs S w (.ref 0::vs') (Aaz c0) (c0::cs'):=⟨c0,cs',rfl,⟨rfl,.inl hsl⟩,Es vs' cs' hfr hvs⟩;have hg1:=hg.oneM (lk:=true) hh hk hm0 hsl hl λ_ _=>rfl;refine .inl ⟨⟨fn,hf,hn,by rw [hb]; rfl⟩,(If (P:=P) hτ hm hΓ hΛ hf hb hg1 hE hv1 he').mono ?_⟩
    rintro en w' ⟨u,κ',S',rfl,g1,g2',g3⟩
    have hkeep:∀ b,b<w.heap.size->¬ Ak (some c0)=some b->w'.heap[b]? = w.heap[b]?:=λb hb hne=>g3.keep b hb λi hi=>hne ((HT i b).1 hi).2;have hS:∀ b,S b->S b∧w'.heap[b]? = w.heap[b]?:=λb hb=>⟨hb,hkeep b (hg.out b hb).1 λq=>(hg.out b hb).2 id (I6 hh hk hm0 b q)⟩;have hset:h.set id (.jag { j with mem:=Dz j.mem i (j.mem i) })=h:=by
     have hl:=(List.getElem?_eq_some_iff.1 hh).1;have:=(List.getElem?_eq_some_iff.1 hh).2;have e:Dz j.mem i (j.mem i)=j.mem:=by
      funext k;by_cases hki:k=i
      ·rw [hki,G7]
      ·rw [JM hki]
     rw [e];show h.set id (.jag j)=h;rw [<- this,List.set_getElem_self]
    obtain ⟨r0,cc,xs,r1,r2,r3⟩:=hg1.blk 0 _ rfl;cases r1;have hB:=J6 (w':=w') (g':=j.mem i) (ys:=xs) hg hh hk hm0 hsl hl hkeep ⟨r2.1,by
     rcases r2.2 with hnil | ⟨k,cap,cur,rfl,k0,k1,k2,k3,k4,k5⟩
     ·exact .inl hnil
     ·have hown:A3 κ h id k:=I6 hh hk hm0 k rfl
      have hsafe:WA (Aaz (.slice (some ⟨k,0,none⟩) (j.len i) cap)) [.xrow true j.e' j.s' (j.len i) (j.mem i)] w k (j.len i * j.s'):=⟨hg.lt hown,λq hq=>by
       have:=((HT q k).1 hq).1;subst this;exact ⟨_,_,_,_,rfl,Nat.le_refl _⟩⟩
      obtain ⟨cur',p1,p2,p3⟩:=(g3.pre k (j.len i * j.s') hsafe).2 cur j.e' (0,0) k1;refine .inr ⟨k,cap,cur',rfl,k0,p1,k2,k3,by rw [p2,k4],?_⟩;rw [<- k5];apply List.ext_getElem?;intro q;rw [List.getElem?_take,List.getElem?_take];split
      ·rename_i hq
       rw [Array.getElem?_toList,Array.getElem?_toList];exact p3 q hq
      ·rfl⟩ (r3.mono hS)
    have hgood:=hg.backM hh hk hm0 g3.size hkeep hB;have hext:=Ext.backM (S:=S) hg hh hk hm0 g3.os g3.tape g3.output g3.size hkeep hB;rw [hset] at hgood hext;exact ⟨u,κ,S,rfl,hgood,OU g2',hext,λ_ _ h=>h,λh=>nomatch h⟩
   ·cases he
  ·cases he
 ·cases he
end
end Go.Sy
namespace Go.Sy
end Go.Sy
namespace Go.Sy
open Go.Proofs
set_option maxRecDepth 100000
def tab:List Ty:=[
 ⟨.other,1,0,.und,false⟩,
 ⟨.other,1,8,.val (.nilFunc),false⟩,
 ⟨.int .i64,1,8,.val (.int .i64 0),false⟩,
 ⟨.int .i64,1,8,.val (.int .i64 0),false⟩,
 ⟨.bool,1,1,.val (.bool false),false⟩,
 ⟨.int .u8,1,1,.val (.int .u8 0),false⟩,
 ⟨.int .u8,1,1,.val (.int .u8 0),false⟩,
 ⟨.st [(0,2),(1,3),(2,4),(3,6)],4,24,.agg [.val (.int .i64 0),.val (.int .i64 0),.val (.bool false),.val (.int .u8 0)],true⟩,
 ⟨.st [(0,2),(1,3),(2,4),(3,6)],4,24,.agg [.val (.int .i64 0),.val (.int .i64 0),.val (.bool false),.val (.int .u8 0)],true⟩,
 ⟨.str,1,16,.str [],false⟩,
 ⟨.str,1,16,.str [],false⟩,
 ⟨.str,1,16,.str [],false⟩,
 ⟨.int .u64,1,8,.val (.int .u64 0),false⟩,
 ⟨.st [(0,9),(1,12)],2,24,.agg [.str [],.val (.int .u64 0)],false⟩,
 ⟨.st [(0,9),(1,12)],2,24,.agg [.str [],.val (.int .u64 0)],false⟩,
 ⟨.other,1,8,.val (.pointer none),false⟩,
 ⟨.other,1,8,.val (.pointer none),false⟩,
 ⟨.other,1,8,.val (.pointer none),false⟩,
 ⟨.st [(0,17)],1,8,.agg [.val (.pointer none)],false⟩,
 ⟨.st [(0,17)],1,8,.agg [.val (.pointer none)],false⟩,
 ⟨.other,1,16,.val (.nilIface),false⟩,
 ⟨.int .i32,1,4,.val (.int .i32 0),false⟩,
 ⟨.sl 46,1,24,.nilS,false⟩,
 ⟨.other,1,8,.val (.nilFunc),false⟩,
 ⟨.sl 22,1,24,.nilS,false⟩,
 ⟨.int .i64,1,8,.val (.int .i64 0),false⟩,
 ⟨.other,1,0,.und,false⟩,
 ⟨.other,1,8,.val (.nilFunc),false⟩,
 ⟨.other,1,0,.und,false⟩,
 ⟨.other,1,8,.val (.nilFunc),false⟩,
 ⟨.other,1,8,.val (.nilFunc),false⟩,
 ⟨.other,1,8,.val (.nilFunc),false⟩,
 ⟨.other,1,8,.val (.nilFunc),false⟩,
 ⟨.other,1,8,.val (.nilFunc),false⟩,
 ⟨.other,1,8,.val (.nilFunc),false⟩,
 ⟨.other,1,8,.val (.nilFunc),false⟩,
 ⟨.other,1,8,.val (.nilFunc),false⟩,
 ⟨.other,1,8,.val (.nilFunc),false⟩,
 ⟨.other,1,8,.val (.nilFunc),false⟩,
 ⟨.other,1,8,.val (.nilFunc),false⟩,
 ⟨.other,1,0,.und,false⟩,
 ⟨.other,1,8,.val (.nilFunc),false⟩,
 ⟨.other,1,0,.und,false⟩,
 ⟨.other,1,8,.val (.nilFunc),false⟩,
 ⟨.other,1,8,.val (.nilFunc),false⟩,
 ⟨.st [(0,3),(1,4),(2,4),(3,3),(4,3),(5,3)],6,40,.agg [.val (.int .i64 0),.val (.bool false),.val (.bool false),.val (.int .i64 0),.val (.int .i64 0),.val (.int .i64 0)],true⟩,
 ⟨.st [(0,3),(1,4),(2,4),(3,3),(4,3),(5,3)],6,40,.agg [.val (.int .i64 0),.val (.bool false),.val (.bool false),.val (.int .i64 0),.val (.int .i64 0),.val (.int .i64 0)],true⟩,
 ⟨.other,1,8,.val (.nilFunc),false⟩,
 ⟨.other,1,8,.val (.nilFunc),false⟩,
 ⟨.other,1,0,.und,false⟩,
 ⟨.other,1,8,.val (.nilFunc),false⟩,
 ⟨.other,1,8,.val (.nilFunc),false⟩,
 ⟨.other,1,8,.val (.nilFunc),false⟩,
 ⟨.other,1,8,.val (.nilFunc),false⟩,
 ⟨.other,1,8,.val (.nilFunc),false⟩,
 ⟨.other,1,8,.val (.nilFunc),false⟩,
 ⟨.other,1,8,.val (.nilFunc),false⟩,
 ⟨.other,1,8,.val (.pointer none),false⟩,
 ⟨.st [(0,3),(1,22),(2,3),(3,3),(4,22),(5,24),(6,4)],7,104,.agg [.val (.int .i64 0),.nilS,.val (.int .i64 0),.val (.int .i64 0),.nilS,.nilS,.val (.bool false)],false⟩,
 ⟨.st [(0,3),(1,22),(2,3),(3,3),(4,22),(5,24),(6,4)],7,104,.agg [.val (.int .i64 0),.nilS,.val (.int .i64 0),.val (.int .i64 0),.nilS,.nilS,.val (.bool false)],false⟩,
 ⟨.other,1,8,.val (.nilFunc),false⟩,
 ⟨.other,1,8,.val (.nilFunc),false⟩,
 ⟨.other,1,8,.val (.nilFunc),false⟩,
 ⟨.other,1,8,.val (.pointer none),false⟩,
 ⟨.other,1,8,.val (.nilFunc),false⟩,
 ⟨.other,1,8,.val (.nilFunc),false⟩,
 ⟨.other,1,8,.val (.nilFunc),false⟩,
 ⟨.other,1,8,.val (.nilFunc),false⟩,
 ⟨.sl 3,1,24,.nilS,false⟩,
 ⟨.other,1,8,.val (.nilFunc),false⟩,
 ⟨.other,1,8,.val (.nilFunc),false⟩,
 ⟨.other,1,0,.und,false⟩,
 ⟨.other,1,8,.val (.nilFunc),false⟩,
 ⟨.other,1,8,.val (.nilFunc),false⟩,
 ⟨.other,1,8,.val (.nilFunc),false⟩,
 ⟨.other,1,8,.val (.nilFunc),false⟩,
 ⟨.other,1,8,.val (.nilFunc),false⟩,
 ⟨.other,1,0,.und,false⟩,
 ⟨.other,1,8,.val (.nilFunc),false⟩,
 ⟨.sl 4,1,24,.nilS,false⟩,
 ⟨.other,1,0,.und,false⟩,
 ⟨.other,1,8,.val (.nilFunc),false⟩,
 ⟨.other,1,0,.und,false⟩,
 ⟨.other,1,8,.val (.nilFunc),false⟩,
 ⟨.st [(0,3),(1,3),(2,22),(3,68)],4,64,.agg [.val (.int .i64 0),.val (.int .i64 0),.nilS,.nilS],false⟩,
 ⟨.st [(0,3),(1,3),(2,22),(3,68)],4,64,.agg [.val (.int .i64 0),.val (.int .i64 0),.nilS,.nilS],false⟩,
 ⟨.gmap false 46,1,8,.val (.map none),false⟩,
 ⟨.other,1,0,.und,false⟩,
 ⟨.other,1,8,.val (.nilFunc),false⟩,
 ⟨.other,1,8,.val (.nilFunc),false⟩,
 ⟨.other,1,8,.val (.nilFunc),false⟩,
 ⟨.other,1,8,.val (.nilFunc),false⟩,
 ⟨.arr 2 3,2,16,.agg [.val (.int .i64 0),.val (.int .i64 0)],true⟩,
 ⟨.arr 2 92,4,32,.agg [.val (.int .i64 0),.val (.int .i64 0),.val (.int .i64 0),.val (.int .i64 0)],true⟩,
 ⟨.other,1,0,.und,false⟩,
 ⟨.other,1,8,.val (.nilFunc),false⟩,
 ⟨.other,1,8,.val (.nilFunc),false⟩,
 ⟨.other,1,0,.und,false⟩,
 ⟨.other,1,8,.val (.nilFunc),false⟩,
 ⟨.other,1,8,.val (.nilFunc),false⟩,
 ⟨.other,1,8,.val (.nilFunc),false⟩,
 ⟨.other,1,8,.val (.nilFunc),false⟩,
 ⟨.other,1,8,.val (.nilFunc),false⟩,
 ⟨.other,1,8,.val (.nilFunc),false⟩,
 ⟨.sl 108,1,24,.nilS,false⟩,
 ⟨.other,1,0,.und,false⟩,
 ⟨.other,1,8,.val (.nilFunc),false⟩,
 ⟨.other,1,8,.val (.nilFunc),false⟩,
 ⟨.int .u64,1,8,.val (.int .u64 0),false⟩,
 ⟨.other,1,8,.val (.nilFunc),false⟩,
 ⟨.other,1,8,.val (.nilFunc),false⟩,
 ⟨.other,1,8,.val (.nilFunc),false⟩,
 ⟨.other,1,8,.val (.nilFunc),false⟩,
 ⟨.other,1,8,.val (.nilFunc),false⟩,
 ⟨.other,1,8,.val (.nilFunc),false⟩,
 ⟨.other,1,8,.val (.nilFunc),false⟩,
 ⟨.imap 3,1,8,.val (.map none),false⟩,
 ⟨.other,1,8,.val (.nilFunc),false⟩,
 ⟨.other,1,8,.val (.nilFunc),false⟩,
 ⟨.other,1,0,.und,false⟩,
 ⟨.other,1,8,.val (.nilFunc),false⟩,
 ⟨.arr 112 4,112,112,.agg [.val (.bool false),.val (.bool false),.val (.bool false),.val (.bool false),.val (.bool false),.val (.bool false),.val (.bool false),.val (.bool false),.val (.bool false),.val (.bool false),.val (.bool false),.val (.bool false),.val (.bool false),.val (.bool false),.val (.bool false),.val (.bool false),.val (.bool false),.val (.bool false),.val (.bool false),.val (.bool false),.val (.bool false),.val (.bool false),.val (.bool false),.val (.bool false),.val (.bool false),.val (.bool false),.val (.bool false),.val (.bool false),.val (.bool false),.val (.bool false),.val (.bool false),.val (.bool false),.val (.bool false),.val (.bool false),.val (.bool false),.val (.bool false),.val (.bool false),.val (.bool false),.val (.bool false),.val (.bool false),.val (.bool false),.val (.bool false),.val (.bool false),.val (.bool false),.val (.bool false),.val (.bool false),.val (.bool false),.val (.bool false),.val (.bool false),.val (.bool false),.val (.bool false),.val (.bool false),.val (.bool false),.val (.bool false),.val (.bool false),.val (.bool false),.val (.bool false),.val (.bool false),.val (.bool false),.val (.bool false),.val (.bool false),.val (.bool false),.val (.bool false),.val (.bool false),.val (.bool false),.val (.bool false),.val (.bool false),.val (.bool false),.val (.bool false),.val (.bool false),.val (.bool false),.val (.bool false),.val (.bool false),.val (.bool false),.val (.bool false),.val (.bool false),.val (.bool false),.val (.bool false),.val (.bool false),.val (.bool false),.val (.bool false),.val (.bool false),.val (.bool false),.val (.bool false),.val (.bool false),.val (.bool false),.val (.bool false),.val (.bool false),.val (.bool false),.val (.bool false),.val (.bool false),.val (.bool false),.val (.bool false),.val (.bool false),.val (.bool false),.val (.bool false),.val (.bool false),.val (.bool false),.val (.bool false),.val (.bool false),.val (.bool false),.val (.bool false),.val (.bool false),.val (.bool false),.val (.bool false),.val (.bool false),.val (.bool false),.val (.bool false),.val (.bool false),.val (.bool false),.val (.bool false),.val (.bool false)],true⟩,
 ⟨.arr 2 108,2,16,.agg [.val (.int .u64 0),.val (.int .u64 0)],true⟩,
 ⟨.arr 2 122,4,32,.agg [.val (.int .u64 0),.val (.int .u64 0),.val (.int .u64 0),.val (.int .u64 0)],true⟩,
 ⟨.arr 2 122,4,32,.agg [.val (.int .u64 0),.val (.int .u64 0),.val (.int .u64 0),.val (.int .u64 0)],true⟩,
 ⟨.other,1,8,.val (.nilFunc),false⟩,
 ⟨.other,1,8,.val (.nilFunc),false⟩,
 ⟨.arr 2 4,2,2,.agg [.val (.bool false),.val (.bool false)],true⟩,
 ⟨.other,1,8,.val (.nilFunc),false⟩,
 ⟨.other,1,0,.und,false⟩,
 ⟨.other,1,8,.val (.nilFunc),false⟩,
 ⟨.sl 9,1,24,.nilS,false⟩,
 ⟨.int .u64,1,8,.val (.int .u64 0),false⟩,
 ⟨.other,1,8,.val (.nilFunc),false⟩,
 ⟨.st [(0,17),(1,17),(2,17),(3,9)],4,40,.agg [.val (.pointer none),.val (.pointer none),.val (.pointer none),.str []],false⟩,
 ⟨.st [(0,17),(1,17),(2,17),(3,9)],4,40,.agg [.val (.pointer none),.val (.pointer none),.val (.pointer none),.str []],false⟩,
 ⟨.arr 0 16,0,0,.agg [],false⟩,
 ⟨.st [(0,136)],0,0,.agg [],false⟩,
 ⟨.st [(0,136)],0,0,.agg [],false⟩,
 ⟨.other,1,8,.val (.nilFunc),false⟩,
 ⟨.int .u32,1,4,.val (.int .u32 0),false⟩,
 ⟨.int .u8,1,1,.val (.int .u8 0),false⟩,
 ⟨.int .u8,1,1,.val (.int .u8 0),false⟩,
 ⟨.other,1,8,.val (.nilFunc),false⟩,
 ⟨.other,1,8,.val (.pointer none),false⟩,
 ⟨.int .i32,1,4,.val (.int .i32 0),false⟩,
 ⟨.int .i32,1,4,.val (.int .i32 0),false⟩,
 ⟨.st [(0,12),(1,12),(2,140),(3,141),(4,5),(5,5),(6,142),(7,143),(8,144),(9,145),(10,146)],11,48,.agg [.val (.int .u64 0),.val (.int .u64 0),.val (.int .u32 0),.val (.int .u8 0),.val (.int .u8 0),.val (.int .u8 0),.val (.int .u8 0),.val (.nilFunc),.val (.pointer none),.val (.int .i32 0),.val (.int .i32 0)],false⟩,
 ⟨.st [(0,12),(1,12),(2,140),(3,141),(4,5),(5,5),(6,142),(7,143),(8,144),(9,145),(10,146)],11,48,.agg [.val (.int .u64 0),.val (.int .u64 0),.val (.int .u32 0),.val (.int .u8 0),.val (.int .u8 0),.val (.int .u8 0),.val (.int .u8 0),.val (.nilFunc),.val (.pointer none),.val (.int .i32 0),.val (.int .i32 0)],false⟩,
 ⟨.other,1,8,.val (.pointer none),false⟩]
def TF (P:Program):Nat->Nat->List (Option Ty)
 | 0,_=>[]
 | n+1,k=>AbL P k::TF P n (Nat.succ k)
def Y8:List Ty->List (Option Ty)
 | []=>[]
 | t::l=>some t::Y8 l
theorem Ajl:TF Tryz.prog 150 0=Y8 tab:=by kernel_rfl
theorem Ve (P:Program):∀ (n k j:Nat),j<n->(TF P n k)[j]? = some (AbL P (k+j))
 | 0,_,_,h=>absurd h (Nat.not_lt_zero _)
 | n+1,k,0,_=>rfl
 | n+1,k,j+1,h=>by
  have:=Ve P n (Nat.succ k) j (Nat.lt_of_succ_lt_succ h);simp only [TF,List.getElem?_cons_succ,this];rw [show Nat.succ k+j=k+(j+1) by omega]
theorem Sa:∀ (l:List Ty) (j:Nat) (t:Ty),l[j]? = some t->(Y8 l)[j]? = some (some t)∧j<l.length
 | [],_,_,h=>by simp at h
 | a::l,0,t,h=>by simp at h; subst h; exact ⟨rfl,by simp⟩
 | a::l,j+1,t,h=>by
  have:=Sa l j t (by simpa using h);exact ⟨by simpa [Y8] using this.1,by simp; exact this.2⟩
theorem Agc:tab.length=150:=by kernel_rfl
theorem Ajk (j:Nat) (t:Ty) (h:tab[j]? = some t):AbL Tryz.prog j=some t:=by
 obtain ⟨h1,h2⟩:=Sa tab j t h;rw [Agc] at h2;rw [<- Ajl,Ve _ _ _ _ h2] at h1;simpa using h1
end Go.Sy
namespace Go.Proofs.YtkbgidbledjejaaGreat.Ed
open Go.Sy
def AkK:List (List UInt8):=[[82,102,101],[82,102,105],[70,114,101],[70,114,105],[67,111,101],[67,111,105]]
def AnK:List (List UInt8):=[[82,82],[82,87],[87,82],[87,87]]
def Ami:List (List UInt8):=[[114,46,114],[114,46,119],[114,46,114,119],[119,46,114],[119,46,119],[119,46,114,119],[114,119,46,114],[114,119,46,119],[114,119,46,114,119]]
def AnQ:List (List UInt8):=[[68,112,65,100,100,114,100,82],[68,112,65,100,100,114,100,87],[68,112,65,100,100,114,115,82],[68,112,65,100,100,114,115,87],[68,112,68,97,116,97,100,87],
 [68,112,68,97,116,97,115,87],[68,112,67,116,114,108,100,82],[68,112,67,116,114,108,100,87],[68,112,67,116,114,108,115,82],[68,112,67,116,114,108,115,87]]
def Gl:Nat->V:=λ_=>.und
theorem mixed:Tryz.prog.follows .mixedOrders=true:=by kernel_rfl
theorem Az:TabOK Tryz.prog tab:=⟨Ajk,Afw⟩
end Go.Proofs.YtkbgidbledjejaaGreat.Ed
namespace Go.Proofs.YtkbgidbledjejaaGreat.Ed
open Go.Sy
structure E6 where
 kind:Int
 ext:Bool
 same:Bool
 src:Int
 dst:Int
 fence:Int
 deriving DecidableEq
def eV (e:E6):V:=.agg [iV e.kind,bV e.ext,bV e.same,iV e.src,iV e.dst,iV e.fence]
def toE:V->Option E6
 | .agg [a,b,c,d,e,f]=>match gI a,gB b,gB c,gI d,gI e,gI f with
  | some a,some b,some c,some d,some e,some f=>some ⟨a,b,c,d,e,f⟩
  | _,_,_,_,_,_=>none
 | _=>none
theorem Pm {v:V} {e:E6} (h:toE v=some e):v=eV e:=by
 unfold toE at h;split at h
 ·split at h
  ·rename_i h1 h2 h3 h4 h5 h6
   simp only [Option.some.injEq] at h;subst h;rw [Hu h1,Up h2,Up h3,Hu h4,Hu h5,Hu h6];rfl
  ·cases h
 ·cases h
def eqE (a b:E6):Bool:=Av (ieq a.kind b.kind) (Av (JD a.ext b.ext) (Av (JD a.same b.same) (Av (ieq a.src b.src) (Av (ieq a.dst b.dst) (Av (ieq a.fence b.fence) true)))))
theorem Dd (a b:E6):eqE a b=true↔a=b:=by
 cases a; cases b;simp [eqE,Av,ieq,JD]
theorem Aeo (a b:E6):eqE a b=eqE b a:=by
 rw [Bool.eq_iff_iff,Dd,Dd];exact eq_comm
theorem Aen (a:E6):eqE a a=true:=(Dd a a).2 rfl
def BC (c:Nat):E6 :=
 if c<6 then ⟨c / 2+1,c % 2 == 0,false,if c / 2 == 1 then 1 else 2,if c / 2 == 0 then 1 else 2,0⟩
 else if c<102 then ⟨if (c-6) / 8 == 0 then 4 else 5,false,decide (4 <= (c-6) % 8),1+((c-6) % 4 / 2:Nat),1+((c-6) % 2:Nat),((c-6) / 8:Nat)⟩
 else if c<106 then ⟨6,false,decide (2 <= c-102),1,1+((c-102) % 2:Nat),0⟩
 else if c<108 then ⟨7,false,c-102 == 5,1,2,0⟩
 else ⟨8,false,decide (8 <= c-102),1,1+((c-102) % 2:Nat),0⟩
def Bv:E6:=⟨0,false,false,0,0,0⟩
def inR (n:Int):Bool:=decide (0 <= n) && decide (n<112)
theorem VJ {n:Int} (h:inR n=true):∃ k:Nat,n=(k:Int)∧k<112:=by
 simp [inR] at h;exact ⟨n.toNat,by omega,by omega⟩
theorem AdU {n:Int} (h:inR n=false):n<0 ∨ 0 <= n∧112 <= n:=by
 simp [inR] at h;omega
def cx0:Cx:=BP Gl [] []
noncomputable def Aou:List V->A2:=λvs=>AK (Ar tab cx0 Tryz.f104 vs [])
theorem Apa:As Tryz.prog Gl 104 Aou:=AO Az mixed Tryz.func104 (by kernel_rfl) (by kernel_rfl) (Bm Ao.nil _)
noncomputable def AiC:List V->A2:=λvs=>AK (Ar tab cx0 Tryz.f99 vs [])
theorem p74:As Tryz.prog Gl 99 AiC:=AO Az mixed Tryz.func99 (by kernel_rfl) (by kernel_rfl) (Bm Ao.nil _)
noncomputable def Afg:List V->A2:=λvs=>AK (Ar tab cx0 Tryz.f100 vs [])
theorem p75:As Tryz.prog Gl 100 Afg:=AO Az mixed Tryz.func100 (by kernel_rfl) (by kernel_rfl) (Bm Ao.nil _)
noncomputable def Aov:List V->A2:=λvs=>AK (Ar tab cx0 Tryz.f101 vs [])
theorem p76:As Tryz.prog Gl 101 Aov:=AO Az mixed Tryz.func101 (by kernel_rfl) (by kernel_rfl) (Bm Ao.nil _)
noncomputable def tb0:AH:=(99,AiC)::(100,Afg)::(101,Aov)::[]
theorem Hy:Ao Tryz.prog Gl tb0:=.cons p74 <| .cons p75 <| .cons p76 .nil
noncomputable def AkJ:Cx:=BP Gl tb0 []
def S6 (c:Nat):List UInt8 :=
 if c<6 then AkK.getD c []
 else if 102 <= c then AnQ.getD (c-102) []
 else (if (c-6) / 8=0 then [80,111] else if (c-6) / 8=1 then [77,70,101,110,99,101] else if (c-6) / 8=2 then [70,101,110,99,101,46,116,115,111]
  else [70,101,110,99,101,46]++Ami.getD ((c-6) / 8-3) [])++((if 4 <= (c-6) % 8 then [115] else [100])++AnK.getD ((c-6) % 4) [])
end Go.Proofs.YtkbgidbledjejaaGreat.Ed
namespace Go.Proofs.YtkbgidbledjejaaGreat.Ed
open Go.Sy
theorem Akj:(List.range 112).map (λk:Nat=>(AK (Ar tab cx0 Tryz.f104 [nV k] [])).sem)=(List.range 112).map λk=>some (eV (BC k),[]):=by kernel_rfl
theorem Ap0:(List.range 112).map (λk:Nat=>(AK (Ar tab AkJ Tryz.f69 [nV k] [])).sem)=(List.range 112).map λk=>some (.tup [eV (BC k),iV 0],[]):=by kernel_rfl
theorem Ang (n:Int):(AK (Ar tab AkJ Tryz.f69 [iV n] [])).path [true,true,true,true]=some ([ilt n 0,ilt n 0,ilt n 0,true],(.tup [eV Bv,iV 30],[])):=by kernel_rfl
theorem Anf (n:Int):(AK (Ar tab AkJ Tryz.f69 [iV n] [])).path [false,false,false,true]=some ([ilt n 0,ilt n 0,ilt n 0,ile 112 n],(.tup [eV Bv,iV 30],[])):=by kernel_rfl
end Go.Proofs.YtkbgidbledjejaaGreat.Ed
namespace Go.Proofs.YtkbgidbledjejaaGreat.Ed
open Go.Sy
def ZC (f:Nat->V):List V->A2
 | [v]=>match gI v with
  | some n=>.br (inR n) (.leaf (f n.toNat,[])) .fail
  | none=>.fail
 | _=>.fail
theorem Yj {f:Nat->V} {vs:List V} {r:V×List Blk} (h:(ZC f vs).sem=some r):∃ k:Nat,k<112∧vs=[nV k]∧r=(f k,[]):=by
 unfold ZC at h;split at h
 ·split at h
  ·rename_i v n hn
   obtain ⟨h1,h2⟩:=Ab h;obtain ⟨k,rfl,hk⟩:=VJ h1;exact ⟨k,hk,by rw [Hu hn]; rfl,by rw [Aa h2]; rfl⟩
  ·cases h
 ·cases h
theorem p71:As Tryz.prog Gl 104 (ZC λk=>eV (BC k)):=by
 refine Apa.congr λvs r h=>?_;obtain ⟨k,hk,rfl,rfl⟩:=Yj h;exact GH Akj k hk
def ofT:List V->A2
 | [v]=>match gI v with
  | some n=>.br (inR n) (.leaf (.tup [eV (BC n.toNat),iV 0],[])) (.leaf (.tup [eV Bv,iV 30],[]))
  | none=>.fail
 | _=>.fail
theorem Adf {vs:List V} {r:V×List Blk} (h:(ofT vs).sem=some r):∃ n,vs=[iV n]∧((∃ k:Nat,n=Int.ofNat k∧k<112∧r=(.tup [eV (BC k),iV 0],[])) ∨ ((n<0 ∨ 0 <= n∧112 <= n)∧r=(.tup [eV Bv,iV 30],[]))):=by
 unfold ofT at h;split at h
 ·split at h
  ·rename_i v n hn
   refine ⟨n,by rw [Hu hn],?_⟩;cases hi:inR n with
   | true =>obtain ⟨k,rfl,hk⟩:=VJ hi;simp only [T.sem,hi,sel,cond_true,Option.some.injEq] at h;exact .inl ⟨k,rfl,hk,h.symm⟩
   | false =>simp only [T.sem,hi,sel,cond_false,Option.some.injEq] at h;exact .inr ⟨AdU hi,h.symm⟩
  ·cases h
 ·cases h
theorem IA {a b:Int} (h:a<b):ilt a b=true:=by simpa [ilt] using h
theorem GT {a b:Int} (h:b <= a):ilt a b=false:=by simp [ilt]; omega
theorem OF {a b:Int} (h:a <= b):ile a b=true:=by simpa [ile] using h
theorem V8 {a b:Int} (h:b<a):ile a b=false:=by simp [ile]; omega
theorem p31:As Tryz.prog Gl 69 ofT:=by
 refine As.congr (AO Az mixed Tryz.func69 (by kernel_rfl) (by kernel_rfl) (Bm Hy [])) λvs r h=>?_;obtain ⟨n,rfl,⟨k,rfl,hk,rfl⟩ | ⟨hn,rfl⟩⟩:=Adf h
 ·exact GH Ap0 k hk
 ·rcases hn with hn | ⟨h0,hn⟩
  ·exact A9 (Ang n) (by rw [IA hn])
  ·exact A9 (Anf n) (by rw [GT h0,OF hn])
noncomputable def tb1:AH:=(104,ZC λk=>eV (BC k))::(69,ofT)::[]
theorem WR:Ao Tryz.prog Gl tb1:=.cons p71 <| .cons p31 .nil
noncomputable def cx1:Cx:=BP Gl tb1 [(0,⟨[],1,[],1,113⟩)]
def Ic (e:E6):Nat->Nat->Option Nat
 | 0,_=>none
 | m+1,k=>match eqE (BC k) e with
  | true=>some k
  | false=>Ic e m (Nat.succ k)
def Al (e:E6):Int:=match Ic e 112 0 with
 | some k=>Int.ofNat k
 | none=>0
def AB (e:E6):Int:=match Ic e 112 0 with
 | some _=>0
 | none=>30
def QO (e:E6):Nat->Nat->Option (V×List Blk)
 | 0,_=>some (.tup [iV 0,iV 30],[])
 | m+1,k=>sel (eqE (BC k) e) (some (.tup [nV k,iV 0],[])) (QO e m (Nat.succ k))
def U5 (e:E6):Nat->Nat->Option (V×List Blk)
 | 0,_=>some (.tup [iV 0,iV 30],[])
 | m+1,k=>sel (eqE e (BC k)) (some (.tup [nV k,iV 0],[])) (U5 e m (Nat.succ k))
theorem Wx (e:E6):∀ m k,QO e m k=match Ic e m k with
  | some j=>some (.tup [nV j,iV 0],[])
  | none=>some (.tup [iV 0,iV 30],[])
 | 0,k=>rfl
 | m+1,k=>by
  simp only [QO,Ic];cases h:eqE (BC k) e with
  | true=>rfl
  | false=>exact Wx e m (Nat.succ k)
theorem SY (e:E6):∀ m k,U5 e m k=QO e m k
 | 0,_=>rfl
 | m+1,k=>by
  simp only [QO,U5,SY e m,Aeo e]
theorem SX (e:E6):QO e 112 0=some (.tup [iV (Al e),iV (AB e)],[]):=by
 rw [Wx];unfold Al AB;cases Ic e 112 0 <;> rfl
theorem AkM (e:E6):(AK (Ar tab cx1 Tryz.f71 [eV e] [])).sem=QO e 112 0:=by kernel_rfl
theorem AkL (e:E6):(AK (Ar tab cx1 Tryz.f54 [eV e] [])).sem=U5 e 112 0:=by kernel_rfl
def Co (f:E6->V):List V->A2
 | [v]=>match toE v with
  | some e=>.leaf (f e,[])
  | none=>.fail
 | _=>.fail
theorem Dy {f:E6->V} {vs:List V} {r:V×List Blk} (h:(Co f vs).sem=some r):∃ e,vs=[eV e]∧r=(f e,[]):=by
 unfold Co at h;split at h
 ·split at h
  ·rename_i v e hn
   exact ⟨e,by rw [Pm hn],Aa h⟩
  ·cases h
 ·cases h
def KA (e:E6):V:=.tup [iV (Al e),iV (AB e)]
theorem p24:As Tryz.prog Gl 71 (Co KA):=by
 refine As.congr (AO Az mixed Tryz.func71 (by kernel_rfl) (by kernel_rfl) (Γ:=cx1) (Bm WR _)) λvs r h=>?_;obtain ⟨e,rfl,rfl⟩:=Dy h;exact (AkM e).trans (SX e)
theorem p25:As Tryz.prog Gl 54 (Co KA):=by
 refine As.congr (AO Az mixed Tryz.func54 (by kernel_rfl) (by kernel_rfl) (Γ:=cx1) (Bm WR _)) λvs r h=>?_;obtain ⟨e,rfl,rfl⟩:=Dy h;exact (AkL e).trans ((SY e 112 0).trans (SX e))
end Go.Proofs.YtkbgidbledjejaaGreat.Ed
namespace Go.Proofs.YtkbgidbledjejaaGreat.Ed
open Go.Sy
noncomputable def tb2:AH:=(71,Co KA)::(54,Co KA)::tb1
theorem AbV:Ao Tryz.prog Gl tb2:=.cons p24 <| .cons p25 WR
noncomputable def cx2:Cx:=BP Gl tb2 []
theorem Ahg (e:E6):(AK (Ar tab cx2 Tryz.f45 [eV e] [])).sem=some (iV (AB e),[]):=by kernel_rfl
theorem p29:As Tryz.prog Gl 45 (Co λe=>iV (AB e)):=by
 refine As.congr (AO Az mixed Tryz.func45 (by kernel_rfl) (by kernel_rfl) (Γ:=cx2) (Bm AbV _)) λvs r h=>?_;obtain ⟨e,rfl,rfl⟩:=Dy h;exact Ahg e
theorem KX (e:E6):∀ m k j,Ic e m k=some j->k <= j∧j<k+m∧BC j=e
 | 0,k,j,h=>by cases h
 | m+1,k,j,h=>by
  simp only [Ic] at h;split at h
  ·rename_i he
   simp only [Option.some.injEq] at h;subst h;exact ⟨Nat.le_refl _,by omega,(Dd _ _).1 he⟩
  ·obtain ⟨h1,h2,h3⟩:=KX e m _ j h
   exact ⟨by omega,by omega,h3⟩
def Vx (e:E6):List UInt8:=match Ic e 112 0 with
 | some k=>S6 k
 | none=>[]
def YT (e:E6):V:=.tup [.str (Vx e),iV (AB e)]
noncomputable def tb3:AH:=(45,Co λe=>iV (AB e))::tb2
theorem AbU:Ao Tryz.prog Gl tb3:=.cons p29 AbV
noncomputable def tbn:AH:=(119,λvs=>AK (Ar tab cx0 Tryz.f119 vs []))::(123,λvs=>AK (Ar tab cx0 Tryz.f123 vs []))::[]
theorem AbR:Ao Tryz.prog Gl tbn :=
 .cons (AO Az mixed Tryz.func119 (by kernel_rfl) (by kernel_rfl) (Γ:=cx0) (Bm .nil _)) <|
 .cons (AO Az mixed Tryz.func123 (by kernel_rfl) (by kernel_rfl) (Γ:=cx0) (Bm .nil _)) .nil
noncomputable def cxn:Cx:=BP Gl tbn []
noncomputable def tb4:AH:=(120,λvs=>AK (Ar tab cxn Tryz.f120 vs []))::(tbn++tb3)
theorem Ao.append {P:Program} {G:Nat->V} {a b:AH} (ha:Ao P G a) (hb:Ao P G b):Ao P G (a++b):=λp hp=>(List.mem_append.1 hp).elim (ha p) (hb p)
theorem Aje:Ao Tryz.prog Gl tb4 :=
 .cons (AO Az mixed Tryz.func120 (by kernel_rfl) (by kernel_rfl) (Γ:=cxn) (Bm AbR _)) (Ao.append AbR AbU)
noncomputable def cx4:Cx:=BP Gl tb4 []
theorem Ake:(List.range 112).map (λk:Nat=>(AK (Ar tab cx4 Tryz.f114 [eV (BC k)] [])).sem)=(List.range 112).map λk=>some (.tup [.str (S6 k),iV 0],[]):=by kernel_rfl
theorem Ag4 (e:E6):(AK (Ar tab cx4 Tryz.f114 [eV e] [])).path [true]=some ([AL (ieq (AB e) 0)],(.tup [.str [],iV 30],[])):=by kernel_rfl
theorem Ag3 (e:E6):(AK (Ar tab cx4 Tryz.f114 [eV e] [])).sem=some (YT e,[]):=by
 unfold YT Vx;cases h:Ic e 112 0 with
 | none =>
  have hf:AB e=30:=by unfold AB; rw [h]
  rw [hf];exact A9 (Ag4 e) (by rw [hf]; rfl)
 | some k =>
  have hf:AB e=0:=by unfold AB; rw [h]
  obtain ⟨_,hk,rfl⟩:=KX e 112 0 k h;rw [hf];exact GH Ake k (by omega)
theorem p27:As Tryz.prog Gl 114 (Co YT):=by
 refine As.congr (AO Az mixed Tryz.func114 (by kernel_rfl) (by kernel_rfl) (Γ:=cx4) (Bm Aje _)) λvs r h=>?_;obtain ⟨e,rfl,rfl⟩:=Dy h;exact Ag3 e
end Go.Proofs.YtkbgidbledjejaaGreat.Ed
