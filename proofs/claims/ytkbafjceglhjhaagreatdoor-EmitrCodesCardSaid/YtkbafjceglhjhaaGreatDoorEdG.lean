/-
  Callees that write a row of the caller's, and callees that append to it: what the caller's own memory is behind them. Conditions: as before.
-/
import Derived.Test.YtkbafjceglhjhaaGreatDoorSyS
import Derived.ChangeSame
import Derived.Test.YtkbafjceglhjhaaGreatDoorSyA
import Derived.Test.YtkbafjceglhjhaaGreatDoorProg
import Derived.KernelRfl
import Derived.Test.YtkbafjceglhjhaaGreatDoorRows
namespace Go.Sy
def Px (P:Program) (G:Nat->V) (f:FuncId) (M:List V->List Blk->A3):Prop :=
 ∀ vs cs κ S h w v h',Good κ S h w->SA G S w->VRs S w vs κ cs->(M vs h).sem=some (v,h') ->
  Lq P f cs w λe w'=>∃ c κ' S',e = .returned c∧Good κ' S' (after h h') w'∧VR S' w' v κ' c∧Ext κ S h w κ' S' (after h h') w'∧Yi κ κ' w w' h'
def Ke (P:Program) (G:Nat->V) (mt:List (Nat×(List V->List Blk->A3))):Prop:=∀ p,p ∈ mt->Px P G p.1 p.2
theorem Ke.nil {P:Program} {G:Nat->V}:Ke P G []:=λ_ h=>by cases h
theorem Ke.cons {P:Program} {G:Nat->V} {f:Nat} {M:List V->List Blk->A3} {mt:List (Nat×(List V->List Blk->A3))} (h:Px P G f M) (ht:Ke P G mt):Ke P G ((f,M)::mt):=λp hp=>by
 rcases List.mem_cons.1 hp with rfl | hp
 ·exact h
 ·exact ht p hp
def XS (mt:List (Nat×(List V->List Blk->A3))) (tbl:A9) (f:FuncId) (vs:List V) (st:St):T (V×Res) :=
 match I8 f mt with
 | some M=>AaT (M vs st.h)
 | none=>Ax tbl f vs st
theorem AcL {P:Program} {Γ:Cx0} {mt:List (Nat×(List V->List Blk->A3))} {tbl:A9} (hc:Γ.call=XS mt tbl) (hm:Ke P Γ.glob mt) (ht:Ao P Γ.glob tbl):Bj P Γ:=by
 intro f vs cs κ S st l w v r hg hE hv htt he;rw [hc] at he;unfold XS at he;split at he
 ·rename_i M hM
  obtain ⟨l2,rfl,he2⟩:=Oc he;exact hm _ (HL hM) vs cs κ S st.h w v l2 hg hE hv he2
 ·exact E7 (Γ:=⟨Ax tbl,Γ.glob⟩) rfl ht f vs cs κ S st l w v r hg hE hv htt he
def Xh (e s:Nat) (F:Nat->(Nat->V)->List V->T (Nat->V)):List V->List Blk->A3
 | .ref id::vs,h=>match h[id]? with
  | some (.row e' s' n g)=>match Nat.beq e e',Nat.beq s s' with
   | true,true=>(F n g vs).bind λg'=>.leaf (.tup [],.dead::h.set id (.row e s n g'))
   | _,_=>.fail
  | _=>.fail
 | .mref id i::vs,h=>match h[id]? with
  | some (.jag j)=>match Nat.beq e j.e',Nat.beq s j.s' with
   | true,true=>.br (j.live i) ((F (j.len i) (j.mem i) vs).bind λg'=>.leaf (.tup [],.dead::h.set id (.jag { j with mem:=CN j.mem i g' }))) .fail
   | _,_=>.fail
  | _=>.fail
 | _,_=>.fail
def Q1 (e s:Nat) (F:Nat->(Nat->V)->List V->T Unit):List V->List Blk->A3
 | .ref id::vs,h=>match h[id]? with
  | some (.row e' s' n g)=>match Nat.beq e e',Nat.beq s s' with
   | true,true=>(F n g vs).bind λ_=>.leaf (.tup [],.dead::h)
   | _,_=>.fail
  | _=>.fail
 | .mref id i::vs,h=>match h[id]? with
  | some (.jag j)=>match Nat.beq e j.e',Nat.beq s j.s' with
   | true,true=>.br (j.live i) ((F (j.len i) (j.mem i) vs).bind λ_=>.leaf (.tup [],.dead::h)) .fail
   | _,_=>.fail
  | _=>.fail
 | _,_=>.fail
theorem Nn {S S':Nat->Prop} {w w':World} {κ κ':Ar} {c:Value} (h:VR S w (.tup []) κ c):VR S' w' (.tup []) κ' c:=h
section
variable {P:Program} {τ:List Ty} (hτ:TabOK P τ) (hm:P.follows .mixedOrders=true) {G:Nat->V} {f:FuncId} {fn:Func} {e s:Nat}
include hτ hm in
theorem AaX {F:Nat->(Nat->V)->List V->T (Nat->V)} (hf:P.funcs[f]? = some fn) (hb:fn.body.isSome=true) (hn:(fn.name == "runtime.NumGoroutine")=false)
  (H:∀ n g vs g',(F n g vs).sem=some g'->Gu.frees vs=true∧(∀ i,i<n->Lj (g' i)=true)∧∃ Γ:Cx,Γ.glob=G∧Bj P Γ.base∧Ca Γ ∧
   ∃ g0 h' g2,(∀ i,i<n->g0 i=g i)∧(Ai τ Γ fn (.ref 0::vs) [.xrow false e s n g0]).sem=some (.tup [],h')∧h'[0]? = some (.xrow false e s n g2)∧∀ i,i<n->g' i=g2 i):Px P G f (Xh e s F):=by
 intro vs cs κ S h w v h' hg hE hv he;obtain ⟨c,hb⟩:=Option.isSome_iff_exists.1 hb;have hn:fn.name ≠ "runtime.NumGoroutine":=by simpa using hn
 unfold Xh at he;split at he
 ·rename_i id vs'
  split at he
  ·rename_i e' s' n g hh
   split at he
   ·rename_i h1 h2
    obtain rfl:=Nat.eq_of_beq_eq_true h1;obtain rfl:=Nat.eq_of_beq_eq_true h2;obtain ⟨g',q1,q2⟩:=Af he;have q2:=Aa q2;simp only [Prod.mk.injEq] at q2;obtain ⟨rfl,rfl⟩:=q2;obtain ⟨hfr,hbare,Γ,rfl,hΓ,hΛ,g0,h1',g2,hg0,he',hh',hg2⟩:=H n g vs' g' q1;obtain ⟨c0,cs',rfl,⟨hc0,hsl⟩,hvs⟩:=hv;have hv1:VRs S w (.ref 0::vs') (YE κ id) (c0::cs'):=⟨c0,cs',rfl,⟨hc0,hsl⟩,D4 vs' cs' hfr hvs⟩;refine .inl ⟨⟨fn,hf,hn,by rw [hb]; rfl⟩,(Gi (P:=P) hτ hm hΓ hΛ hf hb (hg.one (lk:=false) hh hg0) hE hv1 he').mono ?_⟩
    rintro en w' ⟨u,κ',S',rfl,g1,g2',g3⟩
    have hfix:=g3.fix 0 _ hh' (.inl ⟨_,_,_,_,rfl⟩);have hk0:κ' 0=κ id:=hfix.1;have hkeep:∀ b,b<w.heap.size->¬ AC κ h id b->w'.heap[b]? = w.heap[b]?:=λb hb hne=>g3.keep b hb λi hi=>hne ((Jh hh i b).1 hi).2;have hB:AS S w' κ (κ id) (.row e s n g'):=by
     obtain ⟨r0,cc,xs,r1,r2,r3⟩:=g1.blk 0 _ hh';refine ⟨r0,cc,xs,by rw [<- hk0]; exact r1,r2,λi hi=>?_⟩;obtain ⟨ci,p1,p2,p3,p4⟩:=r3 i hi;exact ⟨ci,GK _ _ _ (hbare i hi) (by rw [hg2 i hi]; exact p1),p2,p3,p4⟩
    exact ⟨u,κ,S,rfl,hg.back hh g3.size hkeep hB,Nn g2',Ext.back hg hh g3.os g3.tape g3.output g3.size hkeep hB,λ_ _ h=>h,λh=>nomatch h⟩
   ·cases he
  ·cases he
 ·rename_i id i vs'
  split at he
  ·rename_i j hh
   split at he
   ·rename_i h1 h2
    obtain rfl:=Nat.eq_of_beq_eq_true h1;obtain rfl:=Nat.eq_of_beq_eq_true h2;obtain ⟨hl,he⟩:=Ac he;obtain ⟨g',q1,q2⟩:=Af he;have q2:=Aa q2;simp only [Prod.mk.injEq] at q2;obtain ⟨rfl,rfl⟩:=q2;obtain ⟨hfr,hbare,Γ,rfl,hΓ,hΛ,g0,h1',g2,hg0,he',hh',hg2⟩:=H (j.len i) (j.mem i) vs' g' q1;obtain ⟨c0,cs',rfl,⟨o,ms,hk,hm0,hsl⟩,hvs⟩:=hv;have hv1:VRs S w (.ref 0::vs') (YD c0) (c0::cs'):=⟨c0,cs',rfl,⟨rfl,.inl hsl⟩,D4 vs' cs' hfr hvs⟩;refine .inl ⟨⟨fn,hf,hn,by rw [hb]; rfl⟩,(Gi (P:=P) hτ hm hΓ hΛ hf hb (hg.oneM (lk:=false) hh hk hm0 hsl hl hg0) hE hv1 he').mono ?_⟩
    rintro en w' ⟨u,κ',S',rfl,g1,g2',g3⟩
    have hfix:=g3.fix 0 _ hh' (.inl ⟨_,_,_,_,rfl⟩);have hk0:κ' 0=some c0:=hfix.1;have hkeep:∀ b,b<w.heap.size->¬ Am (some c0)=some b->w'.heap[b]? = w.heap[b]?:=λb hb hne=>g3.keep b hb λi hi=>hne ((Hn i b).1 hi).2;obtain ⟨r0,cc,xs,r1,r2,r3⟩:=g1.blk 0 _ hh';rw [hk0] at r1;cases r1;have hB:=IE (w':=w') (g':=g') hg hh hk hm0 hsl hl hkeep r2 (λi hi=>by
     obtain ⟨ci,p1,p2,p3,p4⟩:=r3 i hi;exact ⟨ci,GK _ _ _ (hbare i hi) (by rw [hg2 i hi]; exact p1),p2,p3,p4⟩)
    exact ⟨u,κ,S,rfl,hg.backM hh hk hm0 g3.size hkeep hB,Nn g2',Ext.backM hg hh hk hm0 g3.os g3.tape g3.output g3.size hkeep hB,λ_ _ h=>h,λh=>nomatch h⟩
   ·cases he
  ·cases he
 ·cases he
include hτ hm in
theorem Ud {F:Nat->(Nat->V)->List V->T Unit} (hf:P.funcs[f]? = some fn) (hb:fn.body.isSome=true) (hn:(fn.name == "runtime.NumGoroutine")=false)
  (H:∀ n g vs u,(F n g vs).sem=some u->Gu.frees vs=true∧∃ Γ:Cx,Γ.glob=G∧Bj P Γ.base∧Ca Γ ∧
   ∃ h',(Ai τ Γ fn (.ref 0::vs) [.xrow true e s n g]).sem=some (.tup [],h')):Px P G f (Q1 e s F):=by
 intro vs cs κ S h w v h' hg hE hv he;obtain ⟨c,hb⟩:=Option.isSome_iff_exists.1 hb;have hn:fn.name ≠ "runtime.NumGoroutine":=by simpa using hn
 unfold Q1 at he;split at he
 ·rename_i id vs'
  split at he
  ·rename_i e' s' n g hh
   split at he
   ·rename_i h1 h2
    obtain rfl:=Nat.eq_of_beq_eq_true h1;obtain rfl:=Nat.eq_of_beq_eq_true h2;obtain ⟨u0,q1,q2⟩:=Af he;have q2:=Aa q2;simp only [Prod.mk.injEq] at q2;obtain ⟨rfl,rfl⟩:=q2;obtain ⟨hfr,Γ,rfl,hΓ,hΛ,h1',he'⟩:=H n g vs' u0 q1;obtain ⟨c0,cs',rfl,⟨hc0,hsl⟩,hvs⟩:=hv;have hv1:VRs S w (.ref 0::vs') (YE κ id) (c0::cs'):=⟨c0,cs',rfl,⟨hc0,hsl⟩,D4 vs' cs' hfr hvs⟩;refine .inl ⟨⟨fn,hf,hn,by rw [hb]; rfl⟩,(Gi (P:=P) hτ hm hΓ hΛ hf hb (hg.one (lk:=true) hh λ_ _=>rfl) hE hv1 he').mono ?_⟩
    rintro en w' ⟨u,κ',S',rfl,g1,g2',g3⟩
    have hkeep:∀ b,b<w.heap.size->¬ AC κ h id b->w'.heap[b]? = w.heap[b]?:=λb hb hne=>g3.keep b hb λi hi=>hne ((Jh hh i b).1 hi).2;have hS:∀ b,S b->S b∧w'.heap[b]? = w.heap[b]?:=λb hb=>⟨hb,hkeep b (hg.out b hb).1 ((hg.out b hb).2 id)⟩;have hset:h.set id (.row e s n g)=h:=by
     have hl:=(List.getElem?_eq_some_iff.1 hh).1;have:=(List.getElem?_eq_some_iff.1 hh).2;rw [<- this,List.set_getElem_self]
    have hB:AS S w' κ (κ id) (.row e s n g):=by
     obtain ⟨r0,cc,xs,r1,r2,r3⟩:=hg.blk id _ hh;refine ⟨r0,cc,xs,r1,⟨r2.1,?_⟩,r3.mono hS⟩;rcases r2.2 with hnil | ⟨k,cap,cur,rfl,k0,k1,k2,k3,k4,k5⟩
     ·exact .inl hnil
     ·have hown:AC κ h id k:=(Aw hh).2 (by rw [r1]; rfl)
      have hsafe:UK (YE κ id) [.xrow true e s n g] w k (n * s):=⟨hg.lt hown,λi hi=>by
       have:=((Jh hh i k).1 hi).1;subst this;exact ⟨e,s,n,g,rfl,Nat.le_refl _⟩⟩
      obtain ⟨cur',p1,p2,p3⟩:=(g3.pre k (n * s) hsafe).2 cur e (0,0) k1;refine .inr ⟨k,cap,cur',rfl,k0,p1,k2,k3,by rw [p2,k4],?_⟩;rw [<- k5];apply List.ext_getElem?;intro j;rw [List.getElem?_take,List.getElem?_take];split
      ·rename_i hj
       rw [Array.getElem?_toList,Array.getElem?_toList];exact p3 j hj
      ·rfl
    have hgood:=hg.back (g':=g) hh g3.size hkeep hB;have hext:=Ext.back (S:=S) (g':=g) hg hh g3.os g3.tape g3.output g3.size hkeep hB;rw [hset] at hgood hext;exact ⟨u,κ,S,rfl,hgood,Nn g2',hext,λ_ _ h=>h,λh=>nomatch h⟩
   ·cases he
  ·cases he
 ·rename_i id i vs'
  split at he
  ·rename_i j hh
   split at he
   ·rename_i h1 h2
    obtain rfl:=Nat.eq_of_beq_eq_true h1;obtain rfl:=Nat.eq_of_beq_eq_true h2;obtain ⟨hl,he⟩:=Ac he;obtain ⟨u0,q1,q2⟩:=Af he;have q2:=Aa q2;simp only [Prod.mk.injEq] at q2;obtain ⟨rfl,rfl⟩:=q2;obtain ⟨hfr,Γ,rfl,hΓ,hΛ,h1',he'⟩:=H (j.len i) (j.mem i) vs' u0 q1;obtain ⟨c0,cs',rfl,⟨o,ms,hk,hm0,hsl⟩,hvs⟩:=hv;have hv1:VRs S w (.ref 0::vs') (YD c0) (c0::cs'):=⟨c0,cs',rfl,⟨rfl,.inl hsl⟩,D4 vs' cs' hfr hvs⟩;have hg1:=hg.oneM (lk:=true) hh hk hm0 hsl hl λ_ _=>rfl;refine .inl ⟨⟨fn,hf,hn,by rw [hb]; rfl⟩,(Gi (P:=P) hτ hm hΓ hΛ hf hb hg1 hE hv1 he').mono ?_⟩
    rintro en w' ⟨u,κ',S',rfl,g1,g2',g3⟩
    have hkeep:∀ b,b<w.heap.size->¬ Am (some c0)=some b->w'.heap[b]? = w.heap[b]?:=λb hb hne=>g3.keep b hb λi hi=>hne ((Hn i b).1 hi).2;have hS:∀ b,S b->S b∧w'.heap[b]? = w.heap[b]?:=λb hb=>⟨hb,hkeep b (hg.out b hb).1 λq=>(hg.out b hb).2 id (HF hh hk hm0 b q)⟩;have hset:h.set id (.jag { j with mem:=CN j.mem i (j.mem i) })=h:=by
     have hl:=(List.getElem?_eq_some_iff.1 hh).1;have:=(List.getElem?_eq_some_iff.1 hh).2;have e:CN j.mem i (j.mem i)=j.mem:=by
      funext k;by_cases hki:k=i
      ·rw [hki,FK]
      ·rw [IW hki]
     rw [e];show h.set id (.jag j)=h;rw [<- this,List.set_getElem_self]
    obtain ⟨r0,cc,xs,r1,r2,r3⟩:=hg1.blk 0 _ rfl;cases r1;have hB:=IE (w':=w') (g':=j.mem i) (ys:=xs) hg hh hk hm0 hsl hl hkeep ⟨r2.1,by
     rcases r2.2 with hnil | ⟨k,cap,cur,rfl,k0,k1,k2,k3,k4,k5⟩
     ·exact .inl hnil
     ·have hown:AC κ h id k:=HF hh hk hm0 k rfl
      have hsafe:UK (YD (.slice (some ⟨k,0,none⟩) (j.len i) cap)) [.xrow true j.e' j.s' (j.len i) (j.mem i)] w k (j.len i * j.s'):=⟨hg.lt hown,λq hq=>by
       have:=((Hn q k).1 hq).1;subst this;exact ⟨_,_,_,_,rfl,Nat.le_refl _⟩⟩
      obtain ⟨cur',p1,p2,p3⟩:=(g3.pre k (j.len i * j.s') hsafe).2 cur j.e' (0,0) k1;refine .inr ⟨k,cap,cur',rfl,k0,p1,k2,k3,by rw [p2,k4],?_⟩;rw [<- k5];apply List.ext_getElem?;intro q;rw [List.getElem?_take,List.getElem?_take];split
      ·rename_i hq
       rw [Array.getElem?_toList,Array.getElem?_toList];exact p3 q hq
      ·rfl⟩ (r3.mono hS)
    have hgood:=hg.backM hh hk hm0 g3.size hkeep hB;have hext:=Ext.backM (S:=S) hg hh hk hm0 g3.os g3.tape g3.output g3.size hkeep hB;rw [hset] at hgood hext;exact ⟨u,κ,S,rfl,hgood,Nn g2',hext,λ_ _ h=>h,λh=>nomatch h⟩
   ·cases he
  ·cases he
 ·cases he
end
end Go.Sy
namespace Go.Sy
end Go.Sy
namespace Go.Sy
open Go.Proofs
set_option maxRecDepth 100000
def tab:List Ty:=[
 ⟨.other,1,0,.und,false⟩,
 ⟨.other,1,8,.val (.nilFunc),false⟩,
 ⟨.int .i64,1,8,.val (.int .i64 0),false⟩,
 ⟨.int .i64,1,8,.val (.int .i64 0),false⟩,
 ⟨.bool,1,1,.val (.bool false),false⟩,
 ⟨.int .u8,1,1,.val (.int .u8 0),false⟩,
 ⟨.int .u8,1,1,.val (.int .u8 0),false⟩,
 ⟨.st [(0,2),(1,3),(2,4),(3,6)],4,24,.agg [.val (.int .i64 0),.val (.int .i64 0),.val (.bool false),.val (.int .u8 0)],true⟩,
 ⟨.st [(0,2),(1,3),(2,4),(3,6)],4,24,.agg [.val (.int .i64 0),.val (.int .i64 0),.val (.bool false),.val (.int .u8 0)],true⟩,
 ⟨.str,1,16,.str [],false⟩,
 ⟨.str,1,16,.str [],false⟩,
 ⟨.str,1,16,.str [],false⟩,
 ⟨.int .u64,1,8,.val (.int .u64 0),false⟩,
 ⟨.st [(0,9),(1,12)],2,24,.agg [.str [],.val (.int .u64 0)],false⟩,
 ⟨.st [(0,9),(1,12)],2,24,.agg [.str [],.val (.int .u64 0)],false⟩,
 ⟨.other,1,8,.val (.pointer none),false⟩,
 ⟨.other,1,8,.val (.pointer none),false⟩,
 ⟨.other,1,8,.val (.pointer none),false⟩,
 ⟨.st [(0,17)],1,8,.agg [.val (.pointer none)],false⟩,
 ⟨.st [(0,17)],1,8,.agg [.val (.pointer none)],false⟩,
 ⟨.other,1,16,.val (.nilIface),false⟩,
 ⟨.int .i32,1,4,.val (.int .i32 0),false⟩,
 ⟨.sl 76,1,24,.nilS,false⟩,
 ⟨.sl 74,1,24,.nilS,false⟩,
 ⟨.sl 3,1,24,.nilS,false⟩,
 ⟨.sl 24,1,24,.nilS,false⟩,
 ⟨.st [(0,3),(1,22),(2,23),(3,3),(4,3),(5,24),(6,25)],7,120,.agg [.val (.int .i64 0),.nilS,.nilS,.val (.int .i64 0),.val (.int .i64 0),.nilS,.nilS],false⟩,
 ⟨.st [(0,3),(1,22),(2,23),(3,3),(4,3),(5,24),(6,25)],7,120,.agg [.val (.int .i64 0),.nilS,.nilS,.val (.int .i64 0),.val (.int .i64 0),.nilS,.nilS],false⟩,
 ⟨.other,1,8,.val (.nilFunc),false⟩,
 ⟨.sl 63,1,24,.nilS,false⟩,
 ⟨.int .i64,1,8,.val (.int .i64 0),false⟩,
 ⟨.other,1,0,.und,false⟩,
 ⟨.other,1,8,.val (.nilFunc),false⟩,
 ⟨.other,1,0,.und,false⟩,
 ⟨.other,1,8,.val (.nilFunc),false⟩,
 ⟨.sl 68,1,24,.nilS,false⟩,
 ⟨.other,1,0,.und,false⟩,
 ⟨.other,1,8,.val (.nilFunc),false⟩,
 ⟨.other,1,8,.val (.nilFunc),false⟩,
 ⟨.other,1,8,.val (.nilFunc),false⟩,
 ⟨.other,1,8,.val (.nilFunc),false⟩,
 ⟨.other,1,8,.val (.nilFunc),false⟩,
 ⟨.st [(0,3),(1,3),(2,9)],3,32,.agg [.val (.int .i64 0),.val (.int .i64 0),.str []],true⟩,
 ⟨.st [(0,3),(1,3),(2,9)],3,32,.agg [.val (.int .i64 0),.val (.int .i64 0),.str []],true⟩,
 ⟨.sl 46,1,24,.nilS,false⟩,
 ⟨.st [(0,3),(1,43),(4,3),(5,44)],6,72,.agg [.val (.int .i64 0),.val (.int .i64 0),.val (.int .i64 0),.str [],.val (.int .i64 0),.nilS],false⟩,
 ⟨.st [(0,3),(1,43),(4,3),(5,44)],6,72,.agg [.val (.int .i64 0),.val (.int .i64 0),.val (.int .i64 0),.str [],.val (.int .i64 0),.nilS],false⟩,
 ⟨.st [(0,3),(1,46)],7,80,.agg [.val (.int .i64 0),.val (.int .i64 0),.val (.int .i64 0),.val (.int .i64 0),.str [],.val (.int .i64 0),.nilS],false⟩,
 ⟨.st [(0,3),(1,46)],7,80,.agg [.val (.int .i64 0),.val (.int .i64 0),.val (.int .i64 0),.val (.int .i64 0),.str [],.val (.int .i64 0),.nilS],false⟩,
 ⟨.st [(0,3),(1,9),(2,9),(3,35),(4,29),(5,48)],12,168,.agg [.val (.int .i64 0),.str [],.str [],.nilS,.nilS,.val (.int .i64 0),.val (.int .i64 0),.val (.int .i64 0),.val (.int .i64 0),.str [],.val (.int .i64 0),.nilS],false⟩,
 ⟨.st [(0,3),(1,9),(2,9),(3,35),(4,29),(5,48)],12,168,.agg [.val (.int .i64 0),.str [],.str [],.nilS,.nilS,.val (.int .i64 0),.val (.int .i64 0),.val (.int .i64 0),.val (.int .i64 0),.str [],.val (.int .i64 0),.nilS],false⟩,
 ⟨.other,1,8,.val (.nilFunc),false⟩,
 ⟨.other,1,8,.val (.nilFunc),false⟩,
 ⟨.other,1,8,.val (.nilFunc),false⟩,
 ⟨.other,1,8,.val (.nilFunc),false⟩,
 ⟨.other,1,8,.val (.nilFunc),false⟩,
 ⟨.other,1,8,.val (.nilFunc),false⟩,
 ⟨.other,1,0,.und,false⟩,
 ⟨.other,1,8,.val (.nilFunc),false⟩,
 ⟨.other,1,8,.val (.nilFunc),false⟩,
 ⟨.other,1,8,.val (.nilFunc),false⟩,
 ⟨.other,1,0,.und,false⟩,
 ⟨.other,1,8,.val (.nilFunc),false⟩,
 ⟨.sl 72,1,24,.nilS,false⟩,
 ⟨.arr 32 3,32,256,.agg [.val (.int .i64 0),.val (.int .i64 0),.val (.int .i64 0),.val (.int .i64 0),.val (.int .i64 0),.val (.int .i64 0),.val (.int .i64 0),.val (.int .i64 0),.val (.int .i64 0),.val (.int .i64 0),.val (.int .i64 0),.val (.int .i64 0),.val (.int .i64 0),.val (.int .i64 0),.val (.int .i64 0),.val (.int .i64 0),.val (.int .i64 0),.val (.int .i64 0),.val (.int .i64 0),.val (.int .i64 0),.val (.int .i64 0),.val (.int .i64 0),.val (.int .i64 0),.val (.int .i64 0),.val (.int .i64 0),.val (.int .i64 0),.val (.int .i64 0),.val (.int .i64 0),.val (.int .i64 0),.val (.int .i64 0),.val (.int .i64 0),.val (.int .i64 0)],true⟩,
 ⟨.st [(0,9),(1,3)],2,24,.agg [.str [],.val (.int .i64 0)],true⟩,
 ⟨.st [(0,9),(1,3)],2,24,.agg [.str [],.val (.int .i64 0)],true⟩,
 ⟨.st [(0,3),(1,3),(2,9),(3,66)],5,56,.agg [.val (.int .i64 0),.val (.int .i64 0),.str [],.str [],.val (.int .i64 0)],true⟩,
 ⟨.st [(0,3),(1,3),(2,9),(3,66)],5,56,.agg [.val (.int .i64 0),.val (.int .i64 0),.str [],.str [],.val (.int .i64 0)],true⟩,
 ⟨.other,1,0,.und,false⟩,
 ⟨.other,1,8,.val (.nilFunc),false⟩,
 ⟨.st [(0,3),(1,3),(2,3),(3,3),(4,3),(5,9),(6,9),(7,3)],8,80,.agg [.val (.int .i64 0),.val (.int .i64 0),.val (.int .i64 0),.val (.int .i64 0),.val (.int .i64 0),.str [],.str [],.val (.int .i64 0)],true⟩,
 ⟨.st [(0,3),(1,3),(2,3),(3,3),(4,3),(5,9),(6,9),(7,3)],8,80,.agg [.val (.int .i64 0),.val (.int .i64 0),.val (.int .i64 0),.val (.int .i64 0),.val (.int .i64 0),.str [],.str [],.val (.int .i64 0)],true⟩,
 ⟨.st [(0,3),(1,3),(2,3),(3,3),(4,3)],5,40,.agg [.val (.int .i64 0),.val (.int .i64 0),.val (.int .i64 0),.val (.int .i64 0),.val (.int .i64 0)],true⟩,
 ⟨.st [(0,3),(1,3),(2,3),(3,3),(4,3)],5,40,.agg [.val (.int .i64 0),.val (.int .i64 0),.val (.int .i64 0),.val (.int .i64 0),.val (.int .i64 0)],true⟩,
 ⟨.st [(0,3),(1,4),(2,4),(3,3),(4,3),(5,3)],6,40,.agg [.val (.int .i64 0),.val (.bool false),.val (.bool false),.val (.int .i64 0),.val (.int .i64 0),.val (.int .i64 0)],true⟩,
 ⟨.st [(0,3),(1,4),(2,4),(3,3),(4,3),(5,3)],6,40,.agg [.val (.int .i64 0),.val (.bool false),.val (.bool false),.val (.int .i64 0),.val (.int .i64 0),.val (.int .i64 0)],true⟩,
 ⟨.sl 66,1,24,.nilS,false⟩,
 ⟨.st [(0,77),(1,3)],2,32,.agg [.nilS,.val (.int .i64 0)],false⟩,
 ⟨.st [(0,77),(1,3)],2,32,.agg [.nilS,.val (.int .i64 0)],false⟩,
 ⟨.st [(0,3),(1,9),(2,3),(3,3),(4,3)],5,48,.agg [.val (.int .i64 0),.str [],.val (.int .i64 0),.val (.int .i64 0),.val (.int .i64 0)],true⟩,
 ⟨.st [(0,3),(1,9),(2,3),(3,3),(4,3)],5,48,.agg [.val (.int .i64 0),.str [],.val (.int .i64 0),.val (.int .i64 0),.val (.int .i64 0)],true⟩,
 ⟨.other,1,0,.und,false⟩,
 ⟨.other,1,8,.val (.nilFunc),false⟩,
 ⟨.other,1,8,.val (.nilFunc),false⟩,
 ⟨.other,1,8,.val (.nilFunc),false⟩,
 ⟨.other,1,8,.val (.nilFunc),false⟩,
 ⟨.sl 94,1,24,.nilS,false⟩,
 ⟨.other,1,8,.val (.nilFunc),false⟩,
 ⟨.other,1,8,.val (.pointer none),false⟩,
 ⟨.st [(0,63)],1,24,.agg [.nilS],false⟩,
 ⟨.st [(0,63)],1,24,.agg [.nilS],false⟩,
 ⟨.imap 3,1,8,.val (.map none),false⟩,
 ⟨.st [(0,24),(1,92)],2,32,.agg [.nilS,.val (.map none)],false⟩,
 ⟨.st [(0,24),(1,92)],2,32,.agg [.nilS,.val (.map none)],false⟩,
 ⟨.other,1,8,.val (.pointer none),false⟩,
 ⟨.st [(0,89),(1,94),(3,95)],4,48,.agg [.val (.pointer none),.nilS,.val (.map none),.val (.pointer none)],false⟩,
 ⟨.st [(0,89),(1,94),(3,95)],4,48,.agg [.val (.pointer none),.nilS,.val (.map none),.val (.pointer none)],false⟩,
 ⟨.other,1,8,.val (.nilFunc),false⟩,
 ⟨.other,1,8,.val (.nilFunc),false⟩,
 ⟨.other,1,0,.und,false⟩,
 ⟨.other,1,8,.val (.nilFunc),false⟩,
 ⟨.other,1,0,.und,false⟩,
 ⟨.other,1,8,.val (.nilFunc),false⟩,
 ⟨.other,1,8,.val (.nilFunc),false⟩,
 ⟨.other,1,8,.val (.nilFunc),false⟩,
 ⟨.other,1,8,.val (.nilFunc),false⟩,
 ⟨.other,1,8,.val (.nilFunc),false⟩,
 ⟨.other,1,8,.val (.nilFunc),false⟩,
 ⟨.other,1,8,.val (.nilFunc),false⟩,
 ⟨.other,1,8,.val (.nilFunc),false⟩,
 ⟨.other,1,8,.val (.nilFunc),false⟩,
 ⟨.other,1,0,.und,false⟩,
 ⟨.other,1,8,.val (.nilFunc),false⟩,
 ⟨.other,1,8,.val (.nilFunc),false⟩,
 ⟨.other,1,8,.val (.nilFunc),false⟩,
 ⟨.other,1,8,.val (.nilFunc),false⟩,
 ⟨.other,1,8,.val (.nilFunc),false⟩,
 ⟨.other,1,8,.val (.nilFunc),false⟩,
 ⟨.other,1,8,.val (.pointer none),false⟩,
 ⟨.other,1,8,.val (.nilFunc),false⟩,
 ⟨.st [(0,72),(8,66),(10,66),(12,3),(13,79),(15,81)],20,216,.agg [.val (.int .i64 0),.val (.int .i64 0),.val (.int .i64 0),.val (.int .i64 0),.val (.int .i64 0),.str [],.str [],.val (.int .i64 0),.str [],.val (.int .i64 0),.str [],.val (.int .i64 0),.val (.int .i64 0),.nilS,.val (.int .i64 0),.val (.int .i64 0),.str [],.val (.int .i64 0),.val (.int .i64 0),.val (.int .i64 0)],false⟩,
 ⟨.st [(0,72),(8,66),(10,66),(12,3),(13,79),(15,81)],20,216,.agg [.val (.int .i64 0),.val (.int .i64 0),.val (.int .i64 0),.val (.int .i64 0),.val (.int .i64 0),.str [],.str [],.val (.int .i64 0),.str [],.val (.int .i64 0),.str [],.val (.int .i64 0),.val (.int .i64 0),.nilS,.val (.int .i64 0),.val (.int .i64 0),.str [],.val (.int .i64 0),.val (.int .i64 0),.val (.int .i64 0)],false⟩,
 ⟨.other,1,8,.val (.nilFunc),false⟩,
 ⟨.other,1,8,.val (.map none),false⟩,
 ⟨.other,1,8,.val (.nilFunc),false⟩,
 ⟨.other,1,8,.val (.pointer none),false⟩,
 ⟨.other,1,8,.val (.nilFunc),false⟩,
 ⟨.other,1,8,.val (.nilFunc),false⟩,
 ⟨.other,1,8,.val (.nilFunc),false⟩,
 ⟨.other,1,8,.val (.nilFunc),false⟩,
 ⟨.other,1,0,.und,false⟩,
 ⟨.other,1,8,.val (.nilFunc),false⟩,
 ⟨.other,1,0,.und,false⟩,
 ⟨.other,1,8,.val (.nilFunc),false⟩,
 ⟨.sl 43,1,24,.nilS,false⟩,
 ⟨.other,1,0,.und,false⟩,
 ⟨.other,1,8,.val (.nilFunc),false⟩,
 ⟨.other,1,8,.val (.nilFunc),false⟩,
 ⟨.other,1,8,.val (.nilFunc),false⟩,
 ⟨.sl 9,1,24,.nilS,false⟩,
 ⟨.other,1,8,.val (.nilFunc),false⟩,
 ⟨.other,1,8,.val (.nilFunc),false⟩,
 ⟨.other,1,0,.und,false⟩,
 ⟨.other,1,8,.val (.nilFunc),false⟩,
 ⟨.other,1,8,.val (.nilFunc),false⟩,
 ⟨.other,1,8,.val (.nilFunc),false⟩,
 ⟨.other,1,8,.val (.nilFunc),false⟩,
 ⟨.other,1,8,.val (.nilFunc),false⟩,
 ⟨.other,1,8,.val (.map none),false⟩,
 ⟨.other,1,8,.val (.nilFunc),false⟩,
 ⟨.other,1,8,.val (.nilFunc),false⟩,
 ⟨.other,1,8,.val (.nilFunc),false⟩,
 ⟨.other,1,8,.val (.nilFunc),false⟩,
 ⟨.other,1,8,.val (.nilFunc),false⟩,
 ⟨.other,1,8,.val (.nilFunc),false⟩,
 ⟨.other,1,8,.val (.nilFunc),false⟩,
 ⟨.other,1,0,.und,false⟩,
 ⟨.other,1,8,.val (.nilFunc),false⟩,
 ⟨.other,1,0,.und,false⟩,
 ⟨.other,1,8,.val (.nilFunc),false⟩,
 ⟨.other,1,8,.val (.nilFunc),false⟩,
 ⟨.other,1,8,.val (.nilFunc),false⟩,
 ⟨.other,1,8,.val (.nilFunc),false⟩,
 ⟨.other,1,0,.und,false⟩,
 ⟨.other,1,8,.val (.nilFunc),false⟩,
 ⟨.other,1,8,.val (.pointer none),false⟩,
 ⟨.sl 5,1,24,.nilS,false⟩,
 ⟨.st [(0,166),(1,167)],2,32,.agg [.val (.pointer none),.nilS],false⟩,
 ⟨.st [(0,166),(1,167)],2,32,.agg [.val (.pointer none),.nilS],false⟩,
 ⟨.other,1,8,.val (.nilFunc),false⟩,
 ⟨.other,1,16,.val (.nilIface),false⟩,
 ⟨.other,1,16,.val (.nilIface),false⟩,
 ⟨.other,1,0,.und,false⟩,
 ⟨.other,1,8,.val (.nilFunc),false⟩,
 ⟨.other,1,8,.val (.nilFunc),false⟩,
 ⟨.other,1,8,.val (.nilFunc),false⟩,
 ⟨.other,1,0,.und,false⟩,
 ⟨.other,1,8,.val (.nilFunc),false⟩,
 ⟨.other,1,8,.val (.nilFunc),false⟩,
 ⟨.other,1,8,.val (.nilFunc),false⟩,
 ⟨.other,1,8,.val (.nilFunc),false⟩,
 ⟨.other,1,8,.val (.nilFunc),false⟩,
 ⟨.other,1,8,.val (.nilFunc),false⟩,
 ⟨.other,1,8,.val (.nilFunc),false⟩,
 ⟨.other,1,8,.val (.nilFunc),false⟩,
 ⟨.other,1,8,.val (.pointer none),false⟩,
 ⟨.other,1,8,.val (.nilFunc),false⟩,
 ⟨.other,1,8,.val (.nilFunc),false⟩,
 ⟨.other,1,8,.val (.nilFunc),false⟩,
 ⟨.other,1,8,.val (.nilFunc),false⟩,
 ⟨.other,1,0,.und,false⟩,
 ⟨.other,1,8,.val (.nilFunc),false⟩,
 ⟨.other,1,8,.val (.nilFunc),false⟩,
 ⟨.other,1,8,.val (.nilFunc),false⟩,
 ⟨.other,1,8,.val (.nilFunc),false⟩,
 ⟨.other,1,8,.val (.nilFunc),false⟩,
 ⟨.arr 6 9,6,96,.agg [.str [],.str [],.str [],.str [],.str [],.str []],true⟩,
 ⟨.arr 10 9,10,160,.agg [.str [],.str [],.str [],.str [],.str [],.str [],.str [],.str [],.str [],.str []],true⟩,
 ⟨.arr 9 9,9,144,.agg [.str [],.str [],.str [],.str [],.str [],.str [],.str [],.str [],.str []],true⟩,
 ⟨.arr 4 9,4,64,.agg [.str [],.str [],.str [],.str []],true⟩,
 ⟨.other,1,8,.val (.pointer none),false⟩,
 ⟨.other,1,0,.und,false⟩,
 ⟨.other,1,8,.val (.nilFunc),false⟩,
 ⟨.other,1,8,.val (.nilFunc),false⟩,
 ⟨.other,1,8,.val (.nilFunc),false⟩,
 ⟨.other,1,8,.val (.nilFunc),false⟩,
 ⟨.other,1,8,.val (.nilFunc),false⟩,
 ⟨.other,1,8,.val (.nilFunc),false⟩,
 ⟨.other,1,8,.val (.nilFunc),false⟩,
 ⟨.sl 4,1,24,.nilS,false⟩,
 ⟨.other,1,8,.val (.nilFunc),false⟩,
 ⟨.other,1,8,.val (.pointer none),false⟩,
 ⟨.other,1,8,.val (.nilFunc),false⟩,
 ⟨.other,1,8,.val (.nilFunc),false⟩,
 ⟨.other,1,8,.val (.nilFunc),false⟩,
 ⟨.other,1,8,.val (.nilFunc),false⟩,
 ⟨.arr 24 5,24,24,.agg [.val (.int .u8 0),.val (.int .u8 0),.val (.int .u8 0),.val (.int .u8 0),.val (.int .u8 0),.val (.int .u8 0),.val (.int .u8 0),.val (.int .u8 0),.val (.int .u8 0),.val (.int .u8 0),.val (.int .u8 0),.val (.int .u8 0),.val (.int .u8 0),.val (.int .u8 0),.val (.int .u8 0),.val (.int .u8 0),.val (.int .u8 0),.val (.int .u8 0),.val (.int .u8 0),.val (.int .u8 0),.val (.int .u8 0),.val (.int .u8 0),.val (.int .u8 0),.val (.int .u8 0)],true⟩,
 ⟨.int .u64,1,8,.val (.int .u64 0),false⟩,
 ⟨.other,1,8,.val (.nilFunc),false⟩,
 ⟨.other,1,8,.val (.nilFunc),false⟩,
 ⟨.other,1,0,.und,false⟩,
 ⟨.other,1,8,.val (.nilFunc),false⟩,
 ⟨.other,1,8,.val (.nilFunc),false⟩,
 ⟨.arr 20 218,20,160,.agg [.val (.int .u64 0),.val (.int .u64 0),.val (.int .u64 0),.val (.int .u64 0),.val (.int .u64 0),.val (.int .u64 0),.val (.int .u64 0),.val (.int .u64 0),.val (.int .u64 0),.val (.int .u64 0),.val (.int .u64 0),.val (.int .u64 0),.val (.int .u64 0),.val (.int .u64 0),.val (.int .u64 0),.val (.int .u64 0),.val (.int .u64 0),.val (.int .u64 0),.val (.int .u64 0),.val (.int .u64 0)],true⟩,
 ⟨.int .u32,1,4,.val (.int .u32 0),false⟩,
 ⟨.arr 65 5,65,65,.agg [.val (.int .u8 0),.val (.int .u8 0),.val (.int .u8 0),.val (.int .u8 0),.val (.int .u8 0),.val (.int .u8 0),.val (.int .u8 0),.val (.int .u8 0),.val (.int .u8 0),.val (.int .u8 0),.val (.int .u8 0),.val (.int .u8 0),.val (.int .u8 0),.val (.int .u8 0),.val (.int .u8 0),.val (.int .u8 0),.val (.int .u8 0),.val (.int .u8 0),.val (.int .u8 0),.val (.int .u8 0),.val (.int .u8 0),.val (.int .u8 0),.val (.int .u8 0),.val (.int .u8 0),.val (.int .u8 0),.val (.int .u8 0),.val (.int .u8 0),.val (.int .u8 0),.val (.int .u8 0),.val (.int .u8 0),.val (.int .u8 0),.val (.int .u8 0),.val (.int .u8 0),.val (.int .u8 0),.val (.int .u8 0),.val (.int .u8 0),.val (.int .u8 0),.val (.int .u8 0),.val (.int .u8 0),.val (.int .u8 0),.val (.int .u8 0),.val (.int .u8 0),.val (.int .u8 0),.val (.int .u8 0),.val (.int .u8 0),.val (.int .u8 0),.val (.int .u8 0),.val (.int .u8 0),.val (.int .u8 0),.val (.int .u8 0),.val (.int .u8 0),.val (.int .u8 0),.val (.int .u8 0),.val (.int .u8 0),.val (.int .u8 0),.val (.int .u8 0),.val (.int .u8 0),.val (.int .u8 0),.val (.int .u8 0),.val (.int .u8 0),.val (.int .u8 0),.val (.int .u8 0),.val (.int .u8 0),.val (.int .u8 0),.val (.int .u8 0)],true⟩,
 ⟨.int .u64,1,8,.val (.int .u64 0),false⟩,
 ⟨.other,1,8,.val (.nilFunc),false⟩,
 ⟨.other,1,8,.val (.nilFunc),false⟩,
 ⟨.arr 32 5,32,32,.agg [.val (.int .u8 0),.val (.int .u8 0),.val (.int .u8 0),.val (.int .u8 0),.val (.int .u8 0),.val (.int .u8 0),.val (.int .u8 0),.val (.int .u8 0),.val (.int .u8 0),.val (.int .u8 0),.val (.int .u8 0),.val (.int .u8 0),.val (.int .u8 0),.val (.int .u8 0),.val (.int .u8 0),.val (.int .u8 0),.val (.int .u8 0),.val (.int .u8 0),.val (.int .u8 0),.val (.int .u8 0),.val (.int .u8 0),.val (.int .u8 0),.val (.int .u8 0),.val (.int .u8 0),.val (.int .u8 0),.val (.int .u8 0),.val (.int .u8 0),.val (.int .u8 0),.val (.int .u8 0),.val (.int .u8 0),.val (.int .u8 0),.val (.int .u8 0)],true⟩,
 ⟨.arr 64 5,64,64,.agg [.val (.int .u8 0),.val (.int .u8 0),.val (.int .u8 0),.val (.int .u8 0),.val (.int .u8 0),.val (.int .u8 0),.val (.int .u8 0),.val (.int .u8 0),.val (.int .u8 0),.val (.int .u8 0),.val (.int .u8 0),.val (.int .u8 0),.val (.int .u8 0),.val (.int .u8 0),.val (.int .u8 0),.val (.int .u8 0),.val (.int .u8 0),.val (.int .u8 0),.val (.int .u8 0),.val (.int .u8 0),.val (.int .u8 0),.val (.int .u8 0),.val (.int .u8 0),.val (.int .u8 0),.val (.int .u8 0),.val (.int .u8 0),.val (.int .u8 0),.val (.int .u8 0),.val (.int .u8 0),.val (.int .u8 0),.val (.int .u8 0),.val (.int .u8 0),.val (.int .u8 0),.val (.int .u8 0),.val (.int .u8 0),.val (.int .u8 0),.val (.int .u8 0),.val (.int .u8 0),.val (.int .u8 0),.val (.int .u8 0),.val (.int .u8 0),.val (.int .u8 0),.val (.int .u8 0),.val (.int .u8 0),.val (.int .u8 0),.val (.int .u8 0),.val (.int .u8 0),.val (.int .u8 0),.val (.int .u8 0),.val (.int .u8 0),.val (.int .u8 0),.val (.int .u8 0),.val (.int .u8 0),.val (.int .u8 0),.val (.int .u8 0),.val (.int .u8 0),.val (.int .u8 0),.val (.int .u8 0),.val (.int .u8 0),.val (.int .u8 0),.val (.int .u8 0),.val (.int .u8 0),.val (.int .u8 0),.val (.int .u8 0)],true⟩,
 ⟨.st [(0,17),(1,17),(2,17),(3,9)],4,40,.agg [.val (.pointer none),.val (.pointer none),.val (.pointer none),.str []],false⟩,
 ⟨.st [(0,17),(1,17),(2,17),(3,9)],4,40,.agg [.val (.pointer none),.val (.pointer none),.val (.pointer none),.str []],false⟩,
 ⟨.arr 0 16,0,0,.agg [],false⟩,
 ⟨.st [(0,234)],0,0,.agg [],false⟩,
 ⟨.st [(0,234)],0,0,.agg [],false⟩,
 ⟨.other,1,8,.val (.nilFunc),false⟩,
 ⟨.int .u8,1,1,.val (.int .u8 0),false⟩,
 ⟨.int .u8,1,1,.val (.int .u8 0),false⟩,
 ⟨.other,1,8,.val (.nilFunc),false⟩,
 ⟨.int .i32,1,4,.val (.int .i32 0),false⟩,
 ⟨.int .i32,1,4,.val (.int .i32 0),false⟩,
 ⟨.st [(0,12),(1,12),(2,225),(3,238),(4,5),(5,5),(6,239),(7,240),(8,201),(9,241),(10,242)],11,48,.agg [.val (.int .u64 0),.val (.int .u64 0),.val (.int .u32 0),.val (.int .u8 0),.val (.int .u8 0),.val (.int .u8 0),.val (.int .u8 0),.val (.nilFunc),.val (.pointer none),.val (.int .i32 0),.val (.int .i32 0)],false⟩,
 ⟨.st [(0,12),(1,12),(2,225),(3,238),(4,5),(5,5),(6,239),(7,240),(8,201),(9,241),(10,242)],11,48,.agg [.val (.int .u64 0),.val (.int .u64 0),.val (.int .u32 0),.val (.int .u8 0),.val (.int .u8 0),.val (.int .u8 0),.val (.int .u8 0),.val (.nilFunc),.val (.pointer none),.val (.int .i32 0),.val (.int .i32 0)],false⟩]
def Ri (P:Program):Nat->Nat->List (Option Ty)
 | 0,_=>[]
 | n+1,k=>ZH P k::Ri P n (Nat.succ k)
def WJ:List Ty->List (Option Ty)
 | []=>[]
 | t::l=>some t::WJ l
theorem Ai8:Ri Tryz.prog 245 0=WJ tab:=by kernel_rfl
theorem Tj (P:Program):∀ (n k j:Nat),j<n->(Ri P n k)[j]? = some (ZH P (k+j))
 | 0,_,_,h=>absurd h (Nat.not_lt_zero _)
 | n+1,k,0,_=>rfl
 | n+1,k,j+1,h=>by
  have:=Tj P n (Nat.succ k) j (Nat.lt_of_succ_lt_succ h);simp only [Ri,List.getElem?_cons_succ,this];rw [show Nat.succ k+j=k+(j+1) by omega]
theorem PR:∀ (l:List Ty) (j:Nat) (t:Ty),l[j]? = some t->(WJ l)[j]? = some (some t)∧j<l.length
 | [],_,_,h=>by simp at h
 | a::l,0,t,h=>by simp at h; subst h; exact ⟨rfl,by simp⟩
 | a::l,j+1,t,h=>by
  have:=PR l j t (by simpa using h);exact ⟨by simpa [WJ] using this.1,by simp; exact this.2⟩
theorem AdW:tab.length=245:=by kernel_rfl
theorem Ai7 (j:Nat) (t:Ty) (h:tab[j]? = some t):ZH Tryz.prog j=some t:=by
 obtain ⟨h1,h2⟩:=PR tab j t h;rw [AdW] at h2;rw [<- Ai8,Tj _ _ _ _ h2] at h1;simpa using h1
end Go.Sy
namespace Go.Proofs.YtkbafjceglhjhaaGreatDoor.Ed
open Go.Sy
def So:List (List UInt8):=[[82,102,101],[82,102,105],[70,114,101],[70,114,105],[67,111,101],[67,111,105]]
def XE:List (List UInt8):=[[82,82],[82,87],[87,82],[87,87]]
def WL:List (List UInt8):=[[114,46,114],[114,46,119],[114,46,114,119],[119,46,114],[119,46,119],[119,46,114,119],[114,119,46,114],[114,119,46,119],[114,119,46,114,119]]
def XM:List (List UInt8):=[[68,112,65,100,100,114,100,82],[68,112,65,100,100,114,100,87],[68,112,65,100,100,114,115,82],[68,112,65,100,100,114,115,87],[68,112,68,97,116,97,100,87],
 [68,112,68,97,116,97,115,87],[68,112,67,116,114,108,100,82],[68,112,67,116,114,108,100,87],[68,112,67,116,114,108,115,82],[68,112,67,116,114,108,115,87]]
def Gl:Nat->V:=AnC [(0,Nx So),(1,Nx XM),(2,Nx WL),(3,Nx XE)]
theorem mixed:Tryz.prog.follows .mixedOrders=true:=by kernel_rfl
theorem A2:TabOK Tryz.prog tab:=⟨Ai7,Ad3⟩
end Go.Proofs.YtkbafjceglhjhaaGreatDoor.Ed
