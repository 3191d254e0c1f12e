/-
  How the evaluator's own blocks are kept: a new block, a block written over, a row that grows. No conditions.
-/
import Derived.Test.YtkbafjceglhjhaaGreatDoorSyB
import Derived.Laws.CopyRow
import Derived.Laws.Rows
namespace Go.Sy
section
variable {S S':Nat->Prop} {w w':World} {κ κ':Aq}
theorem Ca {base:Nat} {e:TypeId} {size:Nat} {v:Value} {n:Nat} {xs:List Value} (h:w.ownsRow base e size v n xs)
  (hb:∀ g,Ao (some v)=some g->w'.heap[g]? = w.heap[g]?):w'.ownsRow base e size v n xs:=by
 refine ⟨h.1,?_⟩;rcases h.2 with h2 | ⟨g,cap,cur,hv,hbase,hg,rest⟩
 ·exact .inl h2
 ·refine .inr ⟨g,cap,cur,hv,hbase,?_,rest⟩
  rw [hb g (by rw [hv]; rfl)];exact hg
theorem G5 {base:Nat} {e:TypeId} {size:Nat} {v:Value} {n:Nat} {xs:List Value} (h:w.ownsRow base e size v n xs) {g:Nat} (hg:Ao (some v)=some g):g<w.heap.size:=by
 rcases h.2 with ⟨rfl,_⟩ | ⟨g',cap,cur,rfl,_,hh,_⟩
 ·simp [Ao] at hg
 ·simp [Ao] at hg
  subst hg;exact (Array.getElem?_eq_some_iff.1 hh).1
theorem BH {base:Nat} {e:TypeId} {size:Nat} {v:Value} {n:Nat} {xs:List Value} (h:w.ownsRow base e size v n xs):∃ a cap,v = .slice a n cap:=by
 rcases h.2 with ⟨rfl,h0⟩ | ⟨g',cap,cur,rfl,_⟩
 ·exact ⟨none,0,by rw [h0]⟩
 ·exact ⟨_,_,rfl⟩
theorem MR.mono {j:Jag} {xs:List Value} (h:MR S w j xs) (hS:∀ b,S b->S' b∧w'.heap[b]? = w.heap[b]?):MR S' w' j xs:=λi hi=>by
 obtain ⟨ci,h1,h2,h3,h4⟩:=h i hi;exact ⟨ci,VR.mono hS _ _ _ _ (λ_ _ h=>h) h1,h2,h3,h4⟩
theorem Hz.mono {j:Jag} {xs:List Value} {i:Nat} {m:Value} (h:Hz S w j xs i m) (hS:∀ b,S b->S' b∧w'.heap[b]? = w.heap[b]?) (hb:∀ g,Ao (some m)=some g->w'.heap[g]? = w.heap[g]?):Hz S' w' j xs i m:=by
 unfold Hz at h ⊢;split
 ·rename_i hl
  rw [hl] at h;obtain ⟨h1,ys,h2,h3⟩:=h;exact ⟨h1,ys,Ca h2 hb,h3.mono hS⟩
 ·rename_i hl
  rw [hl] at h;exact h
theorem NB.mono {j:Jag} {q:Mp} {xs:List Value} {i:Nat} {m:Value} (h:NB w j q xs i m) (hb:∀ g,Ao (some m)=some g->w'.heap[g]? = w.heap[g]?):NB w' j q xs i m:=by
 unfold NB at h ⊢;refine ⟨h.1,?_⟩;have h:=h.2;split
 ·rename_i hl
  rw [hl] at h;obtain ⟨b,o,rfl,h2,h3⟩:=h;exact ⟨b,o,rfl,by rw [hb b rfl]; exact h2,h3⟩
 ·rename_i hl
  rw [hl] at h;exact h
theorem Aay.mono {j:Jag} {xs:List Value} {i:Nat} {m:Value} (h:Aay S w j xs i m) (hS:∀ b,S b->S' b∧w'.heap[b]? = w.heap[b]?) (hb:∀ g,Ao (some m)=some g->w'.heap[g]? = w.heap[g]?):Aay S' w' j xs i m:=by
 rcases h with ⟨hi,h⟩ | ⟨q,k,h1,h2,h⟩
 ·exact .inl ⟨hi,h.mono hS hb⟩
 ·exact .inr ⟨q,k,h1,h2,h.mono hb⟩
theorem Aay.lt {j:Jag} {xs:List Value} {i:Nat} {m:Value} (h:Aay S w j xs i m) {g:Nat} (hg:Ao (some m)=some g):g<w.heap.size:=by
 rcases h with ⟨_,h⟩ | ⟨q,k,_,_,h⟩
 ·unfold Hz at h
  split at h
  ·obtain ⟨_,ys,q,_⟩:=h
   exact G5 q hg
  ·rw [h] at hg
   simp [Ao] at hg
 ·have h:=h.2
  split at h
  ·obtain ⟨b,o,rfl,h2,_⟩:=h
   simp [Ao] at hg;subst hg;exact (Array.getElem?_eq_some_iff.1 h2).1
  ·rw [h] at hg
   simp [Ao] at hg
theorem D9 {c:Value} {ms:Array Value} {g:Nat} (h:Ao (some c)=some g):UO (some (.tuple #[c,.agg ms])) g:=⟨c,ms,rfl,.inl h⟩
theorem Cd {c:Value} {ms:Array Value} {i:Nat} {m:Value} {g:Nat} (hi:ms[i]? = some m) (h:Ao (some m)=some g):UO (some (.tuple #[c,.agg ms])) g:=⟨c,ms,rfl,.inr ⟨i,m,hi,h⟩⟩
theorem AL {c c':Value} {ms ms':Array Value} (h:(some (Value.tuple #[c,.agg ms]):Option Value)=some (.tuple #[c',.agg ms'])):c=c'∧ms=ms':=by
 simp at h;exact h
theorem H2.mono {j:Jag} {c:Value} {ms:Array Value} {xs:List Value} (h:H2 S w j c ms xs) (hS:∀ b,S b->S' b∧w'.heap[b]? = w.heap[b]?)
  (hb:∀ g,UO (some (.tuple #[c,.agg ms])) g->w'.heap[g]? = w.heap[g]?):H2 S' w' j c ms xs:=by
 obtain ⟨h1,h2,h3,h4,h5,h6,h7,h8,h9⟩:=h;exact ⟨h1,h2,h3,h4,Ca h5 λg hg=>hb g (D9 hg),h6,h7.mono hS,λi m hm=>(h8 i m hm).mono hS λg hg=>hb g (Cd hm hg),h9⟩
theorem AQ.mono {v:Option Value} {b:Blk} (hS:∀ b,S b->S' b∧w'.heap[b]? = w.heap[b]?) (hk:∀ id c,κ id=some c->κ' id=some c)
  (hb:∀ g,inBlk v g b->w'.heap[g]? = w.heap[g]?) (h:AQ S w κ v b):AQ S' w' κ' v b:=by
 cases b with
 | cells cs =>obtain ⟨g,e,ca,hv,hg,hr⟩:=h;exact ⟨g,e,ca,hv,by rw [hb g (by rw [hv]; rfl)]; exact hg,VR.mono_go hS _ _ _ _ hk hr⟩
 | row e s n g =>obtain ⟨h0,c,xs,hv,ho,he⟩:=h;exact ⟨h0,c,xs,hv,Ca ho (λg hg=>hb g (by rw [hv]; exact hg)),he.mono hS⟩
 | imap ty n get =>obtain ⟨k,o,hv,ho,hr⟩:=h;exact ⟨k,o,hv,by rw [hb k (by rw [hv]; rfl)]; exact ho,hr⟩
 | gmap ty ks hs get =>obtain ⟨k,o,hv,ho,hr⟩:=h;exact ⟨k,o,hv,by rw [hb k (by rw [hv]; rfl)]; exact ho,hr.1.mono hS,hr.2⟩
 | xrow lk e s n g =>obtain ⟨h0,c,xs,hv,ho,he⟩:=h;exact ⟨h0,c,xs,hv,Ca ho (λg hg=>hb g (by rw [hv]; exact hg)),he.mono hS⟩
 | jag j =>obtain ⟨c,ms,xs,hv,hj⟩:=h;exact ⟨c,ms,xs,hv,hj.mono hS λg hg=>hb g (by rw [hv]; exact hg)⟩
 | saved vs =>
  rcases h with h | ⟨l,hv,hr⟩
  ·exact .inl h
  ·exact .inr ⟨l,hv,VR.mono_go hS _ _ _ _ hk hr⟩
 | dead=>trivial
theorem AQ.lt {v:Option Value} {b:Blk} {g:Nat} (h:AQ S w κ v b) (hg:inBlk v g b):g<w.heap.size:=by
 cases b with
 | cells cs =>obtain ⟨g',e,ca,hv,hh,_⟩:=h;have hg:Ao v=some g:=hg;rw [hv] at hg;simp [Ao] at hg;subst hg;exact (Array.getElem?_eq_some_iff.1 hh).1
 | row e s n get =>obtain ⟨_,c,xs,hv,ho,_⟩:=h;have hg:Ao v=some g:=hg;rw [hv] at hg;exact G5 ho hg
 | imap ty n get =>obtain ⟨k,o,hv,ho,_⟩:=h;have hg:Ao v=some g:=hg;rw [hv] at hg;simp [Ao] at hg;subst hg;exact (Array.getElem?_eq_some_iff.1 ho).1
 | gmap ty ks hs get =>obtain ⟨k,o,hv,ho,_⟩:=h;have hg:Ao v=some g:=hg;rw [hv] at hg;simp [Ao] at hg;subst hg;exact (Array.getElem?_eq_some_iff.1 ho).1
 | xrow lk e s n get =>obtain ⟨_,c,xs,hv,ho,_⟩:=h;have hg:Ao v=some g:=hg;rw [hv] at hg;exact G5 ho hg
 | jag j =>
  obtain ⟨c,ms,xs,hv,_,_,_,h4,h5,_,_,h8,_⟩:=h;obtain ⟨c',ms',hv',hg⟩:=hg;rw [hv] at hv';obtain ⟨rfl,rfl⟩:=AL hv';rcases hg with hg | ⟨i,m,hm,hg⟩
  ·exact G5 h5 hg
  ·exact (h8 i m hm).lt hg
 | saved vs=>exact hg.elim
 | dead=>exact hg.elim
theorem Ax {h:List Blk} {i g:Nat} {b:Blk} (e:h[i]? = some b):AC κ h i g↔inBlk (κ i) g b:=by
 constructor
 ·rintro ⟨b',h1,h2⟩
  rw [e] at h1;simp only [Option.some.injEq] at h1;subst h1;exact h2
 ·exact λh=>⟨b,e,h⟩
theorem D7 {h:List Blk} {i g:Nat} (e:h[i]? = none):¬ AC κ h i g:=λ⟨b,h1,_⟩=>by rw [e] at h1; cases h1
theorem G6 {h h':List Blk} {i g:Nat} (e:h'[i]? = h[i]?) (ek:κ' i=κ i):AC κ' h' i g↔AC κ h i g:=by
 unfold AC;rw [e,ek]
theorem Good.lt {h:List Blk} (g:Good κ S h w) {i b:Nat} (e:AC κ h i b):b<w.heap.size:=by
 obtain ⟨bl,h1,h2⟩:=e;exact (g.blk i bl h1).lt h2
def Bh (κ:Aq) (n:Nat) (c:Value):Aq:=λi=>if i=n then some c else κ i
theorem Good.addK_sub {h:List Blk} (g:Good κ S h w) (c:Value):∀ id u,κ id=some u->Bh κ h.length c id=some u:=by
 intro id u hu;unfold Bh;split
 ·rename_i e
  rw [e,g.dom _ (Nat.le_refl _)] at hu;cases hu
 ·exact hu
theorem UY {c:Value} {n:Nat} (hc:Ao (some c)=none ∨ Ao (some c)=some n):∀ g,Ao (some c)=some g->n <= g:=λg hg=>by
 rcases hc with h | h
 ·rw [h] at hg; cases hg
 ·rw [h] at hg; simp at hg; omega
theorem Good.adopt {h:List Blk} (g:Good κ S h w) (b:Blk) (c:Value) (hB:AQ S w (Bh κ h.length c) (some c) b) (hc:∀ x,inBlk (some c) x b->¬ S x∧∀ i,¬ AC κ h i x):Good (Bh κ h.length c) S (h++[b]) w:=by
 have hk:=g.addK_sub c;have hlt:∀ i,i<h.length->Bh κ h.length c i=κ i:=λi hi=>by unfold Bh; rw [if_neg (by omega)]
 have hself:Bh κ h.length c h.length=some c:=by simp [Bh]
 have own_old:∀ i k,i<h.length->(AC (Bh κ h.length c) (h++[b]) i k↔AC κ h i k):=λi k hi =>
  G6 (List.getElem?_append_left hi) (hlt i hi)
 have own_new:∀ k,AC (Bh κ h.length c) (h++[b]) h.length k->¬ S k∧∀ i,¬ AC κ h i k:=λk hk=>by
  rw [Ax (b:=b) (by simp),hself] at hk;exact hc k hk
 have own_none:∀ i k,h.length<i->¬ AC (Bh κ h.length c) (h++[b]) i k:=λi k hi=>D7 (List.getElem?_eq_none (by simp; omega));refine ⟨?_,?_,?_,?_⟩
 ·intro i bl hi
  rcases Nat.lt_trichotomy i h.length with hl | rfl | hl
  ·rw [List.getElem?_append_left hl] at hi
   rw [hlt i hl];exact (g.blk i bl hi).mono (λb hb=>⟨hb,rfl⟩) hk λ_ _=>rfl
  ·rw [List.getElem?_append_right (Nat.le_refl _)] at hi
   simp at hi;subst hi;rw [hself];exact hB
  ·rw [List.getElem?_eq_none (by simp; omega)] at hi
   cases hi
 ·intro i j k hij hi hj
  rcases Nat.lt_trichotomy i h.length with hl | rfl | hl
  ·rw [own_old i k hl] at hi
   rcases Nat.lt_trichotomy j h.length with hl' | rfl | hl'
   ·rw [own_old j k hl'] at hj
    exact g.sep i j k hij hi hj
   ·exact (own_new k hj).2 i hi
   ·exact own_none j k hl' hj
  ·have h1:=own_new k hi
   rcases Nat.lt_trichotomy j h.length with hl' | rfl | hl'
   ·rw [own_old j k hl'] at hj
    exact h1.2 j hj
   ·exact hij rfl
   ·exact own_none j k hl' hj
  ·exact own_none i k hl hi
 ·intro k hk'
  refine ⟨(g.out k hk').1,λi hi=>?_⟩;rcases Nat.lt_trichotomy i h.length with hl | rfl | hl
  ·rw [own_old i k hl] at hi
   exact (g.out k hk').2 i hi
  ·exact (own_new k hi).1 hk'
  ·exact own_none i k hl hi
 ·intro i hi
  simp at hi;unfold Bh;rw [if_neg (by omega)];exact g.dom i (by omega)
theorem Good.grow {h:List Blk} (g:Good κ S h w) (hw:∀ k,k<w.heap.size->w'.heap[k]? = w.heap[k]?) (hsz:w.heap.size <= w'.heap.size):Good κ S h w' :=
 ⟨λi b hi=>(g.blk i b hi).mono (λb hb=>⟨hb,hw b (g.out b hb).1⟩) (λ_ _ h=>h) λk hk=>hw k ((g.blk i b hi).lt hk),g.sep,λk hk=>⟨Nat.lt_of_lt_of_le (g.out k hk).1 hsz,(g.out k hk).2⟩,g.dom⟩
theorem Good.push' {h:List Blk} (g:Good κ S h w) (b:Blk) (c:Value) (hw:∀ k,k<w.heap.size->w'.heap[k]? = w.heap[k]?) (hsz:w.heap.size <= w'.heap.size)
  (hB:AQ S w' (Bh κ h.length c) (some c) b) (hc:∀ g,inBlk (some c) g b->w.heap.size <= g):Good (Bh κ h.length c) S (h++[b]) w' :=
 (g.grow hw hsz).adopt b c hB λx hx=>⟨λhS=>by have:=(g.out x hS).1; have:=hc x hx; omega,λi hi=>by have:=g.lt hi; have:=hc x hx; omega⟩
theorem Ext.adopt {κ0:Aq} {S0:Nat->Prop} {h0 h:List Blk} {w0:World} (e:Ext κ0 S0 h0 w0 κ S h w) (b:Blk) (c:Value) (hnx:¬ Df b) (hc:∀ x,inBlk (some c) x b->w0.heap.size <= x):Ext κ0 S0 h0 w0 (Bh κ h.length c) S (h++[b]) w:=by
 have own_old:∀ i k,i<h.length->(AC (Bh κ h.length c) (h++[b]) i k↔AC κ h i k):=λi k hi =>
  G6 (List.getElem?_append_left hi) (by unfold Bh; rw [if_neg (by omega)])
 have own_new:∀ i k,h.length <= i->AC (Bh κ h.length c) (h++[b]) i k->i=h.length∧w0.heap.size <= k:=λi k hi hk=>by
  rcases Nat.lt_or_ge h.length i with hl | hl
  ·exact absurd hk (D7 (List.getElem?_eq_none (by simp; omega)))
  ·have:i=h.length:=by omega
   subst this;rw [Ax (b:=b) (by simp),show Bh κ h.length c h.length=some c by simp [Bh]] at hk;exact ⟨rfl,hc k hk⟩
 refine ⟨e.os,e.tape,e.output,e.size,e.keep,λi k hi=>?_,e.sub,e.sup,λk p hs=>?_,λi bl hi hf=>?_⟩
 ·rcases Nat.lt_or_ge i h.length with hl | hl
  ·exact e.own i k ((own_old i k hl).1 hi)
  ·exact .inr (own_new i k hl hi).2
 ·obtain ⟨⟨q1,q2⟩,q3⟩:=e.pre k p hs
  refine ⟨⟨q1,λi hi=>?_⟩,q3⟩;rcases Nat.lt_or_ge i h.length with hl | hl
  ·obtain ⟨e',s,n,g,hh,hp⟩:=q2 i ((own_old i k hl).1 hi)
   exact ⟨e',s,n,g,by rw [List.getElem?_append_left hl]; exact hh,hp⟩
  ·have:=(own_new i k hl hi).2
   have:=hs.1;omega
 ·rcases Nat.lt_trichotomy i h.length with hl | rfl | hl
  ·rw [List.getElem?_append_left hl] at hi
   rw [show Bh κ h.length c i=κ i by unfold Bh; rw [if_neg (by omega)]];exact e.fix i bl hi hf
  ·simp at hi
   subst hi;exact absurd hf hnx
  ·rw [List.getElem?_eq_none (by simp; omega)] at hi
   cases hi
theorem Ext.push' {h:List Blk} (b:Blk) (c:Value) (hw:∀ k,k<w.heap.size->w'.heap[k]? = w.heap[k]?) (hsz:w.heap.size <= w'.heap.size)
  (hos:w'.os=w.os) (htape:w'.tape=w.tape) (hout:w'.output=w.output)
  (hc:∀ g,inBlk (some c) g b->w.heap.size <= g) (hnx:¬ Df b):Ext κ S h w (Bh κ h.length c) S (h++[b]) w':=by
 have hself:Bh κ h.length c h.length=some c:=by simp [Bh]
 have own_new:∀ k,AC (Bh κ h.length c) (h++[b]) h.length k->w.heap.size <= k:=λk hk=>by
  rw [Ax (b:=b) (by simp),hself] at hk;exact hc k hk
 have own_old:∀ i k,i<h.length->(AC (Bh κ h.length c) (h++[b]) i k↔AC κ h i k):=λi k hi =>
  G6 (List.getElem?_append_left hi) (by unfold Bh; rw [if_neg (by omega)])
 have own_none:∀ i k,h.length<i->¬ AC (Bh κ h.length c) (h++[b]) i k:=λi k hi=>D7 (List.getElem?_eq_none (by simp; omega));refine ⟨hos,htape,hout,hsz,λk hk _=>hw k hk,?_,λk hk=>.inl hk,λk hk=>hk,IT hsz (λk hk _=>hw k hk) ?_ (λi e s n g k hi hk=>?_),λi bl hi hf=>?_⟩
 rotate_left
 ·intro i k hi hlt
  rcases Nat.lt_trichotomy i h.length with hl | rfl | hl
  ·exact ⟨i,(own_old i k hl).1 hi,λe s n g hh=>⟨e,s,n,g,by rw [List.getElem?_append_left hl]; exact hh,Nat.le_refl _⟩⟩
  ·have:=own_new k hi
   omega
  ·exact absurd hi (own_none i k hl)
 ·rcases Nat.lt_or_ge k w.heap.size with hl | hl
  ·exact En.same (hw k hl)
  ·intro ca e z hca
   rw [Array.getElem?_eq_none hl] at hca;cases hca
 ·rcases Nat.lt_trichotomy i h.length with hl | rfl | hl
  ·rw [List.getElem?_append_left hl] at hi
   exact ⟨by unfold Bh; rw [if_neg (by omega)],bl,hi,BN.refl hf⟩
  ·rw [List.getElem?_append_right (Nat.le_refl _)] at hi
   simp at hi;subst hi;exact absurd hf hnx
  ·rw [List.getElem?_eq_none (by simp; omega)] at hi
   cases hi
 intro i k hi;rcases Nat.lt_trichotomy i h.length with hl | rfl | hl
 ·exact .inl ⟨i,(own_old i k hl).1 hi⟩
 ·exact .inr (own_new k hi)
 ·exact absurd hi (own_none i k hl)
theorem Good.upd' {h:List Blk} (g:Good κ S h w) {id:Nat} {b b':Blk} (hb:h[id]? = some b) (hin:∀ k,inBlk (κ id) k b'->inBlk (κ id) k b)
  (hw:∀ k,¬ inBlk (κ id) k b->k<w.heap.size->w'.heap[k]? = w.heap[k]?) (hsz:w.heap.size <= w'.heap.size) (hB:AQ S w' κ (κ id) b') :
  Good κ S (h.set id b') w'∧(∀ i k,AC κ (h.set id b') i k->AC κ h i k):=by
 have hlen:id<h.length:=(List.getElem?_eq_some_iff.1 hb).1;have hown:∀ i k,AC κ (h.set id b') i k->AC κ h i k:=λi k hi=>by
  by_cases e:id=i
  ·subst e
   rw [Ax (b:=b') (by simp [hlen])] at hi;rw [Ax hb];exact hin k hi
  ·exact (G6 (List.getElem?_set_ne e) rfl).1 hi
 have hS:∀ b,S b->S b∧w'.heap[b]? = w.heap[b]?:=λk hk=>⟨hk,hw k (λe=>(g.out k hk).2 id ((Ax hb).2 e)) (g.out k hk).1⟩;refine ⟨⟨?_,?_,?_,?_⟩,hown⟩
 ·intro i bl hi
  by_cases e:id=i
  ·subst e
   rw [List.getElem?_set_self hlen] at hi;simp at hi; subst hi;exact hB
  ·rw [List.getElem?_set_ne e] at hi
   refine (g.blk i bl hi).mono hS (λ_ _ h=>h) λk hk=>hw k (λek=>?_) ((g.blk i bl hi).lt hk);exact g.sep id i k e ((Ax hb).2 ek) ((Ax hi).2 hk)
 ·intro i j k hij hi hj
  exact g.sep i j k hij (hown i k hi) (hown j k hj)
 ·intro k hk
  exact ⟨Nat.lt_of_lt_of_le (g.out k hk).1 hsz,λi hi=>(g.out k hk).2 i (hown i k hi)⟩
 ·intro i hi
  simp at hi;exact g.dom i hi
theorem Ext.upd' {h h':List Blk} (gd:Good κ S h w) {id:Nat} {b b':Blk} (hb:h[id]? = some b) (hh':h'=h.set id b')
  (hw:∀ k,¬ inBlk (κ id) k b->k<w.heap.size->w'.heap[k]? = w.heap[k]?) (hsz:w.heap.size <= w'.heap.size) (hos:w'.os=w.os) (htape:w'.tape=w.tape) (hout:w'.output=w.output)
  (hown:∀ i k,AC κ h' i k->AC κ h i k) (hnx:∀ e s n g,b ≠ .xrow true e s n g)
  (hfx:Df b'->BN b' b):Ext κ S h w κ S h' w':=by
 have hlen:id<h.length:=(List.getElem?_eq_some_iff.1 hb).1;subst hh';refine ⟨hos,htape,hout,hsz,λk hk hn=>hw k (λe=>hn id ((Ax hb).2 e)) hk,λi k hi=>.inl ⟨i,hown i k hi⟩,λ_ hk=>.inl hk,λ_ hk=>hk,
  IT hsz (λk hk hn=>hw k (λe=>hn id ((Ax hb).2 e)) hk)
   (λi k hi _=>⟨i,hown i k hi,λe s n g hh=>⟨e,s,n,g,by
    rw [List.getElem?_set_ne (λe'=>by subst e'; rw [hb] at hh; simp at hh; exact hnx _ _ _ _ hh)]; exact hh,Nat.le_refl _⟩⟩)
   (λi e s n g k hi hk=>En.same (hw k (λe'=>by
    by_cases hii:i=id
    ·subst hii
     rw [hb] at hi;simp at hi;exact hnx e s n g hi
    ·exact gd.sep i id k hii hk ((Ax hb).2 e')) (gd.lt hk))),
  λi bl hi hf=>⟨rfl,?_⟩⟩
 by_cases hii:id=i
 ·subst hii
  rw [List.getElem?_set_self hlen] at hi;simp at hi;subst hi;exact ⟨b,hb,hfx hf⟩
 ·exact ⟨bl,by rw [<- List.getElem?_set_ne hii]; exact hi,BN.refl hf⟩
def Fx (κ:Aq) (n:Nat) (c:Value):Aq:=λi=>if i=n then some c else κ i
theorem Fc (κ:Aq) (n:Nat) (c:Value):Fx κ n c n=some c:=by simp [Fx]
theorem FX {κ:Aq} {n i:Nat} {c:Value} (h:i ≠ n):Fx κ n c i=κ i:=by unfold Fx; rw [if_neg h]
def Km (v:Option Value):Prop:=∀ a,v ≠ some (.pointer a)
mutual
theorem Aha {id:Nat} (hS:∀ b,S b->S' b∧w'.heap[b]? = w.heap[b]?) (hid:Km (κ id)) (hk:∀ i,i ≠ id->κ' i=κ i):∀ (v:V) (c:Value),
  VR S w v κ c->VR S' w' (kill id v) κ' c
 | .val _,_,h=>h
 | .str _,_,h=>h
 | .agg cs,_,h=>by
  obtain ⟨ca,e,h⟩:=h;exact ⟨ca,e,DD hS hid hk cs _ h⟩
 | .tup cs,_,h=>by
  obtain ⟨ca,e,h⟩:=h;exact ⟨ca,e,DD hS hid hk cs _ h⟩
 | .fn f cs,_,h=>by
  obtain ⟨ca,e,h⟩:=h;exact ⟨ca,e,DD hS hid hk cs _ h⟩
 | .nilS,_,h=>h
 | .sl s n g,_,h=>VR.mono hS (.sl s n g) noK _ _ (λ_ _ h=>by cases h) h
 | .slr s n m g,_,h=>VR.mono hS (.slr s n m g) noK _ _ (λ_ _ h=>by cases h) h
 | .pp v,_,h=>VR.mono hS (.pp v) noK _ _ (λ_ _ h=>by cases h) h
 | .ptr k off,_,h=>by
  obtain ⟨g,h1,h2⟩:=h;refine ⟨g,?_,h2⟩;rw [hk k λe=>hid _ (by rw [<- e]; exact h1)];exact h1
 | .ref k,_,h=>by
  simp only [kill];split
  ·trivial
  ·rename_i e
   refine ⟨?_,h.2⟩;rw [hk k (Nat.ne_of_beq_eq_false e)];exact h.1
 | .ept k s i off,_,h=>by
  simp only [kill];split
  ·trivial
  ·rename_i e
   obtain ⟨g,n,cap,h1,h2⟩:=h;refine ⟨g,n,cap,?_,h2⟩;rw [hk k (Nat.ne_of_beq_eq_false e)];exact h1
 | .rct k i,_,h=>by
  simp only [kill];split
  ·trivial
  ·rename_i e
   obtain ⟨g,n,cap,h1,h2⟩:=h;refine ⟨g,n,cap,?_,h2⟩;rw [hk k (Nat.ne_of_beq_eq_false e)];exact h1
 | .jref k,_,h=>by
  simp only [kill];split
  ·trivial
  ·rename_i e
   obtain ⟨ms,h1,h2⟩:=h;refine ⟨ms,?_,h2⟩;rw [hk k (Nat.ne_of_beq_eq_false e)];exact h1
 | .jept k s i off,_,h=>by
  simp only [kill];split
  ·trivial
  ·rename_i e
   obtain ⟨g,n,cap,ms,h1,h2⟩:=h;refine ⟨g,n,cap,ms,?_,h2⟩;rw [hk k (Nat.ne_of_beq_eq_false e)];exact h1
 | .mref k i,_,h=>by
  simp only [kill];split
  ·trivial
  ·rename_i e
   obtain ⟨o,ms,h1,h2⟩:=h;refine ⟨o,ms,?_,h2⟩;rw [hk k (Nat.ne_of_beq_eq_false e)];exact h1
 | .mept k i s j off,_,h=>by
  simp only [kill];split
  ·trivial
  ·rename_i e
   obtain ⟨o,ms,g,n,cap,h1,h2⟩:=h;refine ⟨o,ms,g,n,cap,?_,h2⟩;rw [hk k (Nat.ne_of_beq_eq_false e)];exact h1
 | .anym,_,h=>h
 | .mmap k i,_,h=>by
  simp only [kill];split
  ·trivial
  ·rename_i e
   obtain ⟨o,ms,h1,h2⟩:=h;refine ⟨o,ms,?_,h2⟩;rw [hk k (Nat.ne_of_beq_eq_false e)];exact h1
 | .und,_,_=>trivial
theorem DD {id:Nat} (hS:∀ b,S b->S' b∧w'.heap[b]? = w.heap[b]?) (hid:Km (κ id)) (hk:∀ i,i ≠ id->κ' i=κ i):∀ (vs:List V) (l:List Value),
  VRs S w vs κ l->VRs S' w' (kill.kills id vs) κ' l
 | [],_,h=>h
 | v::vs,_,h=>by
  obtain ⟨a,l',e,h1,h2⟩:=h;exact ⟨a,l',e,Aha hS hid hk v _ h1,DD hS hid hk vs _ h2⟩
end
mutual
theorem V6 {id:Nat} {c0:Value} {ms ms':Array Value} (hS:∀ b,S b->S' b∧w'.heap[b]? = w.heap[b]?) (hid:κ id=some (.tuple #[c0,.agg ms])) (hid':κ' id=some (.tuple #[c0,.agg ms'])) (hk:∀ i c,i ≠ id->κ i=some c->κ' i=some c):∀ (v:V) (c:Value),
  VR S w v κ c->VR S' w' (killM id v) κ' c
 | .val _,_,h=>h
 | .str _,_,h=>h
 | .agg cs,_,h=>by
  obtain ⟨ca,e,h⟩:=h;exact ⟨ca,e,EB hS hid hid' hk cs _ h⟩
 | .tup cs,_,h=>by
  obtain ⟨ca,e,h⟩:=h;exact ⟨ca,e,EB hS hid hid' hk cs _ h⟩
 | .fn f cs,_,h=>by
  obtain ⟨ca,e,h⟩:=h;exact ⟨ca,e,EB hS hid hid' hk cs _ h⟩
 | .nilS,_,h=>h
 | .sl s n g,_,h=>VR.mono hS (.sl s n g) noK _ _ (λ_ _ h=>by cases h) h
 | .slr s n m g,_,h=>VR.mono hS (.slr s n m g) noK _ _ (λ_ _ h=>by cases h) h
 | .pp v,_,h=>VR.mono hS (.pp v) noK _ _ (λ_ _ h=>by cases h) h
 | .ptr k off,_,h=>by
  obtain ⟨g,h1,h2⟩:=h;exact ⟨g,hk k _ (λe=>by rw [e,hid] at h1; cases h1) h1,h2⟩
 | .ref k,c,h=>by
  obtain ⟨h1,h2⟩:=h;refine ⟨hk k _ (λe=>?_) h1,h2⟩;rw [e,hid] at h1;simp at h1;rcases h2 with ⟨a,n,cap,q⟩ | ⟨b,q⟩ <;> (rw [q] at h1; cases h1)
 | .ept k s i off,_,h=>by
  obtain ⟨g,n,cap,h1,h2⟩:=h;exact ⟨g,n,cap,hk k _ (λe=>by rw [e,hid] at h1; cases h1) h1,h2⟩
 | .rct k i,_,h=>by
  obtain ⟨g,n,cap,h1,h2⟩:=h;exact ⟨g,n,cap,hk k _ (λe=>by rw [e,hid] at h1; cases h1) h1,h2⟩
 | .jref k,_,h=>by
  obtain ⟨ms1,h1,h2⟩:=h;by_cases e:k=id
  ·subst e
   rw [hid] at h1;obtain ⟨rfl,rfl⟩:=AL h1;exact ⟨ms',hid',h2⟩
  ·exact ⟨ms1,hk k _ e h1,h2⟩
 | .jept k s i off,_,h=>by
  obtain ⟨g,n,cap,ms1,h1,h2⟩:=h;by_cases e:k=id
  ·subst e
   rw [hid] at h1;obtain ⟨rfl,rfl⟩:=AL h1;exact ⟨g,n,cap,ms',hid',h2⟩
  ·exact ⟨g,n,cap,ms1,hk k _ e h1,h2⟩
 | .mref k i,_,h=>by
  simp only [killM];split
  ·trivial
  ·rename_i e
   obtain ⟨o,ms,h1,h2⟩:=h;exact ⟨o,ms,hk k _ (Nat.ne_of_beq_eq_false e) h1,h2⟩
 | .mept k i s j off,_,h=>by
  simp only [killM];split
  ·trivial
  ·rename_i e
   obtain ⟨o,ms,g,n,cap,h1,h2⟩:=h;exact ⟨o,ms,g,n,cap,hk k _ (Nat.ne_of_beq_eq_false e) h1,h2⟩
 | .anym,_,h=>h
 | .mmap k i,_,h=>by
  simp only [killM];split
  ·trivial
  ·rename_i e
   obtain ⟨o,ms,h1,h2⟩:=h;exact ⟨o,ms,hk k _ (Nat.ne_of_beq_eq_false e) h1,h2⟩
 | .und,_,_=>trivial
theorem EB {id:Nat} {c0:Value} {ms ms':Array Value} (hS:∀ b,S b->S' b∧w'.heap[b]? = w.heap[b]?) (hid:κ id=some (.tuple #[c0,.agg ms])) (hid':κ' id=some (.tuple #[c0,.agg ms'])) (hk:∀ i c,i ≠ id->κ i=some c->κ' i=some c):∀ (vs:List V) (l:List Value),
  VRs S w vs κ l->VRs S' w' (killM.kills id vs) κ' l
 | [],_,h=>h
 | v::vs,_,h=>by
  obtain ⟨a,l',e,h1,h2⟩:=h;exact ⟨a,l',e,V6 hS hid hid' hk v _ h1,EB hS hid hid' hk vs _ h2⟩
end
theorem Da (id:Nat):∀ (h:List Blk) (i:Nat),(Bc id h)[i]? = (h[i]?).map (EZ id)
 | [],_=>by simp [Bc]
 | b::h,0=>by simp [Bc]
 | b::h,i+1=>by simpa [Bc] using Da id h i
theorem AP (id:Nat):∀ (h:List Blk),(Bc id h).length=h.length
 | []=>rfl
 | b::h=>by simp [Bc,AP id h]
theorem F3 (id:Nat):∀ (h:List Blk) (i:Nat),(BX id h)[i]? = (h[i]?).map (ES id)
 | [],_=>by simp [BX]
 | b::h,0=>by simp [BX]
 | b::h,i+1=>by simpa [BX] using F3 id h i
theorem Bb (id:Nat):∀ (h:List Blk),(BX id h).length=h.length
 | []=>rfl
 | b::h=>by simp [BX,Bb id h]
theorem FA {id g:Nat} {v:Option Value} {b:Blk}:inBlk v g (EZ id b)↔inBlk v g b:=by cases b <;> exact Iff.rfl
theorem SL {id g:Nat} {v:Option Value} {b:Blk}:inBlk v g (ES id b)↔inBlk v g b:=by cases b <;> exact Iff.rfl
theorem Nx {id:Nat} {b:Blk}:Df (EZ id b)->Df b∧BN (EZ id b) b:=by
 cases b with
 | xrow lk e s n g=>exact λh=>⟨h,BN.refl h⟩
 | saved vs=>exact λ_=>⟨.inr ⟨vs,rfl⟩,⟨vs,rfl⟩⟩
 | _=>intro h; rcases h with ⟨_,_,_,_,h⟩ | ⟨_,h⟩ <;> simp [EZ] at h
theorem SE {id:Nat} {b:Blk}:Df (ES id b)->Df b∧BN (ES id b) b:=by
 cases b with
 | xrow lk e s n g=>exact λh=>⟨h,BN.refl h⟩
 | saved vs=>exact λ_=>⟨.inr ⟨vs,rfl⟩,⟨vs,rfl⟩⟩
 | _=>intro h; rcases h with ⟨_,_,_,_,h⟩ | ⟨_,h⟩ <;> simp [ES] at h
theorem AQ.kill {v:Option Value} {b:Blk} {id:Nat} (hS:∀ b,S b->S' b∧w'.heap[b]? = w.heap[b]?) (hk:∀ vs l,VRs S w vs κ l->VRs S' w' (kill.kills id vs) κ' l)
  (hb:∀ g,inBlk v g b->w'.heap[g]? = w.heap[g]?) (h:AQ S w κ v b):AQ S' w' κ' v (EZ id b):=by
 cases b with
 | cells cs =>obtain ⟨g,e,ca,hv,hg,hr⟩:=h;exact ⟨g,e,ca,hv,by rw [hb g (by rw [hv]; rfl)]; exact hg,hk _ _ hr⟩
 | saved vs =>
  rcases h with rfl | ⟨l,hv,hr⟩
  ·exact .inl rfl
  ·exact .inr ⟨l,hv,hk _ _ hr⟩
 | row e s n g=>exact AQ.mono (κ:=noK) hS (λ_ _ h=>by cases h) hb (show AQ S w noK v (.row e s n g) from h)
 | imap ty n get=>exact AQ.mono (κ:=noK) hS (λ_ _ h=>by cases h) hb (show AQ S w noK v (.imap ty n get) from h)
 | gmap ty ks hs get=>exact AQ.mono (κ:=noK) hS (λ_ _ h=>by cases h) hb (show AQ S w noK v (.gmap ty ks hs get) from h)
 | xrow lk e s n g=>exact AQ.mono (κ:=noK) hS (λ_ _ h=>by cases h) hb (show AQ S w noK v (.xrow lk e s n g) from h)
 | jag j=>exact AQ.mono (κ:=noK) hS (λ_ _ h=>by cases h) hb (show AQ S w noK v (.jag j) from h)
 | dead=>trivial
theorem AQ.killM {v:Option Value} {b:Blk} {id:Nat} (hS:∀ b,S b->S' b∧w'.heap[b]? = w.heap[b]?) (hk:∀ vs l,VRs S w vs κ l->VRs S' w' (killM.kills id vs) κ' l)
  (hb:∀ g,inBlk v g b->w'.heap[g]? = w.heap[g]?) (h:AQ S w κ v b):AQ S' w' κ' v (ES id b):=by
 cases b with
 | cells cs =>obtain ⟨g,e,ca,hv,hg,hr⟩:=h;exact ⟨g,e,ca,hv,by rw [hb g (by rw [hv]; rfl)]; exact hg,hk _ _ hr⟩
 | saved vs =>
  rcases h with rfl | ⟨l,hv,hr⟩
  ·exact .inl rfl
  ·exact .inr ⟨l,hv,hk _ _ hr⟩
 | row e s n g=>exact AQ.mono (κ:=noK) hS (λ_ _ h=>by cases h) hb (show AQ S w noK v (.row e s n g) from h)
 | imap ty n get=>exact AQ.mono (κ:=noK) hS (λ_ _ h=>by cases h) hb (show AQ S w noK v (.imap ty n get) from h)
 | gmap ty ks hs get=>exact AQ.mono (κ:=noK) hS (λ_ _ h=>by cases h) hb (show AQ S w noK v (.gmap ty ks hs get) from h)
 | xrow lk e s n g=>exact AQ.mono (κ:=noK) hS (λ_ _ h=>by cases h) hb (show AQ S w noK v (.xrow lk e s n g) from h)
 | jag j=>exact AQ.mono (κ:=noK) hS (λ_ _ h=>by cases h) hb (show AQ S w noK v (.jag j) from h)
 | dead=>trivial
def Fa:Blk->Prop
 | .jag _ | .saved _ | .dead=>False
 | _=>True
theorem Fa.inBlk {b:Blk} (h:Fa b) {v:Option Value} {g:Nat}:inBlk v g b↔Ao v=some g:=by
 cases b <;> first | exact h.elim | exact Iff.rfl
theorem Fa.own {b:Blk} (h:Fa b) {hp:List Blk} {i g:Nat} (e:hp[i]? = some b):AC κ hp i g↔Ao (κ i)=some g:=(Ax e).trans h.inBlk
theorem notFixed {b:Blk} (hp:Fa b) (h:∀ e s n g,b ≠ .xrow false e s n g):¬ Df b:=λhf=>by
 rcases hf with ⟨e,s,n,g,rfl⟩ | ⟨vs,rfl⟩
 ·exact h _ _ _ _ rfl
 ·exact hp
theorem Good.push {h:List Blk} (g:Good κ S h w) (b:Blk) (c:Value) (hw:∀ k,k<w.heap.size->w'.heap[k]? = w.heap[k]?) (hsz:w.heap.size <= w'.heap.size)
  (hB:AQ S w' (Bh κ h.length c) (some c) b) (hc:Ao (some c)=none ∨ Ao (some c)=some w.heap.size) (hp:Fa b):Good (Bh κ h.length c) S (h++[b]) w' :=
 g.push' b c hw hsz hB λk hk=>UY hc k (hp.inBlk.1 hk)
theorem Ext.push {h:List Blk} (b:Blk) (c:Value) (hw:∀ k,k<w.heap.size->w'.heap[k]? = w.heap[k]?) (hsz:w.heap.size <= w'.heap.size)
  (hos:w'.os=w.os) (htape:w'.tape=w.tape) (hout:w'.output=w.output)
  (hc:Ao (some c)=none ∨ Ao (some c)=some w.heap.size) (hp:Fa b) (hnx:∀ e s n g,b ≠ .xrow false e s n g):Ext κ S h w (Bh κ h.length c) S (h++[b]) w' :=
 Ext.push' b c hw hsz hos htape hout (λk hk=>UY hc k (hp.inBlk.1 hk)) (notFixed hp hnx)
theorem Good.upd {h:List Blk} (g:Good κ S h w) {id blk:Nat} {b b':Blk} (hb:h[id]? = some b) (hd:Fa b) (hd':Fa b') (hid:Ao (κ id)=some blk)
  (hw:∀ k,k ≠ blk->w'.heap[k]? = w.heap[k]?) (hsz:w'.heap.size=w.heap.size) (hB:AQ S w' κ (κ id) b') :
  Good κ S (h.set id b') w'∧(∀ i k,AC κ (h.set id b') i k->AC κ h i k) :=
 g.upd' hb (λ_ hk=>hd.inBlk.2 (hd'.inBlk.1 hk)) (λk hk _=>hw k λe=>hk (hd.inBlk.2 (by rw [e]; exact hid))) (by omega) hB
theorem Ext.upd {h:List Blk} (gd:Good κ S h w) {id blk:Nat} {b b':Blk} (hb:h[id]? = some b) (hd:Fa b) (hd':Fa b') (hid:Ao (κ id)=some blk)
  (hw:∀ k,k ≠ blk->w'.heap[k]? = w.heap[k]?) (hsz:w'.heap.size=w.heap.size) (hos:w'.os=w.os) (htape:w'.tape=w.tape) (hout:w'.output=w.output)
  (hown:∀ i k,AC κ (h.set id b') i k->AC κ h i k) (hnx:∀ e s n g,b ≠ .xrow true e s n g)
  (hfx:∀ e s n g,b' = .xrow false e s n g->∃ g0,b = .xrow false e s n g0):Ext κ S h w κ S (h.set id b') w' :=
 Ext.upd' gd hb rfl (λk hk _=>hw k λe=>hk (hd.inBlk.2 (by rw [e]; exact hid))) (by omega) hos htape hout hown hnx λhf=>by
  rcases hf with ⟨e,s,n,g,rfl⟩ | ⟨vs,rfl⟩
  ·exact hfx _ _ _ _ rfl
  ·exact hd'.elim
def FH (b:Blk) (e:TypeId) (s n:Nat) (g:Nat->V):Prop:=b = .row e s n g ∨ ∃ lk,b = .xrow lk e s n g
theorem FH.holds {b:Blk} {e:TypeId} {s n:Nat} {g:Nat->V} {v:Option Value} (hb:FH b e s n g) (h:AQ S w κ v b) :
  0<s∧∃ c xs,v=some c∧w.ownsRow 0 e s c n xs∧CW S w s n g xs:=by
 rcases hb with rfl | ⟨lk,rfl⟩ <;> exact h
theorem FH.plain {b:Blk} {e:TypeId} {s n:Nat} {g:Nat->V} (hb:FH b e s n g):Fa b:=by
 rcases hb with rfl | ⟨lk,rfl⟩ <;> exact trivial
theorem FH.noPtr {b:Blk} {e:TypeId} {s n:Nat} {g:Nat->V} {v:Option Value} (hb:FH b e s n g) (h:AQ S w κ v b):Km v:=λa=>by
 obtain ⟨_,c,xs,hv,ho,_⟩:=hb.holds h;obtain ⟨b,cap,rfl⟩:=BH ho;rw [hv];simp
theorem Good.turn {h:List Blk} (g:Good κ S h w) {id:Nat} {b0 b':Blk} {c':Value} (hb:h[id]? = some b0) (hid:Km (κ id))
  (hS:∀ b,S b->S' b∧w'.heap[b]? = w.heap[b]?) (hout:∀ k,S' k->k<w'.heap.size∧(∀ i,i ≠ id->¬ AC κ h i k)∧¬ inBlk (some c') k b')
  (hw:∀ k,k<w.heap.size->¬ inBlk (κ id) k b0->w'.heap[k]? = w.heap[k]?)
  (hc:∀ k,inBlk (some c') k b'->inBlk (κ id) k b0 ∨ w.heap.size <= k)
  (hB:AQ S' w' (Fx κ id c') (some c') b') :
  Good (Fx κ id c') S' ((Bc id h).set id b') w' ∧
  (∀ (vs:List V) (l:List Value),VRs S w vs κ l->VRs S' w' (kill.kills id vs) (Fx κ id c') l) ∧
  (∀ i k,AC (Fx κ id c') ((Bc id h).set id b') i k->(i ≠ id∧AC κ h i k) ∨ (i=id∧inBlk (some c') k b')):=by
 have hlen:id<h.length:=(List.getElem?_eq_some_iff.1 hb).1;have hkill:∀ (vs:List V) (l:List Value),VRs S w vs κ l->VRs S' w' (kill.kills id vs) (Fx κ id c') l:=λvs l hv=>DD hS hid (λi hi=>FX hi) vs l hv;have own_id:∀ k,AC (Fx κ id c') ((Bc id h).set id b') id k↔inBlk (some c') k b':=λk=>by
  rw [Ax (b:=b') (by simp [AP,hlen]),Fc]
 have own_ne:∀ i k,i ≠ id->(AC (Fx κ id c') ((Bc id h).set id b') i k↔AC κ h i k):=λi k hi=>by
  unfold AC;rw [List.getElem?_set_ne (Ne.symm hi),Da,FX hi];cases hh:h[i]? with
  | none=>simp
  | some b=>simp [FA]
 have own:∀ i k,AC (Fx κ id c') ((Bc id h).set id b') i k->(i ≠ id∧AC κ h i k) ∨ (i=id∧inBlk (some c') k b'):=λi k hi=>by
  by_cases e:i=id
  ·subst e
   exact .inr ⟨rfl,(own_id k).1 hi⟩
  ·exact .inl ⟨e,(own_ne i k e).1 hi⟩
 refine ⟨⟨?_,?_,?_,?_⟩,hkill,own⟩
 ·intro i bl hi
  by_cases ei:i=id
  ·subst ei
   rw [List.getElem?_set_self (by simpa [AP] using hlen)] at hi;simp at hi; subst hi;rw [Fc];exact hB
  ·rw [List.getElem?_set_ne (Ne.symm ei),Da] at hi
   rw [FX ei];cases hh:h[i]? with
   | none=>rw [hh] at hi; cases hi
   | some b =>rw [hh] at hi;simp at hi;subst hi;exact AQ.kill hS hkill (λk hk=>hw k ((g.blk i b hh).lt hk) λe=>g.sep i id k ei ((Ax hh).2 hk) ((Ax hb).2 e)) (g.blk i b hh)
 ·intro i j k hij hi hj
  rcases own i k hi with ⟨e1,h1⟩ | ⟨e1,h1⟩
  ·rcases own j k hj with ⟨e2,h2⟩ | ⟨e2,h2⟩
   ·exact g.sep i j k hij h1 h2
   ·rcases hc k h2 with h3 | h3
    ·exact g.sep i id k e1 h1 ((Ax hb).2 h3)
    ·have:=g.lt h1; omega
  ·rcases own j k hj with ⟨e2,h2⟩ | ⟨e2,h2⟩
   ·rcases hc k h1 with h3 | h3
    ·exact g.sep j id k e2 h2 ((Ax hb).2 h3)
    ·have:=g.lt h2; omega
   ·omega
 ·intro k hk
  obtain ⟨h1,h2,h3⟩:=hout k hk;refine ⟨h1,λi hi=>?_⟩;rcases own i k hi with ⟨e1,h4⟩ | ⟨e1,h4⟩
  ·exact h2 i e1 h4
  ·exact h3 h4
 ·intro i hi
  simp [AP] at hi;rw [FX (by omega)];exact g.dom i hi
theorem UE {id i:Nat} {h:List Blk} {lk:Bool} {e:TypeId} {s n:Nat} {g:Nat->V}:(Bc id h)[i]? = some (.xrow lk e s n g)↔h[i]? = some (.xrow lk e s n g):=by
 rw [Da];cases h[i]? with
 | none=>simp
 | some b=>cases b <;> simp [EZ]
theorem Ext.turn {h:List Blk} (g:Good κ S h w) {id:Nat} {b0 b':Blk} {c':Value} (hb:h[id]? = some b0)
  (hos:w'.os=w.os) (htape:w'.tape=w.tape) (hout:w'.output=w.output) (hsz:w.heap.size <= w'.heap.size)
  (hw:∀ k,k<w.heap.size->¬ inBlk (κ id) k b0->w'.heap[k]? = w.heap[k]?)
  (hc:∀ k,inBlk (some c') k b'->inBlk (κ id) k b0 ∨ w.heap.size <= k)
  (hsub:∀ k,S' k->S k ∨ (∃ j,AC κ h j k) ∨ w.heap.size <= k) (hsup:∀ k,S k->S' k)
  (hbx:¬ Df b') (hbt:∀ e s n g,b0 = .xrow true e s n g->(∃ n' g',b' = .xrow true e s n' g'∧n <= n')∧∀ k,inBlk (κ id) k b0->En w w' k (n * s))
  (own:∀ i k,AC (Fx κ id c') ((Bc id h).set id b') i k->(i ≠ id∧AC κ h i k) ∨ (i=id∧inBlk (some c') k b')) :
  Ext κ S h w (Fx κ id c') S' ((Bc id h).set id b') w':=by
 have hlen:id<h.length:=(List.getElem?_eq_some_iff.1 hb).1;have keep:∀ k,k<w.heap.size->(∀ i,¬ AC κ h i k)->w'.heap[k]? = w.heap[k]?:=λk hk1 hk2=>hw k hk1 (λe=>hk2 id ((Ax hb).2 e));have get_ne:∀ i,i ≠ id->((Bc id h).set id b')[i]? = (Bc id h)[i]?:=λi hi=>List.getElem?_set_ne (Ne.symm hi);refine ⟨hos,htape,hout,hsz,keep,λi k hi=>?_,hsub,hsup,IT hsz keep ?_ ?_,?_⟩
 ·rcases own i k hi with ⟨_,h1⟩ | ⟨_,h1⟩
  ·exact .inl ⟨i,h1⟩
  ·exact (hc k h1).elim (λq=>.inl ⟨id,(Ax hb).2 q⟩) .inr
 ·intro i k hi hlt
  rcases own i k hi with ⟨hii,h1⟩ | ⟨hii,h1⟩
  ·exact ⟨i,h1,λe1 s1 n1 g1 hh=>⟨e1,s1,n1,g1,by rw [get_ne i hii]; exact UE.2 hh,Nat.le_refl _⟩⟩
  ·subst hii
   rcases hc k h1 with q | q
   ·refine ⟨i,(Ax hb).2 q,λe1 s1 n1 g1 hh=>?_⟩
    rw [hb] at hh;simp only [Option.some.injEq] at hh;obtain ⟨⟨n',g',rfl,hn⟩,_⟩:=hbt _ _ _ _ hh;exact ⟨e1,s1,n',g',by simp [AP,hlen],Nat.mul_le_mul_right _ hn⟩
   ·omega
 ·intro i e1 s1 n1 g1 k hi hk
  by_cases hii:i=id
  ·subst hii
   rw [hb] at hi;simp only [Option.some.injEq] at hi;exact (hbt _ _ _ _ hi).2 k ((Ax hb).1 hk)
  ·exact En.same (hw k (g.lt hk) λe'=>g.sep i id k hii hk ((Ax hb).2 e'))
 ·intro i bl hi hf
  by_cases hii:i=id
  ·subst hii
   rw [List.getElem?_set_self (by simpa [AP] using hlen)] at hi;simp only [Option.some.injEq] at hi;subst hi;exact absurd hf hbx
  ·rw [get_ne i hii,Da,Option.map_eq_some_iff] at hi
   obtain ⟨b1,h1,rfl⟩:=hi;exact ⟨FX hii,b1,h1,(Nx hf).2⟩
theorem Good.app {h:List Blk} (g:Good κ S h w) {id:Nat} {b0:Blk} {e:TypeId} {s n:Nat} {gx:Nat->V} {b':Blk} {c':Value} (hb:h[id]? = some b0) (hrow:FH b0 e s n gx) (hd':Fa b')
  (hw:∀ k,k<w.heap.size->Ao (κ id) ≠ some k->w'.heap[k]? = w.heap[k]?) (hsz:w.heap.size <= w'.heap.size)
  (hc:Ao (some c')=Ao (κ id) ∨ Ao (some c')=some w.heap.size)
  (hB:AQ S w' (Fx κ id c') (some c') b') :
  Good (Fx κ id c') S ((Bc id h).set id b') w' ∧
  (∀ (vs:List V) (l:List Value),VRs S w vs κ l->VRs S w' (kill.kills id vs) (Fx κ id c') l) ∧
  (∀ i k,AC (Fx κ id c') ((Bc id h).set id b') i k->(i ≠ id∧AC κ h i k) ∨ (i=id∧inBlk (some c') k b')):=by
 have hp:=hrow.plain;have hc':∀ k,inBlk (some c') k b'->inBlk (κ id) k b0 ∨ w.heap.size <= k:=λk hk=>by
  rw [hd'.inBlk] at hk;rw [hp.inBlk];rcases hc with q | q
  ·exact .inl (by rw [<- q]; exact hk)
  ·rw [q] at hk; simp at hk; exact .inr (by omega)
 have hw':∀ k,k<w.heap.size->¬ inBlk (κ id) k b0->w'.heap[k]? = w.heap[k]?:=λk h1 h2=>hw k h1 λe=>h2 (hp.inBlk.2 e);refine g.turn hb (hrow.noPtr (g.blk id _ hb)) (λk hk=>⟨hk,hw' k (g.out k hk).1 (λe=>(g.out k hk).2 id ((Ax hb).2 e))⟩)
  (λk hk=>⟨Nat.lt_of_lt_of_le (g.out k hk).1 hsz,λi _=>(g.out k hk).2 i,λh1=>?_⟩) hw' hc' hB
 rcases hc' k h1 with h2 | h2
 ·exact (g.out k hk).2 id ((Ax hb).2 h2)
 ·have:=(g.out k hk).1; omega
theorem Ext.app {h:List Blk} (g:Good κ S h w) {id:Nat} {b0:Blk} {e:TypeId} {s n:Nat} {gx:Nat->V} {b':Blk} {c':Value} (hb:h[id]? = some b0) (hrow:FH b0 e s n gx) (hd':Fa b')
  (hos:w'.os=w.os) (htape:w'.tape=w.tape) (hout:w'.output=w.output)
  (hw:∀ k,k<w.heap.size->Ao (κ id) ≠ some k->w'.heap[k]? = w.heap[k]?) (hsz:w.heap.size <= w'.heap.size)
  (hc:Ao (some c')=Ao (κ id) ∨ Ao (some c')=some w.heap.size)
  (hbx:∀ e s n g,b' ≠ .xrow false e s n g) (hbt:∀ e s n g,b0 = .xrow true e s n g->(∃ n' g',b' = .xrow true e s n' g'∧n <= n')∧∀ k,Ao (κ id)=some k->En w w' k (n * s))
  (own:∀ i k,AC (Fx κ id c') ((Bc id h).set id b') i k->(i ≠ id∧AC κ h i k) ∨ (i=id∧inBlk (some c') k b')) :
  Ext κ S h w (Fx κ id c') S ((Bc id h).set id b') w':=by
 have hp:=hrow.plain;refine Ext.turn g hb hos htape hout hsz (λk h1 h2=>hw k h1 λe=>h2 (hp.inBlk.2 e)) (λk hk=>?_) (λ_ hk=>.inl hk) (λ_ hk=>hk) (notFixed hd' hbx)
  (λe s n g he=>⟨(hbt e s n g he).1,λk hk=>(hbt e s n g he).2 k (hp.inBlk.1 hk)⟩) own
 rw [hd'.inBlk] at hk;rw [hp.inBlk];rcases hc with q | q
 ·exact .inl (by rw [<- q]; exact hk)
 ·rw [q] at hk; simp at hk; exact .inr (by omega)
structure Forget (fB:Blk->Blk):Prop where
 inB:∀ b v g,inBlk v g (fB b)↔inBlk v g b
 fix:∀ b,Df (fB b)->BN (fB b) b
 xr:∀ e s n g,fB (.xrow true e s n g) = .xrow true e s n g
theorem FB (id:Nat):Forget (EZ id):=⟨λ_ _ _=>FA,λ_ h=>(Nx h).2,λ_ _ _ _=>rfl⟩
theorem Io (id:Nat):Forget (ES id):=⟨λ_ _ _=>SL,λ_ h=>(SE h).2,λ_ _ _ _=>rfl⟩
theorem Forget.comp {f g:Blk->Blk} (hf:Forget f) (hg:Forget g):Forget (λb=>f (g b)) :=
 ⟨λb v k=>(hf.inB (g b) v k).trans (hg.inB b v k),λb h=>by
  have h1:=hf.fix (g b) h;exact BN.trans h h1 (hg.fix b (h1.fixed h)),λe s n k=>by rw [hg.xr,hf.xr]⟩
structure Regroup (κ:Aq) (h:List Blk) (w:World) (κ':Aq) (h':List Blk) (w':World) (S:Nat->Prop) (P:Nat->Prop) (fB:Blk->Blk):Prop where
 kept:∀ i,¬ P i->h'[i]? = (h[i]?).map fB∧κ' i=κ i
 forget:Forget fB
 trans:∀ i b,¬ P i->h[i]? = some b->(∀ g,inBlk (κ i) g b->w'.heap[g]? = w.heap[g]?)->AQ S w κ (κ i) b->AQ S w' κ' (κ i) (fB b)
 far:∀ k,k<w.heap.size->(∀ i,P i->¬ AC κ h i k)->w'.heap[k]? = w.heap[k]?
 size:w.heap.size <= w'.heap.size
 made:∀ i b,P i->h'[i]? = some b->AQ S w' κ' (κ' i) b
 own:∀ i k,P i->AC κ' h' i k->(∃ j,P j∧AC κ h j k) ∨ w.heap.size <= k
 sep:∀ i j k,P i->P j->i ≠ j->AC κ' h' i k->¬ AC κ' h' j k
 dom:∀ i,h'.length <= i->κ' i=none
 nox:∀ i e s n g,P i->h[i]? ≠ some (.xrow true e s n g)
 nof:∀ i b,P i->h'[i]? = some b->¬ Df b
theorem Regroup.own_kept {h h':List Blk} {P:Nat->Prop} {fB:Blk->Blk} (r:Regroup κ h w κ' h' w' S P fB) {i k:Nat} (hi:¬ P i):AC κ' h' i k↔AC κ h i k:=by
 obtain ⟨h1,h2⟩:=r.kept i hi;unfold AC;rw [h1,h2];cases h[i]? with
 | none=>simp
 | some b=>simp [r.forget.inB]
theorem Good.regroup {h h':List Blk} (g:Good κ S h w) {P:Nat->Prop} {fB:Blk->Blk} (r:Regroup κ h w κ' h' w' S P fB):Good κ' S h' w':=by
 have hfar:∀ i k,¬ P i->AC κ h i k->w'.heap[k]? = w.heap[k]?:=λi k hi hk=>r.far k (g.lt hk) λj hj hjk=>g.sep i j k (λe=>hi (by rw [e]; exact hj)) hk hjk;refine ⟨?_,?_,?_,r.dom⟩
 ·intro i b hi
  by_cases hp:P i
  ·exact r.made i b hp hi
  ·obtain ⟨h1,h2⟩:=r.kept i hp
   rw [h1,Option.map_eq_some_iff] at hi;obtain ⟨b0,h3,rfl⟩:=hi;rw [h2];exact r.trans i b0 hp h3 (λk hk=>hfar i k hp ((Ax h3).2 hk)) (g.blk i b0 h3)
 ·intro i j k hij hi hj
  by_cases hpi:P i
  ·by_cases hpj:P j
   ·exact r.sep i j k hpi hpj hij hi hj
   ·rw [r.own_kept hpj] at hj
    rcases r.own i k hpi hi with ⟨q,hq,hqk⟩ | hle
    ·exact g.sep j q k (λe=>hpj (by rw [e]; exact hq)) hj hqk
    ·have:=g.lt hj; omega
  ·rw [r.own_kept hpi] at hi
   by_cases hpj:P j
   ·rcases r.own j k hpj hj with ⟨q,hq,hqk⟩ | hle
    ·exact g.sep i q k (λe=>hpi (by rw [e]; exact hq)) hi hqk
    ·have:=g.lt hi; omega
   ·rw [r.own_kept hpj] at hj
    exact g.sep i j k hij hi hj
 ·intro k hk
  refine ⟨Nat.lt_of_lt_of_le (g.out k hk).1 r.size,λi hi=>?_⟩;by_cases hpi:P i
  ·rcases r.own i k hpi hi with ⟨q,_,hqk⟩ | hle
   ·exact (g.out k hk).2 q hqk
   ·have:=(g.out k hk).1; omega
  ·exact (g.out k hk).2 i ((r.own_kept hpi).1 hi)
theorem Ext.regroup {h h':List Blk} (g:Good κ S h w) {P:Nat->Prop} {fB:Blk->Blk} (r:Regroup κ h w κ' h' w' S P fB) (hos:w'.os=w.os) (htape:w'.tape=w.tape) (hout:w'.output=w.output) :
  Ext κ S h w κ' S h' w':=by
 have keep:∀ k,k<w.heap.size->(∀ i,¬ AC κ h i k)->w'.heap[k]? = w.heap[k]?:=λk h1 h2=>r.far k h1 λi _=>h2 i;refine ⟨hos,htape,hout,r.size,keep,λi k hi=>?_,λ_ hk=>.inl hk,λ_ hk=>hk,IT r.size keep ?_ ?_,?_⟩
 ·by_cases hp:P i
  ·exact (r.own i k hp hi).imp (λ⟨j,_,q⟩=>⟨j,q⟩) id
  ·exact .inl ⟨i,(r.own_kept hp).1 hi⟩
 ·intro i k hi hlt
  by_cases hp:P i
  ·rcases r.own i k hp hi with ⟨j,hj,q⟩ | hle
   ·exact ⟨j,q,λe s n g hh=>absurd hh (r.nox j e s n g hj)⟩
   ·omega
  ·refine ⟨i,(r.own_kept hp).1 hi,λe s n g hh=>⟨e,s,n,g,?_,Nat.le_refl _⟩⟩
   rw [(r.kept i hp).1,hh];exact congrArg some (r.forget.xr e s n g)
 ·intro i e s n gx k hi hk
  by_cases hp:P i
  ·exact absurd hi (r.nox i e s n gx hp)
  ·exact En.same (r.far k (g.lt hk) λj hj hjk=>g.sep i j k (λe=>hp (by rw [e]; exact hj)) hk hjk)
 ·intro i b hi hf
  by_cases hp:P i
  ·exact absurd hf (r.nof i b hp hi)
  ·obtain ⟨h1,h2⟩:=r.kept i hp
   rw [h1,Option.map_eq_some_iff] at hi;obtain ⟨b0,h3,rfl⟩:=hi;exact ⟨h2,b0,h3,r.forget.fix b0 hf⟩
end
end Go.Sy
