/-
  How the evaluator's own blocks are kept: a new block, a block written over, a row that grows. No conditions.
-/
import Derived.Test.YtkbgidbledjejaaGreatSyB
import Derived.Laws.CopyRow
import Derived.Laws.Rows
namespace Go.Sy
section
variable {S S':Nat->Prop} {w w':World} {κ κ':Ai}
theorem BQ {base:Nat} {e:TypeId} {size:Nat} {v:Value} {n:Nat} {xs:List Value} (h:w.ownsRow base e size v n xs)
  (hb:∀ g,Ak (some v)=some g->w'.heap[g]? = w.heap[g]?):w'.ownsRow base e size v n xs:=by
 refine ⟨h.1,?_⟩;rcases h.2 with h2 | ⟨g,cap,cur,hv,hbase,hg,rest⟩
 ·exact .inl h2
 ·refine .inr ⟨g,cap,cur,hv,hbase,?_,rest⟩
  rw [hb g (by rw [hv]; rfl)];exact hg
theorem GQ {base:Nat} {e:TypeId} {size:Nat} {v:Value} {n:Nat} {xs:List Value} (h:w.ownsRow base e size v n xs) {g:Nat} (hg:Ak (some v)=some g):g<w.heap.size:=by
 rcases h.2 with ⟨rfl,_⟩ | ⟨g',cap,cur,rfl,_,hh,_⟩
 ·simp [Ak] at hg
 ·simp [Ak] at hg
  subst hg;exact (Array.getElem?_eq_some_iff.1 hh).1
theorem Br {base:Nat} {e:TypeId} {size:Nat} {v:Value} {n:Nat} {xs:List Value} (h:w.ownsRow base e size v n xs):∃ a cap,v = .slice a n cap:=by
 rcases h.2 with ⟨rfl,h0⟩ | ⟨g',cap,cur,rfl,_⟩
 ·exact ⟨none,0,by rw [h0]⟩
 ·exact ⟨_,_,rfl⟩
theorem NK.mono {j:Jag} {xs:List Value} (h:NK S w j xs) (hS:∀ b,S b->S' b∧w'.heap[b]? = w.heap[b]?):NK S' w' j xs:=λi hi=>by
 obtain ⟨ci,h1,h2,h3,h4⟩:=h i hi;exact ⟨ci,VR.mono hS _ _ _ _ (λ_ _ h=>h) h1,h2,h3,h4⟩
theorem HF.mono {j:Jag} {xs:List Value} {i:Nat} {m:Value} (h:HF S w j xs i m) (hS:∀ b,S b->S' b∧w'.heap[b]? = w.heap[b]?) (hb:∀ g,Ak (some m)=some g->w'.heap[g]? = w.heap[g]?):HF S' w' j xs i m:=by
 unfold HF at h ⊢;split
 ·rename_i hl
  rw [hl] at h;obtain ⟨h1,ys,h2,h3⟩:=h;exact ⟨h1,ys,BQ h2 hb,h3.mono hS⟩
 ·rename_i hl
  rw [hl] at h;exact h
theorem O2.mono {j:Jag} {q:Mp} {xs:List Value} {i:Nat} {m:Value} (h:O2 w j q xs i m) (hb:∀ g,Ak (some m)=some g->w'.heap[g]? = w.heap[g]?):O2 w' j q xs i m:=by
 unfold O2 at h ⊢;refine ⟨h.1,?_⟩;have h:=h.2;split
 ·rename_i hl
  rw [hl] at h;obtain ⟨b,o,rfl,h2,h3⟩:=h;exact ⟨b,o,rfl,by rw [hb b rfl]; exact h2,h3⟩
 ·rename_i hl
  rw [hl] at h;exact h
theorem Abv.mono {j:Jag} {xs:List Value} {i:Nat} {m:Value} (h:Abv S w j xs i m) (hS:∀ b,S b->S' b∧w'.heap[b]? = w.heap[b]?) (hb:∀ g,Ak (some m)=some g->w'.heap[g]? = w.heap[g]?):Abv S' w' j xs i m:=by
 rcases h with ⟨hi,h⟩ | ⟨q,k,h1,h2,h⟩
 ·exact .inl ⟨hi,h.mono hS hb⟩
 ·exact .inr ⟨q,k,h1,h2,h.mono hb⟩
theorem Abv.lt {j:Jag} {xs:List Value} {i:Nat} {m:Value} (h:Abv S w j xs i m) {g:Nat} (hg:Ak (some m)=some g):g<w.heap.size:=by
 rcases h with ⟨_,h⟩ | ⟨q,k,_,_,h⟩
 ·unfold HF at h
  split at h
  ·obtain ⟨_,ys,q,_⟩:=h
   exact GQ q hg
  ·rw [h] at hg
   simp [Ak] at hg
 ·have h:=h.2
  split at h
  ·obtain ⟨b,o,rfl,h2,_⟩:=h
   simp [Ak] at hg;subst hg;exact (Array.getElem?_eq_some_iff.1 h2).1
  ·rw [h] at hg
   simp [Ak] at hg
theorem DD {c:Value} {ms:Array Value} {g:Nat} (h:Ak (some c)=some g):VM (some (.tuple #[c,.agg ms])) g:=⟨c,ms,rfl,.inl h⟩
theorem BU {c:Value} {ms:Array Value} {i:Nat} {m:Value} {g:Nat} (hi:ms[i]? = some m) (h:Ak (some m)=some g):VM (some (.tuple #[c,.agg ms])) g:=⟨c,ms,rfl,.inr ⟨i,m,hi,h⟩⟩
theorem AC {c c':Value} {ms ms':Array Value} (h:(some (Value.tuple #[c,.agg ms]):Option Value)=some (.tuple #[c',.agg ms'])):c=c'∧ms=ms':=by
 simp at h;exact h
theorem HH.mono {j:Jag} {c:Value} {ms:Array Value} {xs:List Value} (h:HH S w j c ms xs) (hS:∀ b,S b->S' b∧w'.heap[b]? = w.heap[b]?)
  (hb:∀ g,VM (some (.tuple #[c,.agg ms])) g->w'.heap[g]? = w.heap[g]?):HH S' w' j c ms xs:=by
 obtain ⟨h1,h2,h3,h4,h5,h6,h7,h8,h9⟩:=h;exact ⟨h1,h2,h3,h4,BQ h5 λg hg=>hb g (DD hg),h6,h7.mono hS,λi m hm=>(h8 i m hm).mono hS λg hg=>hb g (BU hm hg),h9⟩
theorem A7.mono {v:Option Value} {b:Blk} (hS:∀ b,S b->S' b∧w'.heap[b]? = w.heap[b]?) (hk:∀ id c,κ id=some c->κ' id=some c)
  (hb:∀ g,inBlk v g b->w'.heap[g]? = w.heap[g]?) (h:A7 S w κ v b):A7 S' w' κ' v b:=by
 cases b with
 | cells cs =>obtain ⟨g,e,ca,hv,hg,hr⟩:=h;exact ⟨g,e,ca,hv,by rw [hb g (by rw [hv]; rfl)]; exact hg,VR.mono_go hS _ _ _ _ hk hr⟩
 | row e s n g =>obtain ⟨h0,c,xs,hv,ho,he⟩:=h;exact ⟨h0,c,xs,hv,BQ ho (λg hg=>hb g (by rw [hv]; exact hg)),he.mono hS⟩
 | imap ty n get =>obtain ⟨k,o,hv,ho,hr⟩:=h;exact ⟨k,o,hv,by rw [hb k (by rw [hv]; rfl)]; exact ho,hr⟩
 | gmap ty ks hs get =>obtain ⟨k,o,hv,ho,hr⟩:=h;exact ⟨k,o,hv,by rw [hb k (by rw [hv]; rfl)]; exact ho,hr.1.mono hS,hr.2⟩
 | xrow lk e s n g =>obtain ⟨h0,c,xs,hv,ho,he⟩:=h;exact ⟨h0,c,xs,hv,BQ ho (λg hg=>hb g (by rw [hv]; exact hg)),he.mono hS⟩
 | jag j =>obtain ⟨c,ms,xs,hv,hj⟩:=h;exact ⟨c,ms,xs,hv,hj.mono hS λg hg=>hb g (by rw [hv]; exact hg)⟩
 | saved vs =>
  rcases h with h | ⟨l,hv,hr⟩
  ·exact .inl h
  ·exact .inr ⟨l,hv,VR.mono_go hS _ _ _ _ hk hr⟩
 | rng cd ts q =>obtain ⟨l,r,hv,hh,h1,h2,hr⟩:=h;exact ⟨l,r,hv,by rw [hb l (by rw [hv]; rfl)]; exact hh,h1,h2,VR.mono_go hS _ _ _ _ hk hr⟩
 | dead=>trivial
theorem A7.lt {v:Option Value} {b:Blk} {g:Nat} (h:A7 S w κ v b) (hg:inBlk v g b):g<w.heap.size:=by
 cases b with
 | cells cs =>obtain ⟨g',e,ca,hv,hh,_⟩:=h;have hg:Ak v=some g:=hg;rw [hv] at hg;simp [Ak] at hg;subst hg;exact (Array.getElem?_eq_some_iff.1 hh).1
 | row e s n get =>obtain ⟨_,c,xs,hv,ho,_⟩:=h;have hg:Ak v=some g:=hg;rw [hv] at hg;exact GQ ho hg
 | rng cd ts q =>obtain ⟨l,r,hv,hh,_⟩:=h;have hg:Ak v=some g:=hg;rw [hv] at hg;simp [Ak] at hg;subst hg;exact (Array.getElem?_eq_some_iff.1 hh).1
 | imap ty n get =>obtain ⟨k,o,hv,ho,_⟩:=h;have hg:Ak v=some g:=hg;rw [hv] at hg;simp [Ak] at hg;subst hg;exact (Array.getElem?_eq_some_iff.1 ho).1
 | gmap ty ks hs get =>obtain ⟨k,o,hv,ho,_⟩:=h;have hg:Ak v=some g:=hg;rw [hv] at hg;simp [Ak] at hg;subst hg;exact (Array.getElem?_eq_some_iff.1 ho).1
 | xrow lk e s n get =>obtain ⟨_,c,xs,hv,ho,_⟩:=h;have hg:Ak v=some g:=hg;rw [hv] at hg;exact GQ ho hg
 | jag j =>
  obtain ⟨c,ms,xs,hv,_,_,_,h4,h5,_,_,h8,_⟩:=h;obtain ⟨c',ms',hv',hg⟩:=hg;rw [hv] at hv';obtain ⟨rfl,rfl⟩:=AC hv';rcases hg with hg | ⟨i,m,hm,hg⟩
  ·exact GQ h5 hg
  ·exact (h8 i m hm).lt hg
 | saved vs=>exact hg.elim
 | dead=>exact hg.elim
theorem Aq {h:List Blk} {i g:Nat} {b:Blk} (e:h[i]? = some b):A3 κ h i g↔inBlk (κ i) g b:=by
 constructor
 ·rintro ⟨b',h1,h2⟩
  rw [e] at h1;simp only [Option.some.injEq] at h1;subst h1;exact h2
 ·exact λh=>⟨b,e,h⟩
theorem D9 {h:List Blk} {i g:Nat} (e:h[i]? = none):¬ A3 κ h i g:=λ⟨b,h1,_⟩=>by rw [e] at h1; cases h1
theorem GR {h h':List Blk} {i g:Nat} (e:h'[i]? = h[i]?) (ek:κ' i=κ i):A3 κ' h' i g↔A3 κ h i g:=by
 unfold A3;rw [e,ek]
theorem Good.lt {h:List Blk} (g:Good κ S h w) {i b:Nat} (e:A3 κ h i b):b<w.heap.size:=by
 obtain ⟨bl,h1,h2⟩:=e;exact (g.blk i bl h1).lt h2
def AZ (κ:Ai) (n:Nat) (c:Value):Ai:=λi=>if i=n then some c else κ i
theorem Good.addK_sub {h:List Blk} (g:Good κ S h w) (c:Value):∀ id u,κ id=some u->AZ κ h.length c id=some u:=by
 intro id u hu;unfold AZ;split
 ·rename_i e
  rw [e,g.dom _ (Nat.le_refl _)] at hu;cases hu
 ·exact hu
theorem Wb {c:Value} {n:Nat} (hc:Ak (some c)=none ∨ Ak (some c)=some n):∀ g,Ak (some c)=some g->n <= g:=λg hg=>by
 rcases hc with h | h
 ·rw [h] at hg; cases hg
 ·rw [h] at hg; simp at hg; omega
theorem Good.adopt {h:List Blk} (g:Good κ S h w) (b:Blk) (c:Value) (hB:A7 S w (AZ κ h.length c) (some c) b) (hc:∀ x,inBlk (some c) x b->¬ S x∧∀ i,¬ A3 κ h i x):Good (AZ κ h.length c) S (h++[b]) w:=by
 have hk:=g.addK_sub c;have hlt:∀ i,i<h.length->AZ κ h.length c i=κ i:=λi hi=>by unfold AZ; rw [if_neg (by omega)]
 have hself:AZ κ h.length c h.length=some c:=by simp [AZ]
 have own_old:∀ i k,i<h.length->(A3 (AZ κ h.length c) (h++[b]) i k↔A3 κ h i k):=λi k hi =>
  GR (List.getElem?_append_left hi) (hlt i hi)
 have own_new:∀ k,A3 (AZ κ h.length c) (h++[b]) h.length k->¬ S k∧∀ i,¬ A3 κ h i k:=λk hk=>by
  rw [Aq (b:=b) (by simp),hself] at hk;exact hc k hk
 have own_none:∀ i k,h.length<i->¬ A3 (AZ κ h.length c) (h++[b]) i k:=λi k hi=>D9 (List.getElem?_eq_none (by simp; omega));refine ⟨?_,?_,?_,?_⟩
 ·intro i bl hi
  rcases Nat.lt_trichotomy i h.length with hl | rfl | hl
  ·rw [List.getElem?_append_left hl] at hi
   rw [hlt i hl];exact (g.blk i bl hi).mono (λb hb=>⟨hb,rfl⟩) hk λ_ _=>rfl
  ·rw [List.getElem?_append_right (Nat.le_refl _)] at hi
   simp at hi;subst hi;rw [hself];exact hB
  ·rw [List.getElem?_eq_none (by simp; omega)] at hi
   cases hi
 ·intro i j k hij hi hj
  rcases Nat.lt_trichotomy i h.length with hl | rfl | hl
  ·rw [own_old i k hl] at hi
   rcases Nat.lt_trichotomy j h.length with hl' | rfl | hl'
   ·rw [own_old j k hl'] at hj
    exact g.sep i j k hij hi hj
   ·exact (own_new k hj).2 i hi
   ·exact own_none j k hl' hj
  ·have h1:=own_new k hi
   rcases Nat.lt_trichotomy j h.length with hl' | rfl | hl'
   ·rw [own_old j k hl'] at hj
    exact h1.2 j hj
   ·exact hij rfl
   ·exact own_none j k hl' hj
  ·exact own_none i k hl hi
 ·intro k hk'
  refine ⟨(g.out k hk').1,λi hi=>?_⟩;rcases Nat.lt_trichotomy i h.length with hl | rfl | hl
  ·rw [own_old i k hl] at hi
   exact (g.out k hk').2 i hi
  ·exact (own_new k hi).1 hk'
  ·exact own_none i k hl hi
 ·intro i hi
  simp at hi;unfold AZ;rw [if_neg (by omega)];exact g.dom i (by omega)
theorem Good.grow {h:List Blk} (g:Good κ S h w) (hw:∀ k,k<w.heap.size->w'.heap[k]? = w.heap[k]?) (hsz:w.heap.size <= w'.heap.size):Good κ S h w' :=
 ⟨λi b hi=>(g.blk i b hi).mono (λb hb=>⟨hb,hw b (g.out b hb).1⟩) (λ_ _ h=>h) λk hk=>hw k ((g.blk i b hi).lt hk),g.sep,λk hk=>⟨Nat.lt_of_lt_of_le (g.out k hk).1 hsz,(g.out k hk).2⟩,g.dom⟩
theorem Good.push' {h:List Blk} (g:Good κ S h w) (b:Blk) (c:Value) (hw:∀ k,k<w.heap.size->w'.heap[k]? = w.heap[k]?) (hsz:w.heap.size <= w'.heap.size)
  (hB:A7 S w' (AZ κ h.length c) (some c) b) (hc:∀ g,inBlk (some c) g b->w.heap.size <= g):Good (AZ κ h.length c) S (h++[b]) w' :=
 (g.grow hw hsz).adopt b c hB λx hx=>⟨λhS=>by have:=(g.out x hS).1; have:=hc x hx; omega,λi hi=>by have:=g.lt hi; have:=hc x hx; omega⟩
theorem Ext.adopt {κ0:Ai} {S0:Nat->Prop} {h0 h:List Blk} {w0:World} (e:Ext κ0 S0 h0 w0 κ S h w) (b:Blk) (c:Value) (hnx:¬ CB b) (hc:∀ x,inBlk (some c) x b->w0.heap.size <= x):Ext κ0 S0 h0 w0 (AZ κ h.length c) S (h++[b]) w:=by
 have own_old:∀ i k,i<h.length->(A3 (AZ κ h.length c) (h++[b]) i k↔A3 κ h i k):=λi k hi =>
  GR (List.getElem?_append_left hi) (by unfold AZ; rw [if_neg (by omega)])
 have own_new:∀ i k,h.length <= i->A3 (AZ κ h.length c) (h++[b]) i k->i=h.length∧w0.heap.size <= k:=λi k hi hk=>by
  rcases Nat.lt_or_ge h.length i with hl | hl
  ·exact absurd hk (D9 (List.getElem?_eq_none (by simp; omega)))
  ·have:i=h.length:=by omega
   subst this;rw [Aq (b:=b) (by simp),show AZ κ h.length c h.length=some c by simp [AZ]] at hk;exact ⟨rfl,hc k hk⟩
 refine ⟨e.os,e.tape,e.output,e.size,e.keep,λi k hi=>?_,e.sub,e.sup,λk p hs=>?_,λi bl hi hf=>?_⟩
 ·rcases Nat.lt_or_ge i h.length with hl | hl
  ·exact e.own i k ((own_old i k hl).1 hi)
  ·exact .inr (own_new i k hl hi).2
 ·obtain ⟨⟨q1,q2⟩,q3⟩:=e.pre k p hs
  refine ⟨⟨q1,λi hi=>?_⟩,q3⟩;rcases Nat.lt_or_ge i h.length with hl | hl
  ·obtain ⟨e',s,n,g,hh,hp⟩:=q2 i ((own_old i k hl).1 hi)
   exact ⟨e',s,n,g,by rw [List.getElem?_append_left hl]; exact hh,hp⟩
  ·have:=(own_new i k hl hi).2
   have:=hs.1;omega
 ·rcases Nat.lt_trichotomy i h.length with hl | rfl | hl
  ·rw [List.getElem?_append_left hl] at hi
   rw [show AZ κ h.length c i=κ i by unfold AZ; rw [if_neg (by omega)]];exact e.fix i bl hi hf
  ·simp at hi
   subst hi;exact absurd hf hnx
  ·rw [List.getElem?_eq_none (by simp; omega)] at hi
   cases hi
theorem Ext.push' {h:List Blk} (b:Blk) (c:Value) (hw:∀ k,k<w.heap.size->w'.heap[k]? = w.heap[k]?) (hsz:w.heap.size <= w'.heap.size)
  (hos:w'.os=w.os) (htape:w'.tape=w.tape) (hout:w'.output=w.output)
  (hc:∀ g,inBlk (some c) g b->w.heap.size <= g) (hnx:¬ CB b):Ext κ S h w (AZ κ h.length c) S (h++[b]) w':=by
 have hself:AZ κ h.length c h.length=some c:=by simp [AZ]
 have own_new:∀ k,A3 (AZ κ h.length c) (h++[b]) h.length k->w.heap.size <= k:=λk hk=>by
  rw [Aq (b:=b) (by simp),hself] at hk;exact hc k hk
 have own_old:∀ i k,i<h.length->(A3 (AZ κ h.length c) (h++[b]) i k↔A3 κ h i k):=λi k hi =>
  GR (List.getElem?_append_left hi) (by unfold AZ; rw [if_neg (by omega)])
 have own_none:∀ i k,h.length<i->¬ A3 (AZ κ h.length c) (h++[b]) i k:=λi k hi=>D9 (List.getElem?_eq_none (by simp; omega));refine ⟨hos,htape,hout,hsz,λk hk _=>hw k hk,?_,λk hk=>.inl hk,λk hk=>hk,I4 hsz (λk hk _=>hw k hk) ?_ (λi e s n g k hi hk=>?_),λi bl hi hf=>?_⟩
 rotate_left
 ·intro i k hi hlt
  rcases Nat.lt_trichotomy i h.length with hl | rfl | hl
  ·exact ⟨i,(own_old i k hl).1 hi,λe s n g hh=>⟨e,s,n,g,by rw [List.getElem?_append_left hl]; exact hh,Nat.le_refl _⟩⟩
  ·have:=own_new k hi
   omega
  ·exact absurd hi (own_none i k hl)
 ·rcases Nat.lt_or_ge k w.heap.size with hl | hl
  ·exact E5.same (hw k hl)
  ·intro ca e z hca
   rw [Array.getElem?_eq_none hl] at hca;cases hca
 ·rcases Nat.lt_trichotomy i h.length with hl | rfl | hl
  ·rw [List.getElem?_append_left hl] at hi
   exact ⟨by unfold AZ; rw [if_neg (by omega)],bl,hi,Bz.refl hf⟩
  ·rw [List.getElem?_append_right (Nat.le_refl _)] at hi
   simp at hi;subst hi;exact absurd hf hnx
  ·rw [List.getElem?_eq_none (by simp; omega)] at hi
   cases hi
 intro i k hi;rcases Nat.lt_trichotomy i h.length with hl | rfl | hl
 ·exact .inl ⟨i,(own_old i k hl).1 hi⟩
 ·exact .inr (own_new k hi)
 ·exact absurd hi (own_none i k hl)
theorem Good.upd' {h:List Blk} (g:Good κ S h w) {id:Nat} {b b':Blk} (hb:h[id]? = some b) (hin:∀ k,inBlk (κ id) k b'->inBlk (κ id) k b)
  (hw:∀ k,¬ inBlk (κ id) k b->k<w.heap.size->w'.heap[k]? = w.heap[k]?) (hsz:w.heap.size <= w'.heap.size) (hB:A7 S w' κ (κ id) b') :
  Good κ S (h.set id b') w'∧(∀ i k,A3 κ (h.set id b') i k->A3 κ h i k):=by
 have hlen:id<h.length:=(List.getElem?_eq_some_iff.1 hb).1;have hown:∀ i k,A3 κ (h.set id b') i k->A3 κ h i k:=λi k hi=>by
  by_cases e:id=i
  ·subst e
   rw [Aq (b:=b') (by simp [hlen])] at hi;rw [Aq hb];exact hin k hi
  ·exact (GR (List.getElem?_set_ne e) rfl).1 hi
 have hS:∀ b,S b->S b∧w'.heap[b]? = w.heap[b]?:=λk hk=>⟨hk,hw k (λe=>(g.out k hk).2 id ((Aq hb).2 e)) (g.out k hk).1⟩;refine ⟨⟨?_,?_,?_,?_⟩,hown⟩
 ·intro i bl hi
  by_cases e:id=i
  ·subst e
   rw [List.getElem?_set_self hlen] at hi;simp at hi; subst hi;exact hB
  ·rw [List.getElem?_set_ne e] at hi
   refine (g.blk i bl hi).mono hS (λ_ _ h=>h) λk hk=>hw k (λek=>?_) ((g.blk i bl hi).lt hk);exact g.sep id i k e ((Aq hb).2 ek) ((Aq hi).2 hk)
 ·intro i j k hij hi hj
  exact g.sep i j k hij (hown i k hi) (hown j k hj)
 ·intro k hk
  exact ⟨Nat.lt_of_lt_of_le (g.out k hk).1 hsz,λi hi=>(g.out k hk).2 i (hown i k hi)⟩
 ·intro i hi
  simp at hi;exact g.dom i hi
theorem Ext.upd' {h h':List Blk} (gd:Good κ S h w) {id:Nat} {b b':Blk} (hb:h[id]? = some b) (hh':h'=h.set id b')
  (hw:∀ k,¬ inBlk (κ id) k b->k<w.heap.size->w'.heap[k]? = w.heap[k]?) (hsz:w.heap.size <= w'.heap.size) (hos:w'.os=w.os) (htape:w'.tape=w.tape) (hout:w'.output=w.output)
  (hown:∀ i k,A3 κ h' i k->A3 κ h i k) (hnx:∀ e s n g,b ≠ .xrow true e s n g)
  (hfx:CB b'->Bz b' b):Ext κ S h w κ S h' w':=by
 have hlen:id<h.length:=(List.getElem?_eq_some_iff.1 hb).1;subst hh';refine ⟨hos,htape,hout,hsz,λk hk hn=>hw k (λe=>hn id ((Aq hb).2 e)) hk,λi k hi=>.inl ⟨i,hown i k hi⟩,λ_ hk=>.inl hk,λ_ hk=>hk,
  I4 hsz (λk hk hn=>hw k (λe=>hn id ((Aq hb).2 e)) hk)
   (λi k hi _=>⟨i,hown i k hi,λe s n g hh=>⟨e,s,n,g,by
    rw [List.getElem?_set_ne (λe'=>by subst e'; rw [hb] at hh; simp at hh; exact hnx _ _ _ _ hh)]; exact hh,Nat.le_refl _⟩⟩)
   (λi e s n g k hi hk=>E5.same (hw k (λe'=>by
    by_cases hii:i=id
    ·subst hii
     rw [hb] at hi;simp at hi;exact hnx e s n g hi
    ·exact gd.sep i id k hii hk ((Aq hb).2 e')) (gd.lt hk))),
  λi bl hi hf=>⟨rfl,?_⟩⟩
 by_cases hii:id=i
 ·subst hii
  rw [List.getElem?_set_self hlen] at hi;simp at hi;subst hi;exact ⟨b,hb,hfx hf⟩
 ·exact ⟨bl,by rw [<- List.getElem?_set_ne hii]; exact hi,Bz.refl hf⟩
def FW (κ:Ai) (n:Nat) (c:Value):Ai:=λi=>if i=n then some c else κ i
theorem FA (κ:Ai) (n:Nat) (c:Value):FW κ n c n=some c:=by simp [FW]
theorem FM {κ:Ai} {n i:Nat} {c:Value} (h:i ≠ n):FW κ n c i=κ i:=by unfold FW; rw [if_neg h]
def Jd (v:Option Value):Prop:=∀ a,v ≠ some (.pointer a)
mutual
theorem Ahy {id:Nat} (hS:∀ b,S b->S' b∧w'.heap[b]? = w.heap[b]?) (hid:Jd (κ id)) (hk:∀ i,i ≠ id->κ' i=κ i):∀ (v:V) (c:Value),
  VR S w v κ c->VR S' w' (kill id v) κ' c
 | .val _,_,h=>h
 | .str _,_,h=>h
 | .agg cs,_,h=>by
  obtain ⟨ca,e,h⟩:=h;exact ⟨ca,e,Dm hS hid hk cs _ h⟩
 | .tup cs,_,h=>by
  obtain ⟨ca,e,h⟩:=h;exact ⟨ca,e,Dm hS hid hk cs _ h⟩
 | .fn f cs,_,h=>by
  obtain ⟨ca,e,h⟩:=h;exact ⟨ca,e,Dm hS hid hk cs _ h⟩
 | .nilS,_,h=>h
 | .sl s n g,_,h=>VR.mono hS (.sl s n g) noK _ _ (λ_ _ h=>by cases h) h
 | .slr s n m g,_,h=>VR.mono hS (.slr s n m g) noK _ _ (λ_ _ h=>by cases h) h
 | .pp v,_,h=>VR.mono hS (.pp v) noK _ _ (λ_ _ h=>by cases h) h
 | .ptr k off,_,h=>by
  obtain ⟨g,h1,h2⟩:=h;refine ⟨g,?_,h2⟩;rw [hk k λe=>hid _ (by rw [<- e]; exact h1)];exact h1
 | .ref k,_,h=>by
  simp only [kill];split
  ·trivial
  ·rename_i e
   refine ⟨?_,h.2⟩;rw [hk k (Nat.ne_of_beq_eq_false e)];exact h.1
 | .ept k s i off,_,h=>by
  simp only [kill];split
  ·trivial
  ·rename_i e
   obtain ⟨g,n,cap,h1,h2⟩:=h;refine ⟨g,n,cap,?_,h2⟩;rw [hk k (Nat.ne_of_beq_eq_false e)];exact h1
 | .rct k i,_,h=>by
  simp only [kill];split
  ·trivial
  ·rename_i e
   obtain ⟨g,n,cap,h1,h2⟩:=h;refine ⟨g,n,cap,?_,h2⟩;rw [hk k (Nat.ne_of_beq_eq_false e)];exact h1
 | .jref k,_,h=>by
  simp only [kill];split
  ·trivial
  ·rename_i e
   obtain ⟨ms,h1,h2⟩:=h;refine ⟨ms,?_,h2⟩;rw [hk k (Nat.ne_of_beq_eq_false e)];exact h1
 | .jept k s i off,_,h=>by
  simp only [kill];split
  ·trivial
  ·rename_i e
   obtain ⟨g,n,cap,ms,h1,h2⟩:=h;refine ⟨g,n,cap,ms,?_,h2⟩;rw [hk k (Nat.ne_of_beq_eq_false e)];exact h1
 | .mref k i,_,h=>by
  simp only [kill];split
  ·trivial
  ·rename_i e
   obtain ⟨o,ms,h1,h2⟩:=h;refine ⟨o,ms,?_,h2⟩;rw [hk k (Nat.ne_of_beq_eq_false e)];exact h1
 | .mept k i s j off,_,h=>by
  simp only [kill];split
  ·trivial
  ·rename_i e
   obtain ⟨o,ms,g,n,cap,h1,h2⟩:=h;refine ⟨o,ms,g,n,cap,?_,h2⟩;rw [hk k (Nat.ne_of_beq_eq_false e)];exact h1
 | .anym,_,h=>h
 | .mmap k i,_,h=>by
  simp only [kill];split
  ·trivial
  ·rename_i e
   obtain ⟨o,ms,h1,h2⟩:=h;refine ⟨o,ms,?_,h2⟩;rw [hk k (Nat.ne_of_beq_eq_false e)];exact h1
 | .und,_,_=>trivial
theorem Dm {id:Nat} (hS:∀ b,S b->S' b∧w'.heap[b]? = w.heap[b]?) (hid:Jd (κ id)) (hk:∀ i,i ≠ id->κ' i=κ i):∀ (vs:List V) (l:List Value),
  VRs S w vs κ l->VRs S' w' (kill.kills id vs) κ' l
 | [],_,h=>h
 | v::vs,_,h=>by
  obtain ⟨a,l',e,h1,h2⟩:=h;exact ⟨a,l',e,Ahy hS hid hk v _ h1,Dm hS hid hk vs _ h2⟩
end
mutual
theorem W7 {id:Nat} {c0:Value} {ms ms':Array Value} (hS:∀ b,S b->S' b∧w'.heap[b]? = w.heap[b]?) (hid:κ id=some (.tuple #[c0,.agg ms])) (hid':κ' id=some (.tuple #[c0,.agg ms'])) (hk:∀ i c,i ≠ id->κ i=some c->κ' i=some c):∀ (v:V) (c:Value),
  VR S w v κ c->VR S' w' (killM id v) κ' c
 | .val _,_,h=>h
 | .str _,_,h=>h
 | .agg cs,_,h=>by
  obtain ⟨ca,e,h⟩:=h;exact ⟨ca,e,ET hS hid hid' hk cs _ h⟩
 | .tup cs,_,h=>by
  obtain ⟨ca,e,h⟩:=h;exact ⟨ca,e,ET hS hid hid' hk cs _ h⟩
 | .fn f cs,_,h=>by
  obtain ⟨ca,e,h⟩:=h;exact ⟨ca,e,ET hS hid hid' hk cs _ h⟩
 | .nilS,_,h=>h
 | .sl s n g,_,h=>VR.mono hS (.sl s n g) noK _ _ (λ_ _ h=>by cases h) h
 | .slr s n m g,_,h=>VR.mono hS (.slr s n m g) noK _ _ (λ_ _ h=>by cases h) h
 | .pp v,_,h=>VR.mono hS (.pp v) noK _ _ (λ_ _ h=>by cases h) h
 | .ptr k off,_,h=>by
  obtain ⟨g,h1,h2⟩:=h;exact ⟨g,hk k _ (λe=>by rw [e,hid] at h1; cases h1) h1,h2⟩
 | .ref k,c,h=>by
  obtain ⟨h1,h2⟩:=h;refine ⟨hk k _ (λe=>?_) h1,h2⟩;rw [e,hid] at h1;simp at h1;rcases h2 with ⟨a,n,cap,q⟩ | ⟨b,q⟩ | ⟨b,q⟩ <;> (rw [q] at h1; cases h1)
 | .ept k s i off,_,h=>by
  obtain ⟨g,n,cap,h1,h2⟩:=h;exact ⟨g,n,cap,hk k _ (λe=>by rw [e,hid] at h1; cases h1) h1,h2⟩
 | .rct k i,_,h=>by
  obtain ⟨g,n,cap,h1,h2⟩:=h;exact ⟨g,n,cap,hk k _ (λe=>by rw [e,hid] at h1; cases h1) h1,h2⟩
 | .jref k,_,h=>by
  obtain ⟨ms1,h1,h2⟩:=h;by_cases e:k=id
  ·subst e
   rw [hid] at h1;obtain ⟨rfl,rfl⟩:=AC h1;exact ⟨ms',hid',h2⟩
  ·exact ⟨ms1,hk k _ e h1,h2⟩
 | .jept k s i off,_,h=>by
  obtain ⟨g,n,cap,ms1,h1,h2⟩:=h;by_cases e:k=id
  ·subst e
   rw [hid] at h1;obtain ⟨rfl,rfl⟩:=AC h1;exact ⟨g,n,cap,ms',hid',h2⟩
  ·exact ⟨g,n,cap,ms1,hk k _ e h1,h2⟩
 | .mref k i,_,h=>by
  simp only [killM];split
  ·trivial
  ·rename_i e
   obtain ⟨o,ms,h1,h2⟩:=h;exact ⟨o,ms,hk k _ (Nat.ne_of_beq_eq_false e) h1,h2⟩
 | .mept k i s j off,_,h=>by
  simp only [killM];split
  ·trivial
  ·rename_i e
   obtain ⟨o,ms,g,n,cap,h1,h2⟩:=h;exact ⟨o,ms,g,n,cap,hk k _ (Nat.ne_of_beq_eq_false e) h1,h2⟩
 | .anym,_,h=>h
 | .mmap k i,_,h=>by
  simp only [killM];split
  ·trivial
  ·rename_i e
   obtain ⟨o,ms,h1,h2⟩:=h;exact ⟨o,ms,hk k _ (Nat.ne_of_beq_eq_false e) h1,h2⟩
 | .und,_,_=>trivial
theorem ET {id:Nat} {c0:Value} {ms ms':Array Value} (hS:∀ b,S b->S' b∧w'.heap[b]? = w.heap[b]?) (hid:κ id=some (.tuple #[c0,.agg ms])) (hid':κ' id=some (.tuple #[c0,.agg ms'])) (hk:∀ i c,i ≠ id->κ i=some c->κ' i=some c):∀ (vs:List V) (l:List Value),
  VRs S w vs κ l->VRs S' w' (killM.kills id vs) κ' l
 | [],_,h=>h
 | v::vs,_,h=>by
  obtain ⟨a,l',e,h1,h2⟩:=h;exact ⟨a,l',e,W7 hS hid hid' hk v _ h1,ET hS hid hid' hk vs _ h2⟩
end
theorem CW (id:Nat):∀ (h:List Blk) (i:Nat),(AU id h)[i]? = (h[i]?).map (Fj id)
 | [],_=>by simp [AU]
 | b::h,0=>by simp [AU]
 | b::h,i+1=>by simpa [AU] using CW id h i
theorem AI (id:Nat):∀ (h:List Blk),(AU id h).length=h.length
 | []=>rfl
 | b::h=>by simp [AU,AI id h]
theorem FY (id:Nat):∀ (h:List Blk) (i:Nat),(BL id h)[i]? = (h[i]?).map (Fi id)
 | [],_=>by simp [BL]
 | b::h,0=>by simp [BL]
 | b::h,i+1=>by simpa [BL] using FY id h i
theorem AX (id:Nat):∀ (h:List Blk),(BL id h).length=h.length
 | []=>rfl
 | b::h=>by simp [BL,AX id h]
theorem EX {id g:Nat} {v:Option Value} {b:Blk}:inBlk v g (Fj id b)↔inBlk v g b:=by cases b <;> exact Iff.rfl
theorem Uh {id g:Nat} {v:Option Value} {b:Blk}:inBlk v g (Fi id b)↔inBlk v g b:=by cases b <;> exact Iff.rfl
theorem J5 {id:Nat} {b:Blk}:CB (Fj id b)->CB b∧Bz (Fj id b) b:=by
 cases b with
 | xrow lk e s n g=>exact λh=>⟨h,Bz.refl h⟩
 | saved vs=>exact λ_=>⟨.inr ⟨vs,rfl⟩,⟨vs,rfl⟩⟩
 | _=>intro h; rcases h with ⟨_,_,_,_,h⟩ | ⟨_,h⟩ <;> simp [Fj] at h
theorem Ua {id:Nat} {b:Blk}:CB (Fi id b)->CB b∧Bz (Fi id b) b:=by
 cases b with
 | xrow lk e s n g=>exact λh=>⟨h,Bz.refl h⟩
 | saved vs=>exact λ_=>⟨.inr ⟨vs,rfl⟩,⟨vs,rfl⟩⟩
 | _=>intro h; rcases h with ⟨_,_,_,_,h⟩ | ⟨_,h⟩ <;> simp [Fi] at h
theorem A7.kill {v:Option Value} {b:Blk} {id:Nat} (hS:∀ b,S b->S' b∧w'.heap[b]? = w.heap[b]?) (hk:∀ vs l,VRs S w vs κ l->VRs S' w' (kill.kills id vs) κ' l)
  (hb:∀ g,inBlk v g b->w'.heap[g]? = w.heap[g]?) (h:A7 S w κ v b):A7 S' w' κ' v (Fj id b):=by
 cases b with
 | cells cs =>obtain ⟨g,e,ca,hv,hg,hr⟩:=h;exact ⟨g,e,ca,hv,by rw [hb g (by rw [hv]; rfl)]; exact hg,hk _ _ hr⟩
 | saved vs =>
  rcases h with rfl | ⟨l,hv,hr⟩
  ·exact .inl rfl
  ·exact .inr ⟨l,hv,hk _ _ hr⟩
 | rng cd ts q =>obtain ⟨l,r,hv,hh,h1,h2,hr⟩:=h;exact ⟨l,r,hv,by rw [hb l (by rw [hv]; rfl)]; exact hh,h1,h2,hk _ _ hr⟩
 | row e s n g=>exact A7.mono (κ:=noK) hS (λ_ _ h=>by cases h) hb (show A7 S w noK v (.row e s n g) from h)
 | imap ty n get=>exact A7.mono (κ:=noK) hS (λ_ _ h=>by cases h) hb (show A7 S w noK v (.imap ty n get) from h)
 | gmap ty ks hs get=>exact A7.mono (κ:=noK) hS (λ_ _ h=>by cases h) hb (show A7 S w noK v (.gmap ty ks hs get) from h)
 | xrow lk e s n g=>exact A7.mono (κ:=noK) hS (λ_ _ h=>by cases h) hb (show A7 S w noK v (.xrow lk e s n g) from h)
 | jag j=>exact A7.mono (κ:=noK) hS (λ_ _ h=>by cases h) hb (show A7 S w noK v (.jag j) from h)
 | dead=>trivial
theorem A7.killM {v:Option Value} {b:Blk} {id:Nat} (hS:∀ b,S b->S' b∧w'.heap[b]? = w.heap[b]?) (hk:∀ vs l,VRs S w vs κ l->VRs S' w' (killM.kills id vs) κ' l)
  (hb:∀ g,inBlk v g b->w'.heap[g]? = w.heap[g]?) (h:A7 S w κ v b):A7 S' w' κ' v (Fi id b):=by
 cases b with
 | cells cs =>obtain ⟨g,e,ca,hv,hg,hr⟩:=h;exact ⟨g,e,ca,hv,by rw [hb g (by rw [hv]; rfl)]; exact hg,hk _ _ hr⟩
 | saved vs =>
  rcases h with rfl | ⟨l,hv,hr⟩
  ·exact .inl rfl
  ·exact .inr ⟨l,hv,hk _ _ hr⟩
 | rng cd ts q =>obtain ⟨l,r,hv,hh,h1,h2,hr⟩:=h;exact ⟨l,r,hv,by rw [hb l (by rw [hv]; rfl)]; exact hh,h1,h2,hk _ _ hr⟩
 | row e s n g=>exact A7.mono (κ:=noK) hS (λ_ _ h=>by cases h) hb (show A7 S w noK v (.row e s n g) from h)
 | imap ty n get=>exact A7.mono (κ:=noK) hS (λ_ _ h=>by cases h) hb (show A7 S w noK v (.imap ty n get) from h)
 | gmap ty ks hs get=>exact A7.mono (κ:=noK) hS (λ_ _ h=>by cases h) hb (show A7 S w noK v (.gmap ty ks hs get) from h)
 | xrow lk e s n g=>exact A7.mono (κ:=noK) hS (λ_ _ h=>by cases h) hb (show A7 S w noK v (.xrow lk e s n g) from h)
 | jag j=>exact A7.mono (κ:=noK) hS (λ_ _ h=>by cases h) hb (show A7 S w noK v (.jag j) from h)
 | dead=>trivial
def F6:Blk->Prop
 | .jag _ | .saved _ | .dead=>False
 | _=>True
theorem F6.inBlk {b:Blk} (h:F6 b) {v:Option Value} {g:Nat}:inBlk v g b↔Ak v=some g:=by
 cases b <;> first | exact h.elim | exact Iff.rfl
theorem F6.own {b:Blk} (h:F6 b) {hp:List Blk} {i g:Nat} (e:hp[i]? = some b):A3 κ hp i g↔Ak (κ i)=some g:=(Aq e).trans h.inBlk
theorem notFixed {b:Blk} (hp:F6 b) (h:∀ e s n g,b ≠ .xrow false e s n g):¬ CB b:=λhf=>by
 rcases hf with ⟨e,s,n,g,rfl⟩ | ⟨vs,rfl⟩
 ·exact h _ _ _ _ rfl
 ·exact hp
theorem Good.push {h:List Blk} (g:Good κ S h w) (b:Blk) (c:Value) (hw:∀ k,k<w.heap.size->w'.heap[k]? = w.heap[k]?) (hsz:w.heap.size <= w'.heap.size)
  (hB:A7 S w' (AZ κ h.length c) (some c) b) (hc:Ak (some c)=none ∨ Ak (some c)=some w.heap.size) (hp:F6 b):Good (AZ κ h.length c) S (h++[b]) w' :=
 g.push' b c hw hsz hB λk hk=>Wb hc k (hp.inBlk.1 hk)
theorem Ext.push {h:List Blk} (b:Blk) (c:Value) (hw:∀ k,k<w.heap.size->w'.heap[k]? = w.heap[k]?) (hsz:w.heap.size <= w'.heap.size)
  (hos:w'.os=w.os) (htape:w'.tape=w.tape) (hout:w'.output=w.output)
  (hc:Ak (some c)=none ∨ Ak (some c)=some w.heap.size) (hp:F6 b) (hnx:∀ e s n g,b ≠ .xrow false e s n g):Ext κ S h w (AZ κ h.length c) S (h++[b]) w' :=
 Ext.push' b c hw hsz hos htape hout (λk hk=>Wb hc k (hp.inBlk.1 hk)) (notFixed hp hnx)
theorem Good.upd {h:List Blk} (g:Good κ S h w) {id blk:Nat} {b b':Blk} (hb:h[id]? = some b) (hd:F6 b) (hd':F6 b') (hid:Ak (κ id)=some blk)
  (hw:∀ k,k ≠ blk->w'.heap[k]? = w.heap[k]?) (hsz:w'.heap.size=w.heap.size) (hB:A7 S w' κ (κ id) b') :
  Good κ S (h.set id b') w'∧(∀ i k,A3 κ (h.set id b') i k->A3 κ h i k) :=
 g.upd' hb (λ_ hk=>hd.inBlk.2 (hd'.inBlk.1 hk)) (λk hk _=>hw k λe=>hk (hd.inBlk.2 (by rw [e]; exact hid))) (by omega) hB
theorem Ext.upd {h:List Blk} (gd:Good κ S h w) {id blk:Nat} {b b':Blk} (hb:h[id]? = some b) (hd:F6 b) (hd':F6 b') (hid:Ak (κ id)=some blk)
  (hw:∀ k,k ≠ blk->w'.heap[k]? = w.heap[k]?) (hsz:w'.heap.size=w.heap.size) (hos:w'.os=w.os) (htape:w'.tape=w.tape) (hout:w'.output=w.output)
  (hown:∀ i k,A3 κ (h.set id b') i k->A3 κ h i k) (hnx:∀ e s n g,b ≠ .xrow true e s n g)
  (hfx:∀ e s n g,b' = .xrow false e s n g->∃ g0,b = .xrow false e s n g0):Ext κ S h w κ S (h.set id b') w' :=
 Ext.upd' gd hb rfl (λk hk _=>hw k λe=>hk (hd.inBlk.2 (by rw [e]; exact hid))) (by omega) hos htape hout hown hnx λhf=>by
  rcases hf with ⟨e,s,n,g,rfl⟩ | ⟨vs,rfl⟩
  ·exact hfx _ _ _ _ rfl
  ·exact hd'.elim
def Ge (b:Blk) (e:TypeId) (s n:Nat) (g:Nat->V):Prop:=b = .row e s n g ∨ ∃ lk,b = .xrow lk e s n g
theorem Ge.holds {b:Blk} {e:TypeId} {s n:Nat} {g:Nat->V} {v:Option Value} (hb:Ge b e s n g) (h:A7 S w κ v b) :
  0<s∧∃ c xs,v=some c∧w.ownsRow 0 e s c n xs∧CS S w s n g xs:=by
 rcases hb with rfl | ⟨lk,rfl⟩ <;> exact h
theorem Ge.plain {b:Blk} {e:TypeId} {s n:Nat} {g:Nat->V} (hb:Ge b e s n g):F6 b:=by
 rcases hb with rfl | ⟨lk,rfl⟩ <;> exact trivial
theorem Ge.noPtr {b:Blk} {e:TypeId} {s n:Nat} {g:Nat->V} {v:Option Value} (hb:Ge b e s n g) (h:A7 S w κ v b):Jd v:=λa=>by
 obtain ⟨_,c,xs,hv,ho,_⟩:=hb.holds h;obtain ⟨b,cap,rfl⟩:=Br ho;rw [hv];simp
theorem Good.turn {h:List Blk} (g:Good κ S h w) {id:Nat} {b0 b':Blk} {c':Value} (hb:h[id]? = some b0) (hid:Jd (κ id))
  (hS:∀ b,S b->S' b∧w'.heap[b]? = w.heap[b]?) (hout:∀ k,S' k->k<w'.heap.size∧(∀ i,i ≠ id->¬ A3 κ h i k)∧¬ inBlk (some c') k b')
  (hw:∀ k,k<w.heap.size->¬ inBlk (κ id) k b0->w'.heap[k]? = w.heap[k]?)
  (hc:∀ k,inBlk (some c') k b'->inBlk (κ id) k b0 ∨ w.heap.size <= k)
  (hB:A7 S' w' (FW κ id c') (some c') b') :
  Good (FW κ id c') S' ((AU id h).set id b') w' ∧
  (∀ (vs:List V) (l:List Value),VRs S w vs κ l->VRs S' w' (kill.kills id vs) (FW κ id c') l) ∧
  (∀ i k,A3 (FW κ id c') ((AU id h).set id b') i k->(i ≠ id∧A3 κ h i k) ∨ (i=id∧inBlk (some c') k b')):=by
 have hlen:id<h.length:=(List.getElem?_eq_some_iff.1 hb).1;have hkill:∀ (vs:List V) (l:List Value),VRs S w vs κ l->VRs S' w' (kill.kills id vs) (FW κ id c') l:=λvs l hv=>Dm hS hid (λi hi=>FM hi) vs l hv;have own_id:∀ k,A3 (FW κ id c') ((AU id h).set id b') id k↔inBlk (some c') k b':=λk=>by
  rw [Aq (b:=b') (by simp [AI,hlen]),FA]
 have own_ne:∀ i k,i ≠ id->(A3 (FW κ id c') ((AU id h).set id b') i k↔A3 κ h i k):=λi k hi=>by
  unfold A3;rw [List.getElem?_set_ne (Ne.symm hi),CW,FM hi];cases hh:h[i]? with
  | none=>simp
  | some b=>simp [EX]
 have own:∀ i k,A3 (FW κ id c') ((AU id h).set id b') i k->(i ≠ id∧A3 κ h i k) ∨ (i=id∧inBlk (some c') k b'):=λi k hi=>by
  by_cases e:i=id
  ·subst e
   exact .inr ⟨rfl,(own_id k).1 hi⟩
  ·exact .inl ⟨e,(own_ne i k e).1 hi⟩
 refine ⟨⟨?_,?_,?_,?_⟩,hkill,own⟩
 ·intro i bl hi
  by_cases ei:i=id
  ·subst ei
   rw [List.getElem?_set_self (by simpa [AI] using hlen)] at hi;simp at hi; subst hi;rw [FA];exact hB
  ·rw [List.getElem?_set_ne (Ne.symm ei),CW] at hi
   rw [FM ei];cases hh:h[i]? with
   | none=>rw [hh] at hi; cases hi
   | some b =>rw [hh] at hi;simp at hi;subst hi;exact A7.kill hS hkill (λk hk=>hw k ((g.blk i b hh).lt hk) λe=>g.sep i id k ei ((Aq hh).2 hk) ((Aq hb).2 e)) (g.blk i b hh)
 ·intro i j k hij hi hj
  rcases own i k hi with ⟨e1,h1⟩ | ⟨e1,h1⟩
  ·rcases own j k hj with ⟨e2,h2⟩ | ⟨e2,h2⟩
   ·exact g.sep i j k hij h1 h2
   ·rcases hc k h2 with h3 | h3
    ·exact g.sep i id k e1 h1 ((Aq hb).2 h3)
    ·have:=g.lt h1; omega
  ·rcases own j k hj with ⟨e2,h2⟩ | ⟨e2,h2⟩
   ·rcases hc k h1 with h3 | h3
    ·exact g.sep j id k e2 h2 ((Aq hb).2 h3)
    ·have:=g.lt h2; omega
   ·omega
 ·intro k hk
  obtain ⟨h1,h2,h3⟩:=hout k hk;refine ⟨h1,λi hi=>?_⟩;rcases own i k hi with ⟨e1,h4⟩ | ⟨e1,h4⟩
  ·exact h2 i e1 h4
  ·exact h3 h4
 ·intro i hi
  simp [AI] at hi;rw [FM (by omega)];exact g.dom i hi
theorem VA {id i:Nat} {h:List Blk} {lk:Bool} {e:TypeId} {s n:Nat} {g:Nat->V}:(AU id h)[i]? = some (.xrow lk e s n g)↔h[i]? = some (.xrow lk e s n g):=by
 rw [CW];cases h[i]? with
 | none=>simp
 | some b=>cases b <;> simp [Fj]
theorem Ext.turn {h:List Blk} (g:Good κ S h w) {id:Nat} {b0 b':Blk} {c':Value} (hb:h[id]? = some b0)
  (hos:w'.os=w.os) (htape:w'.tape=w.tape) (hout:w'.output=w.output) (hsz:w.heap.size <= w'.heap.size)
  (hw:∀ k,k<w.heap.size->¬ inBlk (κ id) k b0->w'.heap[k]? = w.heap[k]?)
  (hc:∀ k,inBlk (some c') k b'->inBlk (κ id) k b0 ∨ w.heap.size <= k)
  (hsub:∀ k,S' k->S k ∨ (∃ j,A3 κ h j k) ∨ w.heap.size <= k) (hsup:∀ k,S k->S' k)
  (hbx:¬ CB b') (hbt:∀ e s n g,b0 = .xrow true e s n g->(∃ n' g',b' = .xrow true e s n' g'∧n <= n')∧∀ k,inBlk (κ id) k b0->E5 w w' k (n * s))
  (own:∀ i k,A3 (FW κ id c') ((AU id h).set id b') i k->(i ≠ id∧A3 κ h i k) ∨ (i=id∧inBlk (some c') k b')) :
  Ext κ S h w (FW κ id c') S' ((AU id h).set id b') w':=by
 have hlen:id<h.length:=(List.getElem?_eq_some_iff.1 hb).1;have keep:∀ k,k<w.heap.size->(∀ i,¬ A3 κ h i k)->w'.heap[k]? = w.heap[k]?:=λk hk1 hk2=>hw k hk1 (λe=>hk2 id ((Aq hb).2 e));have get_ne:∀ i,i ≠ id->((AU id h).set id b')[i]? = (AU id h)[i]?:=λi hi=>List.getElem?_set_ne (Ne.symm hi);refine ⟨hos,htape,hout,hsz,keep,λi k hi=>?_,hsub,hsup,I4 hsz keep ?_ ?_,?_⟩
 ·rcases own i k hi with ⟨_,h1⟩ | ⟨_,h1⟩
  ·exact .inl ⟨i,h1⟩
  ·exact (hc k h1).elim (λq=>.inl ⟨id,(Aq hb).2 q⟩) .inr
 ·intro i k hi hlt
  rcases own i k hi with ⟨hii,h1⟩ | ⟨hii,h1⟩
  ·exact ⟨i,h1,λe1 s1 n1 g1 hh=>⟨e1,s1,n1,g1,by rw [get_ne i hii]; exact VA.2 hh,Nat.le_refl _⟩⟩
  ·subst hii
   rcases hc k h1 with q | q
   ·refine ⟨i,(Aq hb).2 q,λe1 s1 n1 g1 hh=>?_⟩
    rw [hb] at hh;simp only [Option.some.injEq] at hh;obtain ⟨⟨n',g',rfl,hn⟩,_⟩:=hbt _ _ _ _ hh;exact ⟨e1,s1,n',g',by simp [AI,hlen],Nat.mul_le_mul_right _ hn⟩
   ·omega
 ·intro i e1 s1 n1 g1 k hi hk
  by_cases hii:i=id
  ·subst hii
   rw [hb] at hi;simp only [Option.some.injEq] at hi;exact (hbt _ _ _ _ hi).2 k ((Aq hb).1 hk)
  ·exact E5.same (hw k (g.lt hk) λe'=>g.sep i id k hii hk ((Aq hb).2 e'))
 ·intro i bl hi hf
  by_cases hii:i=id
  ·subst hii
   rw [List.getElem?_set_self (by simpa [AI] using hlen)] at hi;simp only [Option.some.injEq] at hi;subst hi;exact absurd hf hbx
  ·rw [get_ne i hii,CW,Option.map_eq_some_iff] at hi
   obtain ⟨b1,h1,rfl⟩:=hi;exact ⟨FM hii,b1,h1,(J5 hf).2⟩
theorem Good.app {h:List Blk} (g:Good κ S h w) {id:Nat} {b0:Blk} {e:TypeId} {s n:Nat} {gx:Nat->V} {b':Blk} {c':Value} (hb:h[id]? = some b0) (hrow:Ge b0 e s n gx) (hd':F6 b')
  (hw:∀ k,k<w.heap.size->Ak (κ id) ≠ some k->w'.heap[k]? = w.heap[k]?) (hsz:w.heap.size <= w'.heap.size)
  (hc:Ak (some c')=Ak (κ id) ∨ Ak (some c')=some w.heap.size)
  (hB:A7 S w' (FW κ id c') (some c') b') :
  Good (FW κ id c') S ((AU id h).set id b') w' ∧
  (∀ (vs:List V) (l:List Value),VRs S w vs κ l->VRs S w' (kill.kills id vs) (FW κ id c') l) ∧
  (∀ i k,A3 (FW κ id c') ((AU id h).set id b') i k->(i ≠ id∧A3 κ h i k) ∨ (i=id∧inBlk (some c') k b')):=by
 have hp:=hrow.plain;have hc':∀ k,inBlk (some c') k b'->inBlk (κ id) k b0 ∨ w.heap.size <= k:=λk hk=>by
  rw [hd'.inBlk] at hk;rw [hp.inBlk];rcases hc with q | q
  ·exact .inl (by rw [<- q]; exact hk)
  ·rw [q] at hk; simp at hk; exact .inr (by omega)
 have hw':∀ k,k<w.heap.size->¬ inBlk (κ id) k b0->w'.heap[k]? = w.heap[k]?:=λk h1 h2=>hw k h1 λe=>h2 (hp.inBlk.2 e);refine g.turn hb (hrow.noPtr (g.blk id _ hb)) (λk hk=>⟨hk,hw' k (g.out k hk).1 (λe=>(g.out k hk).2 id ((Aq hb).2 e))⟩)
  (λk hk=>⟨Nat.lt_of_lt_of_le (g.out k hk).1 hsz,λi _=>(g.out k hk).2 i,λh1=>?_⟩) hw' hc' hB
 rcases hc' k h1 with h2 | h2
 ·exact (g.out k hk).2 id ((Aq hb).2 h2)
 ·have:=(g.out k hk).1; omega
theorem Ext.app {h:List Blk} (g:Good κ S h w) {id:Nat} {b0:Blk} {e:TypeId} {s n:Nat} {gx:Nat->V} {b':Blk} {c':Value} (hb:h[id]? = some b0) (hrow:Ge b0 e s n gx) (hd':F6 b')
  (hos:w'.os=w.os) (htape:w'.tape=w.tape) (hout:w'.output=w.output)
  (hw:∀ k,k<w.heap.size->Ak (κ id) ≠ some k->w'.heap[k]? = w.heap[k]?) (hsz:w.heap.size <= w'.heap.size)
  (hc:Ak (some c')=Ak (κ id) ∨ Ak (some c')=some w.heap.size)
  (hbx:∀ e s n g,b' ≠ .xrow false e s n g) (hbt:∀ e s n g,b0 = .xrow true e s n g->(∃ n' g',b' = .xrow true e s n' g'∧n <= n')∧∀ k,Ak (κ id)=some k->E5 w w' k (n * s))
  (own:∀ i k,A3 (FW κ id c') ((AU id h).set id b') i k->(i ≠ id∧A3 κ h i k) ∨ (i=id∧inBlk (some c') k b')) :
  Ext κ S h w (FW κ id c') S ((AU id h).set id b') w':=by
 have hp:=hrow.plain;refine Ext.turn g hb hos htape hout hsz (λk h1 h2=>hw k h1 λe=>h2 (hp.inBlk.2 e)) (λk hk=>?_) (λ_ hk=>.inl hk) (λ_ hk=>hk) (notFixed hd' hbx)
  (λe s n g he=>⟨(hbt e s n g he).1,λk hk=>(hbt e s n g he).2 k (hp.inBlk.1 hk)⟩) own
 rw [hd'.inBlk] at hk;rw [hp.inBlk];rcases hc with q | q
 ·exact .inl (by rw [<- q]; exact hk)
 ·rw [q] at hk; simp at hk; exact .inr (by omega)
structure Forget (fB:Blk->Blk):Prop where
 inB:∀ b v g,inBlk v g (fB b)↔inBlk v g b
 fix:∀ b,CB (fB b)->Bz (fB b) b
 xr:∀ e s n g,fB (.xrow true e s n g) = .xrow true e s n g
theorem Gb (id:Nat):Forget (Fj id):=⟨λ_ _ _=>EX,λ_ h=>(J5 h).2,λ_ _ _ _=>rfl⟩
theorem IJ (id:Nat):Forget (Fi id):=⟨λ_ _ _=>Uh,λ_ h=>(Ua h).2,λ_ _ _ _=>rfl⟩
theorem Forget.comp {f g:Blk->Blk} (hf:Forget f) (hg:Forget g):Forget (λb=>f (g b)) :=
 ⟨λb v k=>(hf.inB (g b) v k).trans (hg.inB b v k),λb h=>by
  have h1:=hf.fix (g b) h;exact Bz.trans h h1 (hg.fix b (h1.fixed h)),λe s n k=>by rw [hg.xr,hf.xr]⟩
structure Regroup (κ:Ai) (h:List Blk) (w:World) (κ':Ai) (h':List Blk) (w':World) (S:Nat->Prop) (P:Nat->Prop) (fB:Blk->Blk):Prop where
 kept:∀ i,¬ P i->h'[i]? = (h[i]?).map fB∧κ' i=κ i
 forget:Forget fB
 trans:∀ i b,¬ P i->h[i]? = some b->(∀ g,inBlk (κ i) g b->w'.heap[g]? = w.heap[g]?)->A7 S w κ (κ i) b->A7 S w' κ' (κ i) (fB b)
 far:∀ k,k<w.heap.size->(∀ i,P i->¬ A3 κ h i k)->w'.heap[k]? = w.heap[k]?
 size:w.heap.size <= w'.heap.size
 made:∀ i b,P i->h'[i]? = some b->A7 S w' κ' (κ' i) b
 own:∀ i k,P i->A3 κ' h' i k->(∃ j,P j∧A3 κ h j k) ∨ w.heap.size <= k
 sep:∀ i j k,P i->P j->i ≠ j->A3 κ' h' i k->¬ A3 κ' h' j k
 dom:∀ i,h'.length <= i->κ' i=none
 nox:∀ i e s n g,P i->h[i]? ≠ some (.xrow true e s n g)
 nof:∀ i b,P i->h'[i]? = some b->¬ CB b
theorem Regroup.own_kept {h h':List Blk} {P:Nat->Prop} {fB:Blk->Blk} (r:Regroup κ h w κ' h' w' S P fB) {i k:Nat} (hi:¬ P i):A3 κ' h' i k↔A3 κ h i k:=by
 obtain ⟨h1,h2⟩:=r.kept i hi;unfold A3;rw [h1,h2];cases h[i]? with
 | none=>simp
 | some b=>simp [r.forget.inB]
theorem Good.regroup {h h':List Blk} (g:Good κ S h w) {P:Nat->Prop} {fB:Blk->Blk} (r:Regroup κ h w κ' h' w' S P fB):Good κ' S h' w':=by
 have hfar:∀ i k,¬ P i->A3 κ h i k->w'.heap[k]? = w.heap[k]?:=λi k hi hk=>r.far k (g.lt hk) λj hj hjk=>g.sep i j k (λe=>hi (by rw [e]; exact hj)) hk hjk;refine ⟨?_,?_,?_,r.dom⟩
 ·intro i b hi
  by_cases hp:P i
  ·exact r.made i b hp hi
  ·obtain ⟨h1,h2⟩:=r.kept i hp
   rw [h1,Option.map_eq_some_iff] at hi;obtain ⟨b0,h3,rfl⟩:=hi;rw [h2];exact r.trans i b0 hp h3 (λk hk=>hfar i k hp ((Aq h3).2 hk)) (g.blk i b0 h3)
 ·intro i j k hij hi hj
  by_cases hpi:P i
  ·by_cases hpj:P j
   ·exact r.sep i j k hpi hpj hij hi hj
   ·rw [r.own_kept hpj] at hj
    rcases r.own i k hpi hi with ⟨q,hq,hqk⟩ | hle
    ·exact g.sep j q k (λe=>hpj (by rw [e]; exact hq)) hj hqk
    ·have:=g.lt hj; omega
  ·rw [r.own_kept hpi] at hi
   by_cases hpj:P j
   ·rcases r.own j k hpj hj with ⟨q,hq,hqk⟩ | hle
    ·exact g.sep i q k (λe=>hpi (by rw [e]; exact hq)) hi hqk
    ·have:=g.lt hi; omega
   ·rw [r.own_kept hpj] at hj
    exact g.sep i j k hij hi hj
 ·intro k hk
  refine ⟨Nat.lt_of_lt_of_le (g.out k hk).1 r.size,λi hi=>?_⟩;by_cases hpi:P i
  ·rcases r.own i k hpi hi with ⟨q,_,hqk⟩ | hle
   ·exact (g.out k hk).2 q hqk
   ·have:=(g.out k hk).1; omega
  ·exact (g.out k hk).2 i ((r.own_kept hpi).1 hi)
theorem Ext.regroup {h h':List Blk} (g:Good κ S h w) {P:Nat->Prop} {fB:Blk->Blk} (r:Regroup κ h w κ' h' w' S P fB) (hos:w'.os=w.os) (htape:w'.tape=w.tape) (hout:w'.output=w.output) :
  Ext κ S h w κ' S h' w':=by
 have keep:∀ k,k<w.heap.size->(∀ i,¬ A3 κ h i k)->w'.heap[k]? = w.heap[k]?:=λk h1 h2=>r.far k h1 λi _=>h2 i;refine ⟨hos,htape,hout,r.size,keep,λi k hi=>?_,λ_ hk=>.inl hk,λ_ hk=>hk,I4 r.size keep ?_ ?_,?_⟩
 ·by_cases hp:P i
  ·exact (r.own i k hp hi).imp (λ⟨j,_,q⟩=>⟨j,q⟩) id
  ·exact .inl ⟨i,(r.own_kept hp).1 hi⟩
 ·intro i k hi hlt
  by_cases hp:P i
  ·rcases r.own i k hp hi with ⟨j,hj,q⟩ | hle
   ·exact ⟨j,q,λe s n g hh=>absurd hh (r.nox j e s n g hj)⟩
   ·omega
  ·refine ⟨i,(r.own_kept hp).1 hi,λe s n g hh=>⟨e,s,n,g,?_,Nat.le_refl _⟩⟩
   rw [(r.kept i hp).1,hh];exact congrArg some (r.forget.xr e s n g)
 ·intro i e s n gx k hi hk
  by_cases hp:P i
  ·exact absurd hi (r.nox i e s n gx hp)
  ·exact E5.same (r.far k (g.lt hk) λj hj hjk=>g.sep i j k (λe=>hp (by rw [e]; exact hj)) hk hjk)
 ·intro i b hi hf
  by_cases hp:P i
  ·exact absurd hf (r.nof i b hp hi)
  ·obtain ⟨h1,h2⟩:=r.kept i hp
   rw [h1,Option.map_eq_some_iff] at hi;obtain ⟨b0,h3,rfl⟩:=hi;exact ⟨h2,b0,h3,r.forget.fix b0 hf⟩
end
end Go.Sy
