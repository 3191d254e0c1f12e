/-
  How the evaluator's own blocks are kept: a new block, a block written over, a row that grows. No conditions.
-/
import Derived.Test.YtjhnfomefcngfaaSyB
import Derived.Laws.CopyRow
import Derived.Laws.Rows
namespace Go.Sy
section
variable {S S':Nat->Prop} {w w':World} {κ κ':Nat->Option Value}
theorem ownsRow_congr {base:Nat} {e:TypeId} {size:Nat} {v:Value} {n:Nat} {xs:List Value} (h:w.ownsRow base e size v n xs)
    (hb:∀ g,blockOf (some v) = some g->w'.heap[g]? = w.heap[g]?):w'.ownsRow base e size v n xs:=by
  refine ⟨h.1,?_⟩
  rcases h.2 with h2 | ⟨g,cap,cur,hv,hbase,hg,rest⟩
  · exact .inl h2
  · refine .inr ⟨g,cap,cur,hv,hbase,?_,rest⟩
    rw [hb g (by rw [hv]; rfl)]
    exact hg
theorem ownsRow_lt {base:Nat} {e:TypeId} {size:Nat} {v:Value} {n:Nat} {xs:List Value} (h:w.ownsRow base e size v n xs) {g:Nat} (hg:blockOf (some v) = some g):g < w.heap.size:=by
  rcases h.2 with ⟨rfl,_⟩ | ⟨g',cap,cur,rfl,_,hh,_⟩
  · simp [blockOf] at hg
  · simp [blockOf] at hg
    subst hg
    exact (Array.getElem?_eq_some_iff.1 hh).1
theorem ownsRow_slice {base:Nat} {e:TypeId} {size:Nat} {v:Value} {n:Nat} {xs:List Value} (h:w.ownsRow base e size v n xs):∃ a cap,v = .slice a n cap:=by
  rcases h.2 with ⟨rfl,h0⟩ | ⟨g',cap,cur,rfl,_⟩
  · exact ⟨none,0,by rw [h0]⟩
  · exact ⟨_,_,rfl⟩
theorem ElemsJ.mono {j:Jag} {xs:List Value} (h:ElemsJ S w j xs) (hS:∀ b,S b->S' b ∧ w'.heap[b]? = w.heap[b]?):ElemsJ S' w' j xs:=fun i hi=>by
  obtain ⟨ci,h1,h2,h3,h4⟩:=h i hi
  exact ⟨ci,VR.mono hS _ _ _ _ (fun _ _ h=>h) h1,h2,h3,h4⟩
theorem MemR.mono {j:Jag} {xs:List Value} {i:Nat} {m:Value} (h:MemR S w j xs i m) (hS:∀ b,S b->S' b ∧ w'.heap[b]? = w.heap[b]?) (hb:∀ g,blockOf (some m) = some g->w'.heap[g]? = w.heap[g]?):MemR S' w' j xs i m:=by
  unfold MemR at h ⊢
  split
  · rename_i hl
    rw [hl] at h
    obtain ⟨h1,ys,h2,h3⟩:=h
    exact ⟨h1,ys,ownsRow_congr h2 hb,h3.mono hS⟩
  · rename_i hl
    rw [hl] at h
    exact h
theorem inJag_top {c:Value} {ms:Array Value} {g:Nat} (h:blockOf (some c) = some g):inJag (some (.tuple #[c,.agg ms])) g:=⟨c,ms,rfl,.inl h⟩
theorem inJag_mem {c:Value} {ms:Array Value} {i:Nat} {m:Value} {g:Nat} (hi:ms[i]? = some m) (h:blockOf (some m) = some g):inJag (some (.tuple #[c,.agg ms])) g:=⟨c,ms,rfl,.inr ⟨i,m,hi,h⟩⟩
theorem tuple_inj {c c':Value} {ms ms':Array Value} (h:(some (Value.tuple #[c,.agg ms]):Option Value) = some (.tuple #[c',.agg ms'])):c = c' ∧ ms = ms':=by
  simp at h
  exact h
theorem JagR.mono {j:Jag} {c:Value} {ms:Array Value} {xs:List Value} (h:JagR S w j c ms xs) (hS:∀ b,S b->S' b ∧ w'.heap[b]? = w.heap[b]?)
    (hb:∀ g,inJag (some (.tuple #[c,.agg ms])) g->w'.heap[g]? = w.heap[g]?):JagR S' w' j c ms xs:=by
  obtain ⟨h1,h2,h3,h4,h5,h6,h7,h8,h9⟩:=h
  exact ⟨h1,h2,h3,h4,ownsRow_congr h5 fun g hg=>hb g (inJag_top hg),h6,h7.mono hS,fun i m hm=>(h8 i m hm).mono hS fun g hg=>hb g (inJag_mem hm hg),h9⟩
theorem Holds.mono {v:Option Value} {b:Blk} (hS:∀ b,S b->S' b ∧ w'.heap[b]? = w.heap[b]?) (hk:∀ id c,κ id = some c->κ' id = some c)
    (hb:∀ g,inBlk v g b->w'.heap[g]? = w.heap[g]?) (h:Holds S w κ v b):Holds S' w' κ' v b:=by
  cases b with
  | cells cs =>
    obtain ⟨g,e,ca,hv,hg,hr⟩:=h
    exact ⟨g,e,ca,hv,by rw [hb g (by rw [hv]; rfl)]; exact hg,VR.mono_go hS _ _ _ _ hk hr⟩
  | row e s n g =>
    obtain ⟨h0,c,xs,hv,ho,he⟩:=h
    exact ⟨h0,c,xs,hv,ownsRow_congr ho (fun g hg=>hb g (by rw [hv]; exact hg)),he.mono hS⟩
  | imap ty n get =>
    obtain ⟨k,o,hv,ho,hr⟩:=h
    exact ⟨k,o,hv,by rw [hb k (by rw [hv]; rfl)]; exact ho,hr⟩
  | xrow lk e s n g =>
    obtain ⟨h0,c,xs,hv,ho,he⟩:=h
    exact ⟨h0,c,xs,hv,ownsRow_congr ho (fun g hg=>hb g (by rw [hv]; exact hg)),he.mono hS⟩
  | jag j =>
    obtain ⟨c,ms,xs,hv,hj⟩:=h
    exact ⟨c,ms,xs,hv,hj.mono hS fun g hg=>hb g (by rw [hv]; exact hg)⟩
  | saved vs =>
    obtain ⟨l,hv,hr⟩:=h
    exact ⟨l,hv,VR.mono_go hS _ _ _ _ hk hr⟩
  | dead=>trivial
theorem Holds.lt {v:Option Value} {b:Blk} {g:Nat} (h:Holds S w κ v b) (hg:inBlk v g b):g < w.heap.size:=by
  cases b with
  | cells cs =>
    obtain ⟨g',e,ca,hv,hh,_⟩:=h
    have hg:blockOf v = some g:=hg
    rw [hv] at hg
    simp [blockOf] at hg
    subst hg
    exact (Array.getElem?_eq_some_iff.1 hh).1
  | row e s n get =>
    obtain ⟨_,c,xs,hv,ho,_⟩:=h
    have hg:blockOf v = some g:=hg
    rw [hv] at hg
    exact ownsRow_lt ho hg
  | imap ty n get =>
    obtain ⟨k,o,hv,ho,_⟩:=h
    have hg:blockOf v = some g:=hg
    rw [hv] at hg
    simp [blockOf] at hg
    subst hg
    exact (Array.getElem?_eq_some_iff.1 ho).1
  | xrow lk e s n get =>
    obtain ⟨_,c,xs,hv,ho,_⟩:=h
    have hg:blockOf v = some g:=hg
    rw [hv] at hg
    exact ownsRow_lt ho hg
  | jag j =>
    obtain ⟨c,ms,xs,hv,_,_,_,h4,h5,_,_,h8,_⟩:=h
    obtain ⟨c',ms',hv',hg⟩:=hg
    rw [hv] at hv'
    obtain ⟨rfl,rfl⟩:=tuple_inj hv'
    rcases hg with hg | ⟨i,m,hm,hg⟩
    · exact ownsRow_lt h5 hg
    · have:=h8 i m hm
      unfold MemR at this
      split at this
      · obtain ⟨_,ys,q,_⟩:=this
        exact ownsRow_lt q hg
      · rw [this] at hg
        simp [blockOf] at hg
  | saved vs=>exact hg.elim
  | dead=>exact hg.elim
theorem ownB_of {h:List Blk} {i g:Nat} {b:Blk} (e:h[i]? = some b):ownB κ h i g ↔ inBlk (κ i) g b:=by
  constructor
  · rintro ⟨b',h1,h2⟩
    rw [e] at h1
    simp only [Option.some.injEq] at h1
    subst h1
    exact h2
  · exact fun h=>⟨b,e,h⟩
theorem ownB_none {h:List Blk} {i g:Nat} (e:h[i]? = none):¬ ownB κ h i g:=fun ⟨b,h1,_⟩=>by rw [e] at h1; cases h1
theorem ownB_congr {h h':List Blk} {i g:Nat} (e:h'[i]? = h[i]?) (ek:κ' i = κ i):ownB κ' h' i g ↔ ownB κ h i g:=by
  unfold ownB
  rw [e,ek]
theorem Good.lt {h:List Blk} (g:Good κ S h w) {i b:Nat} (e:ownB κ h i b):b < w.heap.size:=by
  obtain ⟨bl,h1,h2⟩:=e
  exact (g.blk i bl h1).lt h2
def addK (κ:Nat->Option Value) (n:Nat) (c:Value):Nat->Option Value:=fun i=>if i = n then some c else κ i
theorem Good.addK_sub {h:List Blk} (g:Good κ S h w) (c:Value):∀ id u,κ id = some u->addK κ h.length c id = some u:=by
  intro id u hu
  unfold addK
  split
  · rename_i e
    rw [e,g.dom _ (Nat.le_refl _)] at hu
    cases hu
  · exact hu
theorem fresh_of {c:Value} {n:Nat} (hc:blockOf (some c) = none ∨ blockOf (some c) = some n):∀ g,blockOf (some c) = some g->n <= g:=fun g hg=>by
  rcases hc with h | h
  · rw [h] at hg; cases hg
  · rw [h] at hg; simp at hg; omega
theorem Good.push' {h:List Blk} (g:Good κ S h w) (b:Blk) (c:Value) (hw:∀ k,k < w.heap.size->w'.heap[k]? = w.heap[k]?) (hsz:w.heap.size <= w'.heap.size)
    (hB:Holds S w' (addK κ h.length c) (some c) b) (hc:∀ g,inBlk (some c) g b->w.heap.size <= g):Good (addK κ h.length c) S (h ++ [b]) w':=by
  have hS:∀ b,S b->S b ∧ w'.heap[b]? = w.heap[b]?:=fun b hb=>⟨hb,hw b (g.out b hb).1⟩
  have hk:=g.addK_sub c
  have hlt:∀ i,i < h.length->addK κ h.length c i = κ i:=fun i hi=>by unfold addK; rw [if_neg (by omega)]
  have hself:addK κ h.length c h.length = some c:=by simp [addK]
  have own_old:∀ i k,i < h.length->(ownB (addK κ h.length c) (h ++ [b]) i k ↔ ownB κ h i k):=fun i k hi =>
    ownB_congr (List.getElem?_append_left hi) (hlt i hi)
  have own_new:∀ k,ownB (addK κ h.length c) (h ++ [b]) h.length k->w.heap.size <= k:=fun k hk=>by
    rw [ownB_of (b:=b) (by simp),hself] at hk
    exact hc k hk
  have own_none:∀ i k,h.length < i->¬ ownB (addK κ h.length c) (h ++ [b]) i k:=fun i k hi=>ownB_none (List.getElem?_eq_none (by simp; omega))
  refine ⟨?_,?_,?_,?_⟩
  · intro i bl hi
    rcases Nat.lt_trichotomy i h.length with hl | rfl | hl
    · rw [List.getElem?_append_left hl] at hi
      rw [hlt i hl]
      exact (g.blk i bl hi).mono hS hk fun k hk'=>hw k ((g.blk i bl hi).lt hk')
    · rw [List.getElem?_append_right (Nat.le_refl _)] at hi
      simp at hi
      subst hi
      rw [hself]
      exact hB
    · rw [List.getElem?_eq_none (by simp; omega)] at hi
      cases hi
  · intro i j k hij hi hj
    rcases Nat.lt_trichotomy i h.length with hl | rfl | hl
    · rw [own_old i k hl] at hi
      rcases Nat.lt_trichotomy j h.length with hl' | rfl | hl'
      · rw [own_old j k hl'] at hj
        exact g.sep i j k hij hi hj
      · have:=own_new k hj
        have:=g.lt hi
        omega
      · exact own_none j k hl' hj
    · have h1:=own_new k hi
      rcases Nat.lt_trichotomy j h.length with hl' | rfl | hl'
      · rw [own_old j k hl'] at hj
        have:=g.lt hj
        omega
      · exact hij rfl
      · exact own_none j k hl' hj
    · exact own_none i k hl hi
  · intro k hk'
    refine ⟨Nat.lt_of_lt_of_le (g.out k hk').1 hsz,fun i hi=>?_⟩
    rcases Nat.lt_trichotomy i h.length with hl | rfl | hl
    · rw [own_old i k hl] at hi
      exact (g.out k hk').2 i hi
    · have:=own_new k hi
      have:=(g.out k hk').1
      omega
    · exact own_none i k hl hi
  · intro i hi
    simp at hi
    unfold addK
    rw [if_neg (by omega)]
    exact g.dom i (by omega)
theorem Ext.push' {h:List Blk} (b:Blk) (c:Value) (hw:∀ k,k < w.heap.size->w'.heap[k]? = w.heap[k]?) (hsz:w.heap.size <= w'.heap.size)
    (hos:w'.os = w.os) (htape:w'.tape = w.tape) (hout:w'.output = w.output)
    (hc:∀ g,inBlk (some c) g b->w.heap.size <= g) (hnx:¬ Fixed b):Ext κ S h w (addK κ h.length c) S (h ++ [b]) w':=by
  have hself:addK κ h.length c h.length = some c:=by simp [addK]
  have own_new:∀ k,ownB (addK κ h.length c) (h ++ [b]) h.length k->w.heap.size <= k:=fun k hk=>by
    rw [ownB_of (b:=b) (by simp),hself] at hk
    exact hc k hk
  have own_old:∀ i k,i < h.length->(ownB (addK κ h.length c) (h ++ [b]) i k ↔ ownB κ h i k):=fun i k hi =>
    ownB_congr (List.getElem?_append_left hi) (by unfold addK; rw [if_neg (by omega)])
  have own_none:∀ i k,h.length < i->¬ ownB (addK κ h.length c) (h ++ [b]) i k:=fun i k hi=>ownB_none (List.getElem?_eq_none (by simp; omega))
  refine ⟨hos,htape,hout,hsz,fun k hk _=>hw k hk,?_,fun k hk=>.inl hk,fun k hk=>hk,pre_of hsz (fun k hk _=>hw k hk) ?_ (fun i e s n g k hi hk=>?_),fun i bl hi hf=>?_⟩
  rotate_left
  · intro i k hi hlt
    rcases Nat.lt_trichotomy i h.length with hl | rfl | hl
    · exact ⟨i,(own_old i k hl).1 hi,fun e s n g hh=>⟨e,s,n,g,by rw [List.getElem?_append_left hl]; exact hh,Nat.le_refl _⟩⟩
    · have:=own_new k hi
      omega
    · exact absurd hi (own_none i k hl)
  · rcases Nat.lt_or_ge k w.heap.size with hl | hl
    · exact Kept.same (hw k hl)
    · intro ca e z hca
      rw [Array.getElem?_eq_none hl] at hca
      cases hca
  · rcases Nat.lt_trichotomy i h.length with hl | rfl | hl
    · rw [List.getElem?_append_left hl] at hi
      exact ⟨by unfold addK; rw [if_neg (by omega)],bl,hi,FixedAs.refl hf⟩
    · rw [List.getElem?_append_right (Nat.le_refl _)] at hi
      simp at hi
      subst hi
      exact absurd hf hnx
    · rw [List.getElem?_eq_none (by simp; omega)] at hi
      cases hi
  intro i k hi
  rcases Nat.lt_trichotomy i h.length with hl | rfl | hl
  · exact .inl ⟨i,(own_old i k hl).1 hi⟩
  · exact .inr (own_new k hi)
  · exact absurd hi (own_none i k hl)
theorem Good.upd' {h:List Blk} (g:Good κ S h w) {id:Nat} {b b':Blk} (hb:h[id]? = some b) (hin:∀ k,inBlk (κ id) k b'->inBlk (κ id) k b)
    (hw:∀ k,¬ inBlk (κ id) k b->k < w.heap.size->w'.heap[k]? = w.heap[k]?) (hsz:w.heap.size <= w'.heap.size) (hB:Holds S w' κ (κ id) b') :
    Good κ S (h.set id b') w' ∧ (∀ i k,ownB κ (h.set id b') i k->ownB κ h i k):=by
  have hlen:id < h.length:=(List.getElem?_eq_some_iff.1 hb).1
  have hown:∀ i k,ownB κ (h.set id b') i k->ownB κ h i k:=fun i k hi=>by
    by_cases e:id = i
    · subst e
      rw [ownB_of (b:=b') (by simp [hlen])] at hi
      rw [ownB_of hb]
      exact hin k hi
    · exact (ownB_congr (List.getElem?_set_ne e) rfl).1 hi
  have hS:∀ b,S b->S b ∧ w'.heap[b]? = w.heap[b]?:=fun k hk=>⟨hk,hw k (fun e=>(g.out k hk).2 id ((ownB_of hb).2 e)) (g.out k hk).1⟩
  refine ⟨⟨?_,?_,?_,?_⟩,hown⟩
  · intro i bl hi
    by_cases e:id = i
    · subst e
      rw [List.getElem?_set_self hlen] at hi
      simp at hi; subst hi
      exact hB
    · rw [List.getElem?_set_ne e] at hi
      refine (g.blk i bl hi).mono hS (fun _ _ h=>h) fun k hk=>hw k (fun ek=>?_) ((g.blk i bl hi).lt hk)
      exact g.sep id i k e ((ownB_of hb).2 ek) ((ownB_of hi).2 hk)
  · intro i j k hij hi hj
    exact g.sep i j k hij (hown i k hi) (hown j k hj)
  · intro k hk
    exact ⟨Nat.lt_of_lt_of_le (g.out k hk).1 hsz,fun i hi=>(g.out k hk).2 i (hown i k hi)⟩
  · intro i hi
    simp at hi
    exact g.dom i hi
theorem Ext.upd' {h h':List Blk} (gd:Good κ S h w) {id:Nat} {b b':Blk} (hb:h[id]? = some b) (hh':h' = h.set id b')
    (hw:∀ k,¬ inBlk (κ id) k b->k < w.heap.size->w'.heap[k]? = w.heap[k]?) (hsz:w.heap.size <= w'.heap.size) (hos:w'.os = w.os) (htape:w'.tape = w.tape) (hout:w'.output = w.output)
    (hown:∀ i k,ownB κ h' i k->ownB κ h i k) (hnx:∀ e s n g,b ≠ .xrow true e s n g)
    (hfx:Fixed b'->FixedAs b' b):Ext κ S h w κ S h' w':=by
  have hlen:id < h.length:=(List.getElem?_eq_some_iff.1 hb).1
  subst hh'
  refine ⟨hos,htape,hout,hsz,fun k hk hn=>hw k (fun e=>hn id ((ownB_of hb).2 e)) hk,fun i k hi=>.inl ⟨i,hown i k hi⟩,fun _ hk=>.inl hk,fun _ hk=>hk,
    pre_of hsz (fun k hk hn=>hw k (fun e=>hn id ((ownB_of hb).2 e)) hk)
      (fun i k hi _=>⟨i,hown i k hi,fun e s n g hh=>⟨e,s,n,g,by
        rw [List.getElem?_set_ne (fun e'=>by subst e'; rw [hb] at hh; simp at hh; exact hnx _ _ _ _ hh)]; exact hh,Nat.le_refl _⟩⟩)
      (fun i e s n g k hi hk=>Kept.same (hw k (fun e'=>by
        by_cases hii:i = id
        · subst hii
          rw [hb] at hi
          simp at hi
          exact hnx e s n g hi
        · exact gd.sep i id k hii hk ((ownB_of hb).2 e')) (gd.lt hk))),
    fun i bl hi hf=>⟨rfl,?_⟩⟩
  by_cases hii:id = i
  · subst hii
    rw [List.getElem?_set_self hlen] at hi
    simp at hi
    subst hi
    exact ⟨b,hb,hfx hf⟩
  · exact ⟨bl,by rw [<- List.getElem?_set_ne hii]; exact hi,FixedAs.refl hf⟩
def setK (κ:Nat->Option Value) (n:Nat) (c:Value):Nat->Option Value:=fun i=>if i = n then some c else κ i
theorem setK_self (κ:Nat->Option Value) (n:Nat) (c:Value):setK κ n c n = some c:=by simp [setK]
theorem setK_ne {κ:Nat->Option Value} {n i:Nat} {c:Value} (h:i ≠ n):setK κ n c i = κ i:=by unfold setK; rw [if_neg h]
def NoPtr (v:Option Value):Prop:=∀ a,v ≠ some (.pointer a)
mutual
theorem VR_kill {id:Nat} (hS:∀ b,S b->S' b ∧ w'.heap[b]? = w.heap[b]?) (hid:NoPtr (κ id)) (hk:∀ i,i ≠ id->κ' i = κ i):∀ (v:V) (c:Value),
    VR S w v κ c->VR S' w' (kill id v) κ' c
  | .val _,_,h=>h
  | .str _,_,h=>h
  | .agg cs,_,h=>by
    obtain ⟨ca,e,h⟩:=h
    exact ⟨ca,e,VRs_kills hS hid hk cs _ h⟩
  | .tup cs,_,h=>by
    obtain ⟨ca,e,h⟩:=h
    exact ⟨ca,e,VRs_kills hS hid hk cs _ h⟩
  | .fn f cs,_,h=>by
    obtain ⟨ca,e,h⟩:=h
    exact ⟨ca,e,VRs_kills hS hid hk cs _ h⟩
  | .nilS,_,h=>h
  | .sl s n g,_,h=>VR.mono hS (.sl s n g) noK _ _ (fun _ _ h=>by cases h) h
  | .slr s n m g,_,h=>VR.mono hS (.slr s n m g) noK _ _ (fun _ _ h=>by cases h) h
  | .pp v,_,h=>VR.mono hS (.pp v) noK _ _ (fun _ _ h=>by cases h) h
  | .ptr k off,_,h=>by
    obtain ⟨g,h1,h2⟩:=h
    refine ⟨g,?_,h2⟩
    rw [hk k fun e=>hid _ (by rw [<- e]; exact h1)]
    exact h1
  | .ref k,_,h=>by
    simp only [kill]
    split
    · trivial
    · rename_i e
      refine ⟨?_,h.2⟩
      rw [hk k (Nat.ne_of_beq_eq_false e)]
      exact h.1
  | .ept k s i off,_,h=>by
    simp only [kill]
    split
    · trivial
    · rename_i e
      obtain ⟨g,n,cap,h1,h2⟩:=h
      refine ⟨g,n,cap,?_,h2⟩
      rw [hk k (Nat.ne_of_beq_eq_false e)]
      exact h1
  | .jref k,_,h=>by
    simp only [kill]
    split
    · trivial
    · rename_i e
      obtain ⟨ms,h1,h2⟩:=h
      refine ⟨ms,?_,h2⟩
      rw [hk k (Nat.ne_of_beq_eq_false e)]
      exact h1
  | .jept k s i off,_,h=>by
    simp only [kill]
    split
    · trivial
    · rename_i e
      obtain ⟨g,n,cap,ms,h1,h2⟩:=h
      refine ⟨g,n,cap,ms,?_,h2⟩
      rw [hk k (Nat.ne_of_beq_eq_false e)]
      exact h1
  | .mref k i,_,h=>by
    simp only [kill]
    split
    · trivial
    · rename_i e
      obtain ⟨o,ms,h1,h2⟩:=h
      refine ⟨o,ms,?_,h2⟩
      rw [hk k (Nat.ne_of_beq_eq_false e)]
      exact h1
  | .mept k i s j off,_,h=>by
    simp only [kill]
    split
    · trivial
    · rename_i e
      obtain ⟨o,ms,g,n,cap,h1,h2⟩:=h
      refine ⟨o,ms,g,n,cap,?_,h2⟩
      rw [hk k (Nat.ne_of_beq_eq_false e)]
      exact h1
  | .und,_,_=>trivial
theorem VRs_kills {id:Nat} (hS:∀ b,S b->S' b ∧ w'.heap[b]? = w.heap[b]?) (hid:NoPtr (κ id)) (hk:∀ i,i ≠ id->κ' i = κ i):∀ (vs:List V) (l:List Value),
    VRs S w vs κ l->VRs S' w' (kill.kills id vs) κ' l
  | [],_,h=>h
  | v :: vs,_,h=>by
    obtain ⟨a,l',e,h1,h2⟩:=h
    exact ⟨a,l',e,VR_kill hS hid hk v _ h1,VRs_kills hS hid hk vs _ h2⟩
end
mutual
theorem VR_killM {id:Nat} {c0:Value} {ms ms':Array Value} (hS:∀ b,S b->S' b ∧ w'.heap[b]? = w.heap[b]?) (hid:κ id = some (.tuple #[c0,.agg ms])) (hid':κ' id = some (.tuple #[c0,.agg ms'])) (hk:∀ i c,i ≠ id->κ i = some c->κ' i = some c):∀ (v:V) (c:Value),
    VR S w v κ c->VR S' w' (killM id v) κ' c
  | .val _,_,h=>h
  | .str _,_,h=>h
  | .agg cs,_,h=>by
    obtain ⟨ca,e,h⟩:=h
    exact ⟨ca,e,VRs_killMs hS hid hid' hk cs _ h⟩
  | .tup cs,_,h=>by
    obtain ⟨ca,e,h⟩:=h
    exact ⟨ca,e,VRs_killMs hS hid hid' hk cs _ h⟩
  | .fn f cs,_,h=>by
    obtain ⟨ca,e,h⟩:=h
    exact ⟨ca,e,VRs_killMs hS hid hid' hk cs _ h⟩
  | .nilS,_,h=>h
  | .sl s n g,_,h=>VR.mono hS (.sl s n g) noK _ _ (fun _ _ h=>by cases h) h
  | .slr s n m g,_,h=>VR.mono hS (.slr s n m g) noK _ _ (fun _ _ h=>by cases h) h
  | .pp v,_,h=>VR.mono hS (.pp v) noK _ _ (fun _ _ h=>by cases h) h
  | .ptr k off,_,h=>by
    obtain ⟨g,h1,h2⟩:=h
    exact ⟨g,hk k _ (fun e=>by rw [e,hid] at h1; cases h1) h1,h2⟩
  | .ref k,c,h=>by
    obtain ⟨h1,h2⟩:=h
    refine ⟨hk k _ (fun e=>?_) h1,h2⟩
    rw [e,hid] at h1
    simp at h1
    rcases h2 with ⟨a,n,cap,q⟩ | ⟨b,q⟩ <;> (rw [q] at h1; cases h1)
  | .ept k s i off,_,h=>by
    obtain ⟨g,n,cap,h1,h2⟩:=h
    exact ⟨g,n,cap,hk k _ (fun e=>by rw [e,hid] at h1; cases h1) h1,h2⟩
  | .jref k,_,h=>by
    obtain ⟨ms1,h1,h2⟩:=h
    by_cases e:k = id
    · subst e
      rw [hid] at h1
      obtain ⟨rfl,rfl⟩:=tuple_inj h1
      exact ⟨ms',hid',h2⟩
    · exact ⟨ms1,hk k _ e h1,h2⟩
  | .jept k s i off,_,h=>by
    obtain ⟨g,n,cap,ms1,h1,h2⟩:=h
    by_cases e:k = id
    · subst e
      rw [hid] at h1
      obtain ⟨rfl,rfl⟩:=tuple_inj h1
      exact ⟨g,n,cap,ms',hid',h2⟩
    · exact ⟨g,n,cap,ms1,hk k _ e h1,h2⟩
  | .mref k i,_,h=>by
    simp only [killM]
    split
    · trivial
    · rename_i e
      obtain ⟨o,ms,h1,h2⟩:=h
      exact ⟨o,ms,hk k _ (Nat.ne_of_beq_eq_false e) h1,h2⟩
  | .mept k i s j off,_,h=>by
    simp only [killM]
    split
    · trivial
    · rename_i e
      obtain ⟨o,ms,g,n,cap,h1,h2⟩:=h
      exact ⟨o,ms,g,n,cap,hk k _ (Nat.ne_of_beq_eq_false e) h1,h2⟩
  | .und,_,_=>trivial
theorem VRs_killMs {id:Nat} {c0:Value} {ms ms':Array Value} (hS:∀ b,S b->S' b ∧ w'.heap[b]? = w.heap[b]?) (hid:κ id = some (.tuple #[c0,.agg ms])) (hid':κ' id = some (.tuple #[c0,.agg ms'])) (hk:∀ i c,i ≠ id->κ i = some c->κ' i = some c):∀ (vs:List V) (l:List Value),
    VRs S w vs κ l->VRs S' w' (killM.kills id vs) κ' l
  | [],_,h=>h
  | v :: vs,_,h=>by
    obtain ⟨a,l',e,h1,h2⟩:=h
    exact ⟨a,l',e,VR_killM hS hid hid' hk v _ h1,VRs_killMs hS hid hid' hk vs _ h2⟩
end
theorem killBs_get (id:Nat):∀ (h:List Blk) (i:Nat),(killBs id h)[i]? = (h[i]?).map (killB id)
  | [],_=>by simp [killBs]
  | b :: h,0=>by simp [killBs]
  | b :: h,i+1=>by simpa [killBs] using killBs_get id h i
theorem killBs_length (id:Nat):∀ (h:List Blk),(killBs id h).length = h.length
  | []=>rfl
  | b :: h=>by simp [killBs,killBs_length id h]
theorem killMBs_get (id:Nat):∀ (h:List Blk) (i:Nat),(killMBs id h)[i]? = (h[i]?).map (killMB id)
  | [],_=>by simp [killMBs]
  | b :: h,0=>by simp [killMBs]
  | b :: h,i+1=>by simpa [killMBs] using killMBs_get id h i
theorem killMBs_length (id:Nat):∀ (h:List Blk),(killMBs id h).length = h.length
  | []=>rfl
  | b :: h=>by simp [killMBs,killMBs_length id h]
theorem inBlk_killB {id g:Nat} {v:Option Value} {b:Blk}:inBlk v g (killB id b) ↔ inBlk v g b:=by cases b <;> exact Iff.rfl
theorem inBlk_killMB {id g:Nat} {v:Option Value} {b:Blk}:inBlk v g (killMB id b) ↔ inBlk v g b:=by cases b <;> exact Iff.rfl
theorem killB_fixed {id:Nat} {b:Blk}:Fixed (killB id b)->Fixed b ∧ FixedAs (killB id b) b:=by
  cases b with
  | xrow lk e s n g=>exact fun h=>⟨h,FixedAs.refl h⟩
  | saved vs=>exact fun _=>⟨.inr ⟨vs,rfl⟩,⟨vs,rfl⟩⟩
  | _=>intro h; rcases h with ⟨_,_,_,_,h⟩ | ⟨_,h⟩ <;> simp [killB] at h
theorem killMB_fixed {id:Nat} {b:Blk}:Fixed (killMB id b)->Fixed b ∧ FixedAs (killMB id b) b:=by
  cases b with
  | xrow lk e s n g=>exact fun h=>⟨h,FixedAs.refl h⟩
  | saved vs=>exact fun _=>⟨.inr ⟨vs,rfl⟩,⟨vs,rfl⟩⟩
  | _=>intro h; rcases h with ⟨_,_,_,_,h⟩ | ⟨_,h⟩ <;> simp [killMB] at h
theorem Holds.kill {v:Option Value} {b:Blk} {id:Nat} (hS:∀ b,S b->S' b ∧ w'.heap[b]? = w.heap[b]?) (hk:∀ vs l,VRs S w vs κ l->VRs S' w' (kill.kills id vs) κ' l)
    (hb:∀ g,inBlk v g b->w'.heap[g]? = w.heap[g]?) (h:Holds S w κ v b):Holds S' w' κ' v (killB id b):=by
  cases b with
  | cells cs =>
    obtain ⟨g,e,ca,hv,hg,hr⟩:=h
    exact ⟨g,e,ca,hv,by rw [hb g (by rw [hv]; rfl)]; exact hg,hk _ _ hr⟩
  | saved vs =>
    obtain ⟨l,hv,hr⟩:=h
    exact ⟨l,hv,hk _ _ hr⟩
  | row e s n g=>exact Holds.mono (κ:=noK) hS (fun _ _ h=>by cases h) hb (show Holds S w noK v (.row e s n g) from h)
  | imap ty n get=>exact Holds.mono (κ:=noK) hS (fun _ _ h=>by cases h) hb (show Holds S w noK v (.imap ty n get) from h)
  | xrow lk e s n g=>exact Holds.mono (κ:=noK) hS (fun _ _ h=>by cases h) hb (show Holds S w noK v (.xrow lk e s n g) from h)
  | jag j=>exact Holds.mono (κ:=noK) hS (fun _ _ h=>by cases h) hb (show Holds S w noK v (.jag j) from h)
  | dead=>trivial
theorem Holds.killM {v:Option Value} {b:Blk} {id:Nat} (hS:∀ b,S b->S' b ∧ w'.heap[b]? = w.heap[b]?) (hk:∀ vs l,VRs S w vs κ l->VRs S' w' (killM.kills id vs) κ' l)
    (hb:∀ g,inBlk v g b->w'.heap[g]? = w.heap[g]?) (h:Holds S w κ v b):Holds S' w' κ' v (killMB id b):=by
  cases b with
  | cells cs =>
    obtain ⟨g,e,ca,hv,hg,hr⟩:=h
    exact ⟨g,e,ca,hv,by rw [hb g (by rw [hv]; rfl)]; exact hg,hk _ _ hr⟩
  | saved vs =>
    obtain ⟨l,hv,hr⟩:=h
    exact ⟨l,hv,hk _ _ hr⟩
  | row e s n g=>exact Holds.mono (κ:=noK) hS (fun _ _ h=>by cases h) hb (show Holds S w noK v (.row e s n g) from h)
  | imap ty n get=>exact Holds.mono (κ:=noK) hS (fun _ _ h=>by cases h) hb (show Holds S w noK v (.imap ty n get) from h)
  | xrow lk e s n g=>exact Holds.mono (κ:=noK) hS (fun _ _ h=>by cases h) hb (show Holds S w noK v (.xrow lk e s n g) from h)
  | jag j=>exact Holds.mono (κ:=noK) hS (fun _ _ h=>by cases h) hb (show Holds S w noK v (.jag j) from h)
  | dead=>trivial
def Plain:Blk->Prop
  | .jag _ | .saved _ | .dead=>False
  | _=>True
theorem Plain.inBlk {b:Blk} (h:Plain b) {v:Option Value} {g:Nat}:inBlk v g b ↔ blockOf v = some g:=by
  cases b <;> first | exact h.elim | exact Iff.rfl
theorem Plain.own {b:Blk} (h:Plain b) {hp:List Blk} {i g:Nat} (e:hp[i]? = some b):ownB κ hp i g ↔ blockOf (κ i) = some g:=(ownB_of e).trans h.inBlk
theorem notFixed {b:Blk} (hp:Plain b) (h:∀ e s n g,b ≠ .xrow false e s n g):¬ Fixed b:=fun hf=>by
  rcases hf with ⟨e,s,n,g,rfl⟩ | ⟨vs,rfl⟩
  · exact h _ _ _ _ rfl
  · exact hp
theorem Good.push {h:List Blk} (g:Good κ S h w) (b:Blk) (c:Value) (hw:∀ k,k < w.heap.size->w'.heap[k]? = w.heap[k]?) (hsz:w.heap.size <= w'.heap.size)
    (hB:Holds S w' (addK κ h.length c) (some c) b) (hc:blockOf (some c) = none ∨ blockOf (some c) = some w.heap.size) (hp:Plain b):Good (addK κ h.length c) S (h ++ [b]) w' :=
  g.push' b c hw hsz hB fun k hk=>fresh_of hc k (hp.inBlk.1 hk)
theorem Ext.push {h:List Blk} (b:Blk) (c:Value) (hw:∀ k,k < w.heap.size->w'.heap[k]? = w.heap[k]?) (hsz:w.heap.size <= w'.heap.size)
    (hos:w'.os = w.os) (htape:w'.tape = w.tape) (hout:w'.output = w.output)
    (hc:blockOf (some c) = none ∨ blockOf (some c) = some w.heap.size) (hp:Plain b) (hnx:∀ e s n g,b ≠ .xrow false e s n g):Ext κ S h w (addK κ h.length c) S (h ++ [b]) w' :=
  Ext.push' b c hw hsz hos htape hout (fun k hk=>fresh_of hc k (hp.inBlk.1 hk)) (notFixed hp hnx)
theorem Good.upd {h:List Blk} (g:Good κ S h w) {id blk:Nat} {b b':Blk} (hb:h[id]? = some b) (hd:Plain b) (hd':Plain b') (hid:blockOf (κ id) = some blk)
    (hw:∀ k,k ≠ blk->w'.heap[k]? = w.heap[k]?) (hsz:w'.heap.size = w.heap.size) (hB:Holds S w' κ (κ id) b') :
    Good κ S (h.set id b') w' ∧ (∀ i k,ownB κ (h.set id b') i k->ownB κ h i k) :=
  g.upd' hb (fun _ hk=>hd.inBlk.2 (hd'.inBlk.1 hk)) (fun k hk _=>hw k fun e=>hk (hd.inBlk.2 (by rw [e]; exact hid))) (by omega) hB
theorem Ext.upd {h:List Blk} (gd:Good κ S h w) {id blk:Nat} {b b':Blk} (hb:h[id]? = some b) (hd:Plain b) (hd':Plain b') (hid:blockOf (κ id) = some blk)
    (hw:∀ k,k ≠ blk->w'.heap[k]? = w.heap[k]?) (hsz:w'.heap.size = w.heap.size) (hos:w'.os = w.os) (htape:w'.tape = w.tape) (hout:w'.output = w.output)
    (hown:∀ i k,ownB κ (h.set id b') i k->ownB κ h i k) (hnx:∀ e s n g,b ≠ .xrow true e s n g)
    (hfx:∀ e s n g,b' = .xrow false e s n g->∃ g0,b = .xrow false e s n g0):Ext κ S h w κ S (h.set id b') w' :=
  Ext.upd' gd hb rfl (fun k hk _=>hw k fun e=>hk (hd.inBlk.2 (by rw [e]; exact hid))) (by omega) hos htape hout hown hnx fun hf=>by
    rcases hf with ⟨e,s,n,g,rfl⟩ | ⟨vs,rfl⟩
    · exact hfx _ _ _ _ rfl
    · exact hd'.elim
def IsRow (b:Blk) (e:TypeId) (s n:Nat) (g:Nat->V):Prop:=b = .row e s n g ∨ ∃ lk,b = .xrow lk e s n g
theorem IsRow.holds {b:Blk} {e:TypeId} {s n:Nat} {g:Nat->V} {v:Option Value} (hb:IsRow b e s n g) (h:Holds S w κ v b) :
    0 < s ∧ ∃ c xs,v = some c ∧ w.ownsRow 0 e s c n xs ∧ Elems S w s n g xs:=by
  rcases hb with rfl | ⟨lk,rfl⟩ <;> exact h
theorem IsRow.plain {b:Blk} {e:TypeId} {s n:Nat} {g:Nat->V} (hb:IsRow b e s n g):Plain b:=by
  rcases hb with rfl | ⟨lk,rfl⟩ <;> exact trivial
theorem IsRow.noPtr {b:Blk} {e:TypeId} {s n:Nat} {g:Nat->V} {v:Option Value} (hb:IsRow b e s n g) (h:Holds S w κ v b):NoPtr v:=fun a=>by
  obtain ⟨_,c,xs,hv,ho,_⟩:=hb.holds h
  obtain ⟨b,cap,rfl⟩:=ownsRow_slice ho
  rw [hv]
  simp
theorem Good.turn {h:List Blk} (g:Good κ S h w) {id:Nat} {b0 b':Blk} {c':Value} (hb:h[id]? = some b0) (hid:NoPtr (κ id))
    (hS:∀ b,S b->S' b ∧ w'.heap[b]? = w.heap[b]?) (hout:∀ k,S' k->k < w'.heap.size ∧ (∀ i,i ≠ id->¬ ownB κ h i k) ∧ ¬ inBlk (some c') k b')
    (hw:∀ k,k < w.heap.size->¬ inBlk (κ id) k b0->w'.heap[k]? = w.heap[k]?)
    (hc:∀ k,inBlk (some c') k b'->inBlk (κ id) k b0 ∨ w.heap.size <= k)
    (hB:Holds S' w' (setK κ id c') (some c') b') :
    Good (setK κ id c') S' ((killBs id h).set id b') w' ∧
    (∀ (vs:List V) (l:List Value),VRs S w vs κ l->VRs S' w' (kill.kills id vs) (setK κ id c') l) ∧
    (∀ i k,ownB (setK κ id c') ((killBs id h).set id b') i k->(i ≠ id ∧ ownB κ h i k) ∨ (i = id ∧ inBlk (some c') k b')):=by
  have hlen:id < h.length:=(List.getElem?_eq_some_iff.1 hb).1
  have hkill:∀ (vs:List V) (l:List Value),VRs S w vs κ l->VRs S' w' (kill.kills id vs) (setK κ id c') l:=fun vs l hv=>VRs_kills hS hid (fun i hi=>setK_ne hi) vs l hv
  have own_id:∀ k,ownB (setK κ id c') ((killBs id h).set id b') id k ↔ inBlk (some c') k b':=fun k=>by
    rw [ownB_of (b:=b') (by simp [killBs_length,hlen]),setK_self]
  have own_ne:∀ i k,i ≠ id->(ownB (setK κ id c') ((killBs id h).set id b') i k ↔ ownB κ h i k):=fun i k hi=>by
    unfold ownB
    rw [List.getElem?_set_ne (Ne.symm hi),killBs_get,setK_ne hi]
    cases hh:h[i]? with
    | none=>simp
    | some b=>simp [inBlk_killB]
  have own:∀ i k,ownB (setK κ id c') ((killBs id h).set id b') i k->(i ≠ id ∧ ownB κ h i k) ∨ (i = id ∧ inBlk (some c') k b'):=fun i k hi=>by
    by_cases e:i = id
    · subst e
      exact .inr ⟨rfl,(own_id k).1 hi⟩
    · exact .inl ⟨e,(own_ne i k e).1 hi⟩
  refine ⟨⟨?_,?_,?_,?_⟩,hkill,own⟩
  · intro i bl hi
    by_cases ei:i = id
    · subst ei
      rw [List.getElem?_set_self (by simpa [killBs_length] using hlen)] at hi
      simp at hi; subst hi
      rw [setK_self]
      exact hB
    · rw [List.getElem?_set_ne (Ne.symm ei),killBs_get] at hi
      rw [setK_ne ei]
      cases hh:h[i]? with
      | none=>rw [hh] at hi; cases hi
      | some b =>
        rw [hh] at hi
        simp at hi
        subst hi
        exact Holds.kill hS hkill (fun k hk=>hw k ((g.blk i b hh).lt hk) fun e=>g.sep i id k ei ((ownB_of hh).2 hk) ((ownB_of hb).2 e)) (g.blk i b hh)
  · intro i j k hij hi hj
    rcases own i k hi with ⟨e1,h1⟩ | ⟨e1,h1⟩
    · rcases own j k hj with ⟨e2,h2⟩ | ⟨e2,h2⟩
      · exact g.sep i j k hij h1 h2
      · rcases hc k h2 with h3 | h3
        · exact g.sep i id k e1 h1 ((ownB_of hb).2 h3)
        · have:=g.lt h1; omega
    · rcases own j k hj with ⟨e2,h2⟩ | ⟨e2,h2⟩
      · rcases hc k h1 with h3 | h3
        · exact g.sep j id k e2 h2 ((ownB_of hb).2 h3)
        · have:=g.lt h2; omega
      · omega
  · intro k hk
    obtain ⟨h1,h2,h3⟩:=hout k hk
    refine ⟨h1,fun i hi=>?_⟩
    rcases own i k hi with ⟨e1,h4⟩ | ⟨e1,h4⟩
    · exact h2 i e1 h4
    · exact h3 h4
  · intro i hi
    simp [killBs_length] at hi
    rw [setK_ne (by omega)]
    exact g.dom i hi
theorem killBs_xrow {id i:Nat} {h:List Blk} {lk:Bool} {e:TypeId} {s n:Nat} {g:Nat->V}:(killBs id h)[i]? = some (.xrow lk e s n g) ↔ h[i]? = some (.xrow lk e s n g):=by
  rw [killBs_get]
  cases h[i]? with
  | none=>simp
  | some b=>cases b <;> simp [killB]
theorem killMBs_xrow {id i:Nat} {h:List Blk} {lk:Bool} {e:TypeId} {s n:Nat} {g:Nat->V}:(killMBs id h)[i]? = some (.xrow lk e s n g) ↔ h[i]? = some (.xrow lk e s n g):=by
  rw [killMBs_get]
  cases h[i]? with
  | none=>simp
  | some b=>cases b <;> simp [killMB]
theorem Ext.turn {h:List Blk} (g:Good κ S h w) {id:Nat} {b0 b':Blk} {c':Value} (hb:h[id]? = some b0)
    (hos:w'.os = w.os) (htape:w'.tape = w.tape) (hout:w'.output = w.output) (hsz:w.heap.size <= w'.heap.size)
    (hw:∀ k,k < w.heap.size->¬ inBlk (κ id) k b0->w'.heap[k]? = w.heap[k]?)
    (hc:∀ k,inBlk (some c') k b'->inBlk (κ id) k b0 ∨ w.heap.size <= k)
    (hsub:∀ k,S' k->S k ∨ (∃ j,ownB κ h j k) ∨ w.heap.size <= k) (hsup:∀ k,S k->S' k)
    (hbx:¬ Fixed b') (hbt:∀ e s n g,b0 = .xrow true e s n g->(∃ n' g',b' = .xrow true e s n' g' ∧ n <= n') ∧ ∀ k,inBlk (κ id) k b0->Kept w w' k (n * s))
    (own:∀ i k,ownB (setK κ id c') ((killBs id h).set id b') i k->(i ≠ id ∧ ownB κ h i k) ∨ (i = id ∧ inBlk (some c') k b')) :
    Ext κ S h w (setK κ id c') S' ((killBs id h).set id b') w':=by
  have hlen:id < h.length:=(List.getElem?_eq_some_iff.1 hb).1
  have keep:∀ k,k < w.heap.size->(∀ i,¬ ownB κ h i k)->w'.heap[k]? = w.heap[k]?:=fun k hk1 hk2=>hw k hk1 (fun e=>hk2 id ((ownB_of hb).2 e))
  have get_ne:∀ i,i ≠ id->((killBs id h).set id b')[i]? = (killBs id h)[i]?:=fun i hi=>List.getElem?_set_ne (Ne.symm hi)
  refine ⟨hos,htape,hout,hsz,keep,fun i k hi=>?_,hsub,hsup,pre_of hsz keep ?_ ?_,?_⟩
  · rcases own i k hi with ⟨_,h1⟩ | ⟨_,h1⟩
    · exact .inl ⟨i,h1⟩
    · exact (hc k h1).elim (fun q=>.inl ⟨id,(ownB_of hb).2 q⟩) .inr
  · intro i k hi hlt
    rcases own i k hi with ⟨hii,h1⟩ | ⟨hii,h1⟩
    · exact ⟨i,h1,fun e1 s1 n1 g1 hh=>⟨e1,s1,n1,g1,by rw [get_ne i hii]; exact killBs_xrow.2 hh,Nat.le_refl _⟩⟩
    · subst hii
      rcases hc k h1 with q | q
      · refine ⟨i,(ownB_of hb).2 q,fun e1 s1 n1 g1 hh=>?_⟩
        rw [hb] at hh
        simp only [Option.some.injEq] at hh
        obtain ⟨⟨n',g',rfl,hn⟩,_⟩:=hbt _ _ _ _ hh
        exact ⟨e1,s1,n',g',by simp [killBs_length,hlen],Nat.mul_le_mul_right _ hn⟩
      · omega
  · intro i e1 s1 n1 g1 k hi hk
    by_cases hii:i = id
    · subst hii
      rw [hb] at hi
      simp only [Option.some.injEq] at hi
      exact (hbt _ _ _ _ hi).2 k ((ownB_of hb).1 hk)
    · exact Kept.same (hw k (g.lt hk) fun e'=>g.sep i id k hii hk ((ownB_of hb).2 e'))
  · intro i bl hi hf
    by_cases hii:i = id
    · subst hii
      rw [List.getElem?_set_self (by simpa [killBs_length] using hlen)] at hi
      simp only [Option.some.injEq] at hi
      subst hi
      exact absurd hf hbx
    · rw [get_ne i hii,killBs_get,Option.map_eq_some_iff] at hi
      obtain ⟨b1,h1,rfl⟩:=hi
      exact ⟨setK_ne hii,b1,h1,(killB_fixed hf).2⟩
theorem Good.app {h:List Blk} (g:Good κ S h w) {id:Nat} {b0:Blk} {e:TypeId} {s n:Nat} {gx:Nat->V} {b':Blk} {c':Value} (hb:h[id]? = some b0) (hrow:IsRow b0 e s n gx) (hd':Plain b')
    (hw:∀ k,k < w.heap.size->blockOf (κ id) ≠ some k->w'.heap[k]? = w.heap[k]?) (hsz:w.heap.size <= w'.heap.size)
    (hc:blockOf (some c') = blockOf (κ id) ∨ blockOf (some c') = some w.heap.size)
    (hB:Holds S w' (setK κ id c') (some c') b') :
    Good (setK κ id c') S ((killBs id h).set id b') w' ∧
    (∀ (vs:List V) (l:List Value),VRs S w vs κ l->VRs S w' (kill.kills id vs) (setK κ id c') l) ∧
    (∀ i k,ownB (setK κ id c') ((killBs id h).set id b') i k->(i ≠ id ∧ ownB κ h i k) ∨ (i = id ∧ inBlk (some c') k b')):=by
  have hp:=hrow.plain
  have hc':∀ k,inBlk (some c') k b'->inBlk (κ id) k b0 ∨ w.heap.size <= k:=fun k hk=>by
    rw [hd'.inBlk] at hk
    rw [hp.inBlk]
    rcases hc with q | q
    · exact .inl (by rw [<- q]; exact hk)
    · rw [q] at hk; simp at hk; exact .inr (by omega)
  have hw':∀ k,k < w.heap.size->¬ inBlk (κ id) k b0->w'.heap[k]? = w.heap[k]?:=fun k h1 h2=>hw k h1 fun e=>h2 (hp.inBlk.2 e)
  refine g.turn hb (hrow.noPtr (g.blk id _ hb)) (fun k hk=>⟨hk,hw' k (g.out k hk).1 (fun e=>(g.out k hk).2 id ((ownB_of hb).2 e))⟩)
    (fun k hk=>⟨Nat.lt_of_lt_of_le (g.out k hk).1 hsz,fun i _=>(g.out k hk).2 i,fun h1=>?_⟩) hw' hc' hB
  rcases hc' k h1 with h2 | h2
  · exact (g.out k hk).2 id ((ownB_of hb).2 h2)
  · have:=(g.out k hk).1; omega
theorem Ext.app {h:List Blk} (g:Good κ S h w) {id:Nat} {b0:Blk} {e:TypeId} {s n:Nat} {gx:Nat->V} {b':Blk} {c':Value} (hb:h[id]? = some b0) (hrow:IsRow b0 e s n gx) (hd':Plain b')
    (hos:w'.os = w.os) (htape:w'.tape = w.tape) (hout:w'.output = w.output)
    (hw:∀ k,k < w.heap.size->blockOf (κ id) ≠ some k->w'.heap[k]? = w.heap[k]?) (hsz:w.heap.size <= w'.heap.size)
    (hc:blockOf (some c') = blockOf (κ id) ∨ blockOf (some c') = some w.heap.size)
    (hbx:∀ e s n g,b' ≠ .xrow false e s n g) (hbt:∀ e s n g,b0 = .xrow true e s n g->(∃ n' g',b' = .xrow true e s n' g' ∧ n <= n') ∧ ∀ k,blockOf (κ id) = some k->Kept w w' k (n * s))
    (own:∀ i k,ownB (setK κ id c') ((killBs id h).set id b') i k->(i ≠ id ∧ ownB κ h i k) ∨ (i = id ∧ inBlk (some c') k b')) :
    Ext κ S h w (setK κ id c') S ((killBs id h).set id b') w':=by
  have hp:=hrow.plain
  refine Ext.turn g hb hos htape hout hsz (fun k h1 h2=>hw k h1 fun e=>h2 (hp.inBlk.2 e)) (fun k hk=>?_) (fun _ hk=>.inl hk) (fun _ hk=>hk) (notFixed hd' hbx)
    (fun e s n g he=>⟨(hbt e s n g he).1,fun k hk=>(hbt e s n g he).2 k (hp.inBlk.1 hk)⟩) own
  rw [hd'.inBlk] at hk
  rw [hp.inBlk]
  rcases hc with q | q
  · exact .inl (by rw [<- q]; exact hk)
  · rw [q] at hk; simp at hk; exact .inr (by omega)
theorem Good.freeze {h:List Blk} (g:Good κ S h w) {id:Nat} {e:TypeId} {s n:Nat} {gx:Nat->V} {c0:Value} (hb:h[id]? = some (.row e s n gx)) (_hc:κ id = some c0) :
    Good (setK κ id c0) (fun b=>S b ∨ ownB κ h id b) ((killBs id h).set id .dead) w ∧
    (∀ (vs:List V) (l:List Value),VRs S w vs κ l->VRs (fun b=>S b ∨ ownB κ h id b) w (kill.kills id vs) (setK κ id c0) l) ∧
    (∀ i k,ownB (setK κ id c0) ((killBs id h).set id .dead) i k->(i ≠ id ∧ ownB κ h i k) ∨ (i = id ∧ inBlk (some c0) k .dead)):=by
  refine g.turn hb (IsRow.noPtr (.inl rfl) (g.blk id _ hb)) (fun k hk=>⟨.inl hk,rfl⟩) (fun k hk=>?_) (fun _ _ _=>rfl) (fun k hk=>hk.elim) trivial
  rcases hk with hk | hk
  · exact ⟨(g.out k hk).1,fun i _=>(g.out k hk).2 i,fun h=>h⟩
  · exact ⟨g.lt hk,fun i hi h2=>g.sep i id k hi h2 hk,fun h=>h⟩
theorem Ext.freeze {h:List Blk} (g:Good κ S h w) {id:Nat} {e:TypeId} {s n:Nat} {gx:Nat->V} {c0:Value} (hb:h[id]? = some (.row e s n gx))
    (own:∀ i k,ownB (setK κ id c0) ((killBs id h).set id .dead) i k->(i ≠ id ∧ ownB κ h i k) ∨ (i = id ∧ inBlk (some c0) k .dead)) :
    Ext κ S h w (setK κ id c0) (fun b=>S b ∨ ownB κ h id b) ((killBs id h).set id .dead) w :=
  Ext.turn g hb rfl rfl rfl (Nat.le_refl _) (fun _ _ _=>rfl) (fun k hk=>hk.elim) (fun k hk=>hk.elim .inl (fun hk=>.inr (.inl ⟨id,hk⟩))) (fun _ hk=>.inl hk)
    (fun hf=>by rcases hf with ⟨_,_,_,_,h⟩ | ⟨_,h⟩ <;> cases h) (fun _ _ _ _ h=>by cases h) own
structure Forget (fB:Blk->Blk):Prop where
  inB:∀ b v g,inBlk v g (fB b) ↔ inBlk v g b
  fix:∀ b,Fixed (fB b)->FixedAs (fB b) b
  xr:∀ e s n g,fB (.xrow true e s n g) = .xrow true e s n g
theorem forget_kill (id:Nat):Forget (killB id):=⟨fun _ _ _=>inBlk_killB,fun _ h=>(killB_fixed h).2,fun _ _ _ _=>rfl⟩
theorem forget_killM (id:Nat):Forget (killMB id):=⟨fun _ _ _=>inBlk_killMB,fun _ h=>(killMB_fixed h).2,fun _ _ _ _=>rfl⟩
theorem Forget.comp {f g:Blk->Blk} (hf:Forget f) (hg:Forget g):Forget (fun b=>f (g b)) :=
  ⟨fun b v k=>(hf.inB (g b) v k).trans (hg.inB b v k),fun b h=>by
    have h1:=hf.fix (g b) h
    exact FixedAs.trans h h1 (hg.fix b (h1.fixed h)),fun e s n k=>by rw [hg.xr,hf.xr]⟩
structure Regroup (κ:Nat->Option Value) (h:List Blk) (w:World) (κ':Nat->Option Value) (h':List Blk) (w':World) (S:Nat->Prop) (P:Nat->Prop) (fB:Blk->Blk):Prop where
  kept:∀ i,¬ P i->h'[i]? = (h[i]?).map fB ∧ κ' i = κ i
  forget:Forget fB
  trans:∀ i b,¬ P i->h[i]? = some b->(∀ g,inBlk (κ i) g b->w'.heap[g]? = w.heap[g]?)->Holds S w κ (κ i) b->Holds S w' κ' (κ i) (fB b)
  far:∀ k,k < w.heap.size->(∀ i,P i->¬ ownB κ h i k)->w'.heap[k]? = w.heap[k]?
  size:w.heap.size <= w'.heap.size
  made:∀ i b,P i->h'[i]? = some b->Holds S w' κ' (κ' i) b
  own:∀ i k,P i->ownB κ' h' i k->(∃ j,P j ∧ ownB κ h j k) ∨ w.heap.size <= k
  sep:∀ i j k,P i->P j->i ≠ j->ownB κ' h' i k->¬ ownB κ' h' j k
  dom:∀ i,h'.length <= i->κ' i = none
  nox:∀ i e s n g,P i->h[i]? ≠ some (.xrow true e s n g)
  nof:∀ i b,P i->h'[i]? = some b->¬ Fixed b
theorem Regroup.own_kept {h h':List Blk} {P:Nat->Prop} {fB:Blk->Blk} (r:Regroup κ h w κ' h' w' S P fB) {i k:Nat} (hi:¬ P i):ownB κ' h' i k ↔ ownB κ h i k:=by
  obtain ⟨h1,h2⟩:=r.kept i hi
  unfold ownB
  rw [h1,h2]
  cases h[i]? with
  | none=>simp
  | some b=>simp [r.forget.inB]
theorem Good.regroup {h h':List Blk} (g:Good κ S h w) {P:Nat->Prop} {fB:Blk->Blk} (r:Regroup κ h w κ' h' w' S P fB):Good κ' S h' w':=by
  have hfar:∀ i k,¬ P i->ownB κ h i k->w'.heap[k]? = w.heap[k]?:=fun i k hi hk=>r.far k (g.lt hk) fun j hj hjk=>g.sep i j k (fun e=>hi (by rw [e]; exact hj)) hk hjk
  refine ⟨?_,?_,?_,r.dom⟩
  · intro i b hi
    by_cases hp:P i
    · exact r.made i b hp hi
    · obtain ⟨h1,h2⟩:=r.kept i hp
      rw [h1,Option.map_eq_some_iff] at hi
      obtain ⟨b0,h3,rfl⟩:=hi
      rw [h2]
      exact r.trans i b0 hp h3 (fun k hk=>hfar i k hp ((ownB_of h3).2 hk)) (g.blk i b0 h3)
  · intro i j k hij hi hj
    by_cases hpi:P i
    · by_cases hpj:P j
      · exact r.sep i j k hpi hpj hij hi hj
      · rw [r.own_kept hpj] at hj
        rcases r.own i k hpi hi with ⟨q,hq,hqk⟩ | hle
        · exact g.sep j q k (fun e=>hpj (by rw [e]; exact hq)) hj hqk
        · have:=g.lt hj; omega
    · rw [r.own_kept hpi] at hi
      by_cases hpj:P j
      · rcases r.own j k hpj hj with ⟨q,hq,hqk⟩ | hle
        · exact g.sep i q k (fun e=>hpi (by rw [e]; exact hq)) hi hqk
        · have:=g.lt hi; omega
      · rw [r.own_kept hpj] at hj
        exact g.sep i j k hij hi hj
  · intro k hk
    refine ⟨Nat.lt_of_lt_of_le (g.out k hk).1 r.size,fun i hi=>?_⟩
    by_cases hpi:P i
    · rcases r.own i k hpi hi with ⟨q,_,hqk⟩ | hle
      · exact (g.out k hk).2 q hqk
      · have:=(g.out k hk).1; omega
    · exact (g.out k hk).2 i ((r.own_kept hpi).1 hi)
theorem Ext.regroup {h h':List Blk} (g:Good κ S h w) {P:Nat->Prop} {fB:Blk->Blk} (r:Regroup κ h w κ' h' w' S P fB) (hos:w'.os = w.os) (htape:w'.tape = w.tape) (hout:w'.output = w.output) :
    Ext κ S h w κ' S h' w':=by
  have keep:∀ k,k < w.heap.size->(∀ i,¬ ownB κ h i k)->w'.heap[k]? = w.heap[k]?:=fun k h1 h2=>r.far k h1 fun i _=>h2 i
  refine ⟨hos,htape,hout,r.size,keep,fun i k hi=>?_,fun _ hk=>.inl hk,fun _ hk=>hk,pre_of r.size keep ?_ ?_,?_⟩
  · by_cases hp:P i
    · exact (r.own i k hp hi).imp (fun ⟨j,_,q⟩=>⟨j,q⟩) id
    · exact .inl ⟨i,(r.own_kept hp).1 hi⟩
  · intro i k hi hlt
    by_cases hp:P i
    · rcases r.own i k hp hi with ⟨j,hj,q⟩ | hle
      · exact ⟨j,q,fun e s n g hh=>absurd hh (r.nox j e s n g hj)⟩
      · omega
    · refine ⟨i,(r.own_kept hp).1 hi,fun e s n g hh=>⟨e,s,n,g,?_,Nat.le_refl _⟩⟩
      rw [(r.kept i hp).1,hh]
      exact congrArg some (r.forget.xr e s n g)
  · intro i e s n gx k hi hk
    by_cases hp:P i
    · exact absurd hi (r.nox i e s n gx hp)
    · exact Kept.same (r.far k (g.lt hk) fun j hj hjk=>g.sep i j k (fun e=>hp (by rw [e]; exact hj)) hk hjk)
  · intro i b hi hf
    by_cases hp:P i
    · exact absurd hf (r.nof i b hp hi)
    · obtain ⟨h1,h2⟩:=r.kept i hp
      rw [h1,Option.map_eq_some_iff] at hi
      obtain ⟨b0,h3,rfl⟩:=hi
      exact ⟨h2,b0,h3,r.forget.fix b0 hf⟩
end
end Go.Sy
