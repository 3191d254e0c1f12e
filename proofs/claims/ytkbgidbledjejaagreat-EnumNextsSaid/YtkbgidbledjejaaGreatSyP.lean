/-
  Functions known by what they answer: the interface between functions; own memory lent; states that say less. Conditions: as before.
-/
import Derived.Test.YtkbgidbledjejaaGreatSyO
namespace Go.Sy
def MK (G:Nat->V) (S:Nat->Prop) (w:World):Prop:=∀ g,VR S w (G g) noK (.pointer (some ⟨g,0,none⟩))
def Gt (b:Blk):Prop:=(∃ e s n g,b=Blk.row e s n g) ∨ ∃ j,b=Blk.jag j
theorem Gt.notFixed {b:Blk} (h:Gt b):¬ CB b:=λhf=>by
 rcases h with ⟨e,s,n,g,rfl⟩ | ⟨j,rfl⟩
 ·rcases hf with ⟨_,_,_,_,hf⟩ | ⟨_,hf⟩ <;> cases hf
 ·exact Bj j hf
theorem Gt.live {b:Blk} (h:Gt b):b ≠ .dead:=by
 rcases h with ⟨e,s,n,g,rfl⟩ | ⟨j,rfl⟩ <;> simp
def Ip (h:List Blk):Prop:=∀ (i:Nat) (b:Blk),h[i]? = some b->Gt b
def As (P:Program) (G:Nat->V) (f:FuncId) (F:List V->A2):Prop :=
 HI P f∧∀ vs cs S w v h',(∀ b,S b->b<w.heap.size)->MK G S w->VRs S w vs noK cs->(F vs).sem=some (v,h') ->
  Ip h'∧Calls P f cs.toArray w λe w'=>∃ c κ' S',e = .returned c∧Good κ' S' h' w'∧VR S' w' v κ' c∧Ext noK S [] w κ' S' h' w'
theorem As.congr {P:Program} {G:Nat->V} {f:FuncId} {F F':List V->A2} (h:As P G f F) (hF:∀ vs r,(F' vs).sem=some r->(F vs).sem=some r):As P G f F' :=
 ⟨h.1,λvs cs S w v h' h1 h2 h3 h4=>h.2 vs cs S w v h' h1 h2 h3 (hF vs _ h4)⟩
def ZO (P:Program) (G:Nat->V) (f:FuncId) (F:List V->A2):Prop :=
 ∀ vs cs S w v h',(∀ b,S b->b<w.heap.size)->MK G S w->VRs S w vs noK cs->(F vs).sem=some (v,h') ->
  Ip h'∧Ou P f cs w λe w'=>∃ c κ' S',e = .returned c∧Good κ' S' h' w'∧VR S' w' v κ' c∧Ext noK S [] w κ' S' h' w'
theorem As.x {P:Program} {G:Nat->V} {f:FuncId} {F:List V->A2} (h:As P G f F):ZO P G f F:=λvs cs S w v h' h1 h2 h3 h4 =>
 ⟨(h.2 vs cs S w v h' h1 h2 h3 h4).1,.inl ⟨h.1,(h.2 vs cs S w v h' h1 h2 h3 h4).2⟩⟩
theorem ED (κ:Ai) (i g:Nat):¬ A3 κ [] i g:=D9 (by simp)
theorem Good.empty {S:Nat->Prop} {w:World} (hS:∀ b,S b->b<w.heap.size):Good noK S [] w :=
 ⟨λi b h=>(by simp at h),λi j g _ h=>absurd h (ED _ _ _),λb hb=>⟨hS b hb,λi h=>ED _ _ _ h⟩,λ_ _=>rfl⟩
theorem G8 {id:Nat}:∀ {l:List Nat} {i k:Nat},Ev id l i=some k->i <= k∧l[k-i]? = some id
 | [],_,_,h=>by cases h
 | a::l,i,k,h=>by
  simp only [Ev] at h;split at h
  ·rename_i ha
   have ha:a=id:=Nat.eq_of_beq_eq_true ha;simp at h;subst h;subst ha;simp
  ·obtain ⟨h1,h2⟩:=G8 h
   refine ⟨by omega,?_⟩;rw [show k-i=(k-Nat.succ i)+1 by omega];simpa using h2
theorem JY {h:List Blk}:∀ {ids:List Nat} {hr:List Blk},Vs h ids=some hr->hr.length=ids.length∧∀ (i:Nat) (b:Blk),hr[i]? = some b->∃ id,ids[i]? = some id∧h[id]? = some b∧Gt b
 | [],hr,hp=>by simp [Vs] at hp; subst hp; exact ⟨rfl,λi b hb=>by simp at hb⟩
 | id::ids,hr,hp=>by
  simp only [Vs] at hp;split at hp
  ·rename_i e s n g bs h1 h2
   simp at hp;subst hp;obtain ⟨q1,q2⟩:=JY h2;refine ⟨by simp [q1],λi b hb=>?_⟩;cases i with
   | zero =>simp at hb;subst hb;exact ⟨id,by simp,h1,.inl ⟨e,s,n,g,rfl⟩⟩
   | succ i=>simpa using q2 i b (by simpa using hb)
  ·rename_i j bs h1 h2
   simp at hp;subst hp;obtain ⟨q1,q2⟩:=JY h2;refine ⟨by simp [q1],λi b hb=>?_⟩;cases i with
   | zero =>simp at hb;subst hb;exact ⟨id,by simp,h1,.inr ⟨j,rfl⟩⟩
   | succ i=>simpa using q2 i b (by simpa using hb)
  ·cases hp
theorem Nm {k:Nat}:∀ {l:List Nat},D2 k l=false->k ∉ l
 | [],_=>by simp
 | a::l,h=>by
  simp only [D2] at h;split at h
  ·cases h
  ·rename_i ha
   have:=Nat.ne_of_beq_eq_false ha;simp only [List.mem_cons,not_or];exact ⟨λe=>this e.symm,Nm h⟩
theorem Jw:∀ {l:List Nat},Jx l=true->∀ (i j k:Nat),l[i]? = some k->l[j]? = some k->i=j
 | [],_,i,j,k,h,_=>by simp at h
 | a::l,h,i,j,k,hi,hj=>by
  simp only [Jx] at h;split at h
  ·cases h
  ·rename_i hm
   have hn:=Nm hm;cases i with
   | zero =>
    cases j with
    | zero=>rfl
    | succ j =>simp at hi hj;subst hi;exact absurd (List.mem_of_getElem? hj) hn
   | succ i =>
    cases j with
    | zero =>simp at hi hj;subst hj;exact absurd (List.mem_of_getElem? hi) hn
    | succ j =>simp at hi hj;rw [Jw h i j k hi hj]
section
variable {S:Nat->Prop} {w:World} {κ:Ai} {ids:List Nat}
mutual
theorem ZN:∀ (v:V) (c:Value),VR S w v κ c->VR S w (PO ids v) (λi=>(ids[i]?).bind κ) c
 | .val _,_,h=>h
 | .str _,_,h=>h
 | .agg cs,_,h=>by
  obtain ⟨ca,e,h⟩:=h;exact ⟨ca,e,Kr cs _ h⟩
 | .tup cs,_,h=>by
  obtain ⟨ca,e,h⟩:=h;exact ⟨ca,e,Kr cs _ h⟩
 | .fn f cs,_,h=>by
  obtain ⟨ca,e,h⟩:=h;exact ⟨ca,e,Kr cs _ h⟩
 | .nilS,_,h=>h
 | .sl _ _ _,_,h=>h
 | .slr _ _ _ _,_,h=>h
 | .pp _,_,h=>h
 | .ptr _ _,_,_=>trivial
 | .ref id,_,h=>by
  simp only [PO];split
  ·rename_i k hk
   obtain ⟨_,h2⟩:=G8 hk;refine ⟨?_,h.2⟩;rw [Nat.sub_zero] at h2;show (ids[k]?).bind κ=_;rw [h2];exact h.1
  ·trivial
 | .jref id,_,h=>by
  simp only [PO];split
  ·rename_i k hk
   obtain ⟨_,h2⟩:=G8 hk;obtain ⟨ms,h3,h4⟩:=h;refine ⟨ms,?_,h4⟩;rw [Nat.sub_zero] at h2;show (ids[k]?).bind κ=_;rw [h2];exact h3
  ·trivial
 | .ept _ _ _ _,_,_=>trivial
 | .rct id n,_,h=>by
  simp only [PO];split
  ·rename_i k hk
   obtain ⟨_,h2⟩:=G8 hk;obtain ⟨a,m,cap,h3,h4⟩:=h;refine ⟨a,m,cap,?_,h4⟩;rw [Nat.sub_zero] at h2;show (ids[k]?).bind κ=_;rw [h2];exact h3
  ·trivial
 | .jept _ _ _ _,_,_=>trivial
 | .mref _ _,_,_=>trivial
 | .mmap _ _,_,_=>trivial
 | .anym,_,h=>h
 | .mept _ _ _ _ _,_,_=>trivial
 | .und,_,_=>trivial
theorem Kr:∀ (vs:List V) (l:List Value),VRs S w vs κ l->VRs S w (PO.packs ids vs) (λi=>(ids[i]?).bind κ) l
 | [],_,h=>h
 | v::vs,_,h=>by
  obtain ⟨a,l',e,h1,h2⟩:=h;exact ⟨a,l',e,ZN v _ h1,Kr vs _ h2⟩
end
theorem FD {h hr:List Blk} {v r:V} (hp:Aav v h=some (r,hr)):Ip hr:=by
 unfold Aav at hp;split at hp
 ·rename_i hr' _ hph
  simp at hp;obtain ⟨_,rfl⟩:=hp;exact λi b hb=>((JY hph).2 i b hb).elim λ_ q=>q.2.2
 ·cases hp
theorem OA {h hr:List Blk} {v r:V} {c:Value} (hg:Good κ S h w) (hv:VR S w v κ c) (hp:Aav v h=some (r,hr)) :
  ∃ κ',Good κ' S hr w∧VR S w r κ' c∧∀ i b,A3 κ' hr i b->∃ j,A3 κ h j b:=by
 unfold Aav at hp;split at hp
 ·rename_i hr' hnd hph
  simp at hp;obtain ⟨rfl,rfl⟩:=hp;obtain ⟨hlen,hget⟩:=JY hph;have hown:∀ i b,A3 (λi=>((I2 v)[i]?).bind κ) hr' i b->∃ id,(I2 v)[i]? = some id∧A3 κ h id b:=by
   rintro i b ⟨bl,q1,q3⟩
   obtain ⟨id,q4,q5,_⟩:=hget i bl q1;have q3:inBlk (((I2 v)[i]?).bind κ) b bl:=q3;rw [q4] at q3;exact ⟨id,q4,(Aq q5).2 q3⟩
  refine ⟨λi=>((I2 v)[i]?).bind κ,⟨?_,?_,?_,?_⟩,ZN v c hv,λi b hb=>by
   obtain ⟨id,_,q⟩:=hown i b hb;exact ⟨id,q⟩⟩
  ·intro i b hb
   obtain ⟨id,q1,q2,hrow⟩:=hget i b hb;have:=hg.blk id _ q2;rw [q1];rcases hrow with ⟨e,s,n,g,rfl⟩ | ⟨j,rfl⟩ <;> exact this
  ·intro i j g hij hi hj
   obtain ⟨id,q1,q2⟩:=hown i g hi;obtain ⟨id',q3,q4⟩:=hown j g hj;by_cases he:id=id'
   ·subst he
    exact hij (Jw hnd i j id q1 q3)
   ·exact hg.sep id id' g he q2 q4
  ·intro b hb
   refine ⟨(hg.out b hb).1,λi hi=>?_⟩;obtain ⟨id,_,q⟩:=hown i b hi;exact (hg.out b hb).2 id q
  ·intro i hi
   show ((I2 v)[i]?).bind κ=none;rw [List.getElem?_eq_none (by omega)];rfl
 ·cases hp
end
theorem Ext.ofNil {κ κ':Ai} {S S':Nat->Prop} {h':List Blk} {w w':World} (os:w'.os=w.os) (tape:w'.tape=w.tape) (output:w'.output=w.output) (size:w.heap.size <= w'.heap.size)
  (keep:∀ b,b<w.heap.size->(∀ i,¬ A3 κ [] i b)->w'.heap[b]? = w.heap[b]?) (own:∀ i b,A3 κ' h' i b->(∃ j,A3 κ [] j b) ∨ w.heap.size <= b)
  (sub:∀ b,S' b->S b ∨ (∃ j,A3 κ [] j b) ∨ w.heap.size <= b) (sup:∀ b,S b->S' b) (rows:Ip h'):Ext κ S [] w κ' S' h' w' :=
 ⟨os,tape,output,size,keep,own,sub,sup,I4 size keep (λi b hi hb=>(own i b hi).elim (λ⟨j,hj⟩=>absurd hj (ED _ _ _)) (λq=>by omega)) (λi _ _ _ _ _ hi=>by simp at hi),
  λi b hi hf=>absurd hf (rows i _ hi).notFixed⟩
theorem K4 {P:Program} {τ:List Ty} (hτ:TabOK P τ) (hm:P.follows .mixedOrders=true) {Γ:Cx} (hΓ:Bb P Γ.base) (hΛ:Cb Γ) {f:FuncId} {fn:Func} {c:Code} (hf:P.funcs[f]? = some fn)
  (hb:fn.body=some c) (hn:fn.name ≠ "runtime.NumGoroutine"):As P Γ.glob f λvs=>AK (Ar τ Γ fn vs []):=by
 refine ⟨⟨fn,hf,hn,by rw [hb]; rfl⟩,λvs cs S w v h' hS hE hv he=>?_⟩;obtain ⟨⟨v1,h1⟩,q1,q2⟩:=Ad he;have q2:=Df q2;refine ⟨FD q2,(If (P:=P) hτ hm hΓ hΛ hf hb (Good.empty hS) hE hv q1).mono ?_⟩
 rintro e w' ⟨u,κ',S',rfl,g1,g2,g3⟩
 obtain ⟨κ2,p1,p2,p3⟩:=OA g1 g2 q2;refine ⟨u,κ2,S',rfl,p1,p2,Ext.ofNil g3.os g3.tape g3.output g3.size g3.keep (λi b hb=>?_) g3.sub g3.sup (FD q2)⟩;obtain ⟨j,hj⟩:=p3 i b hb;exact g3.own j b hj
section
variable {S:Nat->Prop} {w:World} {κ:Ai} {h:List Blk}
def HZ (S:Nat->Prop) (κ:Ai) (h:List Blk):Nat->Prop:=λb=>S b ∨ ∃ i,A3 κ h i b
theorem H9:∀ {h:List Blk},Cg h=true->∀ (i:Nat) (j:Jag),h[i]? = some (.jag j)->∀ k,k<j.n->j.live k=true
 | [],_,i,j,hi,_,_=>by simp at hi
 | b::l,hl,0,j,hi,k,hk=>by
  simp at hi;subst hi;simp only [Cg,Bool.and_eq_true] at hl;exact List.all_eq_true.1 hl.1 k (by simpa using hk)
 | b::l,hl,i+1,j,hi,k,hk=>by
  have hl':Cg l=true:=by
   cases b with
   | jag y =>simp only [Cg,Bool.and_eq_true] at hl;exact hl.2
   | _=>exact hl
  exact H9 hl' i j (by simpa using hi) k hk
theorem PR:∀ {h:List Blk},XI h=false->Cg h=true
 | [],_=>rfl
 | b::l,hl=>by
  cases b with
  | jag y=>cases hl
  | _=>exact PR (h:=l) hl
theorem HL {T:Nat->Prop} {e s n:Nat} {g:Nat->V} {m:Value} {ys:List Value} (ho:w.ownsRow 0 e s m n ys) (he:CS S w s n g ys) (hST:∀ b,S b->T b) (hT:∀ b,Ak (some m)=some b->T b):VR T w (.sl s n g) noK m:=by
 rcases ho.2 with ⟨rfl,h0⟩ | ⟨g',cap,cur,rfl,_,hgw,hnc,_,hsz,htake⟩
 ·exact ⟨none,0,by rw [h0],by omega,.inl h0⟩
 ·refine ⟨_,cap,rfl,hnc,.inr ⟨g',0,rfl,λi hi=>?_⟩⟩
  obtain ⟨ci,q1,q2,q3,q4⟩:=he i hi;refine ⟨ci,VR.mono (S':=T) (λb hb=>⟨hST b hb,rfl⟩) _ _ _ _ (λ_ _ h=>h) q1,q2,q3,λj u hj=>?_⟩;refine ⟨hT g' rfl,?_⟩;have hjs:j<s:=by
   have:=(List.getElem?_eq_some_iff.1 hj).1;rw [Array.length_toList] at this;omega
  have:=q4 j hjs;rw [<- htake,List.getElem?_take,if_pos (Dw hi hjs)] at this;rw [Nat.zero_add,cell_of_row w g' _ cur e (0,0) hgw];rw [Array.getElem?_toList] at this hj;rw [this];exact hj
theorem Aai {T:Nat->Prop} {j:Jag} {c:Value} {ms:Array Value} {xs:List Value} (hj:HH S w j c ms xs) (hl:∀ k,k<j.n->j.live k=true) (hST:∀ b,S b->T b) (hT:∀ b,VM (some (.tuple #[c,.agg ms])) b->T b):VR T w (.sl j.size j.n (Zh j)) noK c:=by
 rcases hj.2.2.2.2.1.2 with ⟨rfl,h0⟩ | ⟨g',cap,cur,rfl,_,hgw,hnc,_,hsz,htake⟩
 ·exact ⟨none,0,by rw [h0],by omega,.inl h0⟩
 ·refine ⟨_,cap,rfl,hnc,.inr ⟨g',0,rfl,λi hi=>?_⟩⟩
  obtain ⟨m,hm⟩:=hj.at hi;obtain ⟨h1,ys,ho,he⟩:=hj.mem hm hi (hl i hi);have hvm:VR T w (.sl j.s' (j.len i) (j.mem i)) noK m:=HL ho he hST λb hb=>hT b (BU hm hb);obtain ⟨a,capm,rfl⟩:=Br ho;obtain ⟨ci,q1,q2,q3,q4⟩:=hj.2.2.2.2.2.2.1 i hi;have hoff:=hj.2.2.1.1;obtain ⟨ci',p1,p2,p3,p4⟩:∃ ci',VR T w (Zh j i) noK ci'∧ci'.cells.size=j.size∧(∀ u ∈ ci'.cells.toList,u.oneCell'=true)∧∀ k,k<j.size->xs[i * j.size+k]? = ci'.cells[k]?:=by
   unfold Zh;split
   ·rename_i hs
    refine ⟨_,hvm,by rw [hs]; rfl,λu hu=>?_,λk hk'=>?_⟩
    ·have hu:u ∈ [Value.slice a (j.len i) capm]:=hu
     simp only [List.mem_singleton] at hu;subst hu;rfl
    ·rw [hs] at hk' hoff
     obtain rfl:k=0:=by omega
     rw [show j.off=0 by omega] at h1;rw [h1];rfl
   ·have key:∀ (l:List Value),l.length=j.size->(∀ u ∈ l,u.oneCell'=true)->(∀ k,k<j.size->k ≠ j.off->(∀ q,j.mp=some q->k ≠ q.off)->xs[i * j.size+k]? = l[k]?) ->
      ∃ l':List Value,(Value.agg l'.toArray).cells.size=j.size∧(∀ u ∈ (Value.agg l'.toArray).cells.toList,u.oneCell'=true)∧(∀ k,k<j.size->xs[i * j.size+k]? = (Value.agg l'.toArray).cells[k]?) ∧
       ∀ cs,VRs T w cs noK l->VRs T w (match j.mp with | none=>cs.set j.off (.sl j.s' (j.len i) (j.mem i)) | some q=>(cs.set j.off (.sl j.s' (j.len i) (j.mem i))).set q.off .anym) noK l':=λl hl1 hl2 hl3=>by
     cases hmp:j.mp with
     | none =>
      refine ⟨l.set j.off (.slice a (j.len i) capm),by simp [Value.cells,hl1],λu hu=>?_,λk hk'=>?_,λcs hcs=>VRs.set _ hcs hvm⟩
      ·simp only [Value.cells] at hu
       rcases List.mem_or_eq_of_mem_set hu with hu | rfl
       ·exact hl2 u hu
       ·rfl
      ·simp only [Value.cells,List.getElem?_toArray,List.getElem?_set]
       by_cases hko:j.off=k
       ·subst hko
        rw [if_pos rfl,if_pos (by omega),h1]
       ·rw [if_neg hko,hl3 k hk' (Ne.symm hko) (λq hq=>by rw [hmp] at hq; cases hq)]
     | some q =>
      obtain ⟨mm,hmm⟩:=hj.atM hmp hi;have hM:=hj.map hmp hmm;refine ⟨(l.set j.off (.slice a (j.len i) capm)).set q.off mm,by simp [Value.cells,hl1],λu hu=>?_,λk hk'=>?_,λcs hcs=>VRs.set _ (VRs.set _ hcs hvm) hM.form⟩
      ·simp only [Value.cells] at hu
       rcases List.mem_or_eq_of_mem_set hu with hu | rfl
       ·rcases List.mem_or_eq_of_mem_set hu with hu | rfl
        ·exact hl2 u hu
        ·rfl
       ·rcases hM.form with rfl | ⟨b,rfl⟩ <;> rfl
      ·simp only [Value.cells,List.getElem?_toArray,List.getElem?_set,List.length_set]
       by_cases hkq:q.off=k
       ·subst hkq
        rw [if_pos rfl,if_pos (by omega),hM.1]
       ·rw [if_neg hkq]
        by_cases hko:j.off=k
        ·subst hko
         rw [if_pos rfl,if_pos (by omega),h1]
        ·rw [if_neg hko,hl3 k hk' (Ne.symm hko) (λq' hq=>by rw [hmp] at hq; cases hq; exact Ne.symm hkq)]
    split
    ·rename_i cs hget
     rw [hget] at q1;obtain ⟨ca,rfl,hca⟩:=q1;obtain ⟨l',z1,z2,z3,z4⟩:=key ca (by simpa [Value.cells] using q2) (λu hu=>q3 u (by simpa [Value.cells] using hu)) (λk h1 h2 h3=>by rw [q4 k h1 h2 h3]; simp [Value.cells]);have z5:=z4 cs (VR.mono_go (S':=T) (λb hb=>⟨hST b hb,rfl⟩) _ _ _ _ (λ_ _ h=>h) hca);refine ⟨_,?_,z1,z2,z3⟩;split
     ·rename_i hmp
      rw [hmp] at z5;exact ⟨_,rfl,z5⟩
     ·rename_i q hmp
      rw [hmp] at z5;exact ⟨_,rfl,z5⟩
    ·obtain ⟨l',z1,z2,z3,_⟩:=key ci.cells.toList (by simpa using q2) q3 (λk h1 h2 h3=>by rw [q4 k h1 h2 h3,Array.getElem?_toList])
     exact ⟨_,trivial,z1,z2,z3⟩
  refine ⟨ci',p1,p2,p3,λk u hk'=>⟨hT g' (DD rfl),?_⟩⟩;have hks:k<j.size:=by
   have:=(List.getElem?_eq_some_iff.1 hk').1;rw [Array.length_toList] at this;omega
  have:=p4 k hks;rw [<- htake,List.getElem?_take,if_pos (Dw hi hks)] at this;rw [Nat.zero_add,cell_of_row w g' _ cur j.e (0,0) hgw];rw [Array.getElem?_toList] at this hk';rw [this];exact hk'
theorem Ti (hg:Good κ S h w):∀ (vs vs':List V) (l:List Value),Qi h vs=some vs'->VRs S w vs κ l->VRs (HZ S κ h) w vs' noK l
 | [],_,_,hl,hv=>by simp only [Qi,Option.some.injEq] at hl; subst hl; exact hv
 | v::vs,_,_,hl,hv=>by
  obtain ⟨x,l',e,h1,h2⟩:=hv;simp only [Qi] at hl;split at hl
  ·rename_i a b ha hb
   simp only [Option.some.injEq] at hl;subst hl;refine ⟨x,l',e,?_,Ti hg vs _ _ hb h2⟩;split at ha
   ·rename_i id
    split at ha
    ·rename_i e s n g hh
     simp only [Option.some.injEq] at ha;subst ha;obtain ⟨hs0,c0,xs,hk,ho,he⟩:=E2 (st:=⟨[],h⟩) hg hh;obtain ⟨hk',_⟩:=h1;rw [hk] at hk';simp at hk';subst hk';exact HL ho he (λb hb=>.inl hb) λb hb=>.inr ⟨id,(Aq hh).2 (by rw [hk]; exact hb)⟩
    ·cases ha
   ·split at ha
    ·rename_i hf
     simp only [Option.some.injEq] at ha;subst ha;exact FS _ _ hf (VR.mono (S':=HZ S κ h) (w':=w) (λb hb=>⟨Or.inl hb,rfl⟩) _ κ κ _ (λ_ _ h=>h) h1)
    ·cases ha
  ·cases hl
mutual
theorem Ahx (hg:Good κ S h w) (hlive:Cg h=true):∀ (v v':V) (c:Value),Dv h v=some v'->VR S w v κ c->VR (HZ S κ h) w v' noK c
 | .val _,_,_,hl,hv=>by simp only [Dv,Option.some.injEq] at hl; subst hl; exact hv
 | .str _,_,_,hl,hv=>by simp only [Dv,Option.some.injEq] at hl; subst hl; exact hv
 | .agg cs,_,_,hl,hv=>by
  simp only [Dv] at hl;split at hl
  ·rename_i l hls
   simp only [Option.some.injEq] at hl;subst hl;obtain ⟨ca,e,hv⟩:=hv;exact ⟨ca,e,Io hg hlive cs _ _ hls hv⟩
  ·cases hl
 | .tup cs,_,_,hl,hv=>by
  simp only [Dv] at hl;split at hl
  ·rename_i l hls
   simp only [Option.some.injEq] at hl;subst hl;obtain ⟨ca,e,hv⟩:=hv;exact ⟨ca,e,Io hg hlive cs _ _ hls hv⟩
  ·cases hl
 | .fn f cs,_,_,hl,hv=>by
  simp only [Dv] at hl;split at hl
  ·rename_i l hls
   simp only [Option.some.injEq] at hl;subst hl;obtain ⟨ca,e,hv⟩:=hv;exact ⟨ca,e,Io hg hlive cs _ _ hls hv⟩
  ·cases hl
 | .nilS,_,c,hl,hv=>by
  simp only [Dv,Option.some.injEq] at hl;subst hl;have hv:c = .slice none 0 0:=hv;exact ⟨none,0,hv,Nat.le_refl _,.inl rfl⟩
 | .sl s n g,_,_,hl,hv=>by
  simp only [Dv,Option.some.injEq] at hl;subst hl;exact FS (.sl s n g) _ rfl (VR.mono (S':=HZ S κ h) (w':=w) (λb hb=>⟨Or.inl hb,rfl⟩) (.sl s n g) κ κ _ (λ_ _ h=>h) hv)
 | .slr s n m g,_,_,hl,hv=>by
  simp only [Dv,Option.some.injEq] at hl;subst hl;exact FS (.slr s n m g) _ rfl (VR.mono (S':=HZ S κ h) (w':=w) (λb hb=>⟨Or.inl hb,rfl⟩) (.slr s n m g) κ κ _ (λ_ _ h=>h) hv)
 | .pp v,_,_,hl,hv=>by
  simp only [Dv,Option.some.injEq] at hl;subst hl;exact FS (.pp v) _ rfl (VR.mono (S':=HZ S κ h) (w':=w) (λb hb=>⟨Or.inl hb,rfl⟩) (.pp v) κ κ _ (λ_ _ h=>h) hv)
 | .ptr id 0,_,c,hl,hv=>by
  simp only [Dv] at hl;split at hl
  ·rename_i cs hh
   split at hl
   ·rename_i hf
    simp only [Option.some.injEq] at hl;subst hl;obtain ⟨g,e,ca,hk,hgw,hvs⟩:=hg.blk id _ hh;obtain ⟨g',hk',hc⟩:=hv;rw [hk] at hk';simp at hk';subst hk';have hown:A3 κ h id g:=(Aq hh).2 (by rw [hk]; rfl);refine ⟨g,0,.agg ca,hc,⟨ca.toList,by simp,Es cs _ hf (VR.mono_go (S':=HZ S κ h) (λb hb=>⟨Or.inl hb,rfl⟩) cs κ κ _ (λ_ _ h=>h) hvs)⟩,λj u hj=>⟨.inr ⟨id,hown⟩,?_⟩⟩;have hj:ca.toList[j]? = some u:=hj;rw [Nat.zero_add,cell_of_row w g _ ca e (0,0) hgw];rw [Array.getElem?_toList] at hj;exact hj
   ·split at hl
    ·rename_i l hl2
     simp only [Option.some.injEq] at hl;subst hl;obtain ⟨g,e,ca,hk,hgw,hvs⟩:=hg.blk id _ hh;obtain ⟨g',hk',hc⟩:=hv;rw [hk] at hk';simp at hk';subst hk';have hown:A3 κ h id g:=(Aq hh).2 (by rw [hk]; rfl);refine ⟨g,0,.agg ca,hc,⟨ca.toList,by simp,Ti hg cs l _ hl2 hvs⟩,λj u hj=>⟨.inr ⟨id,hown⟩,?_⟩⟩;have hj:ca.toList[j]? = some u:=hj;rw [Nat.zero_add,cell_of_row w g _ ca e (0,0) hgw];rw [Array.getElem?_toList] at hj;exact hj
    ·cases hl
  ·cases hl
 | .ptr _ (_+1),_,_,hl,_=>by cases hl
 | .ref id,_,_,hl,hv=>by
  simp only [Dv] at hl;split at hl
  ·rename_i e s n g hh
   simp only [Option.some.injEq] at hl;subst hl;obtain ⟨hs0,c0,xs,hk,ho,he⟩:=E2 (st:=⟨[],h⟩) hg hh;obtain ⟨hk',_⟩:=hv;rw [hk] at hk';simp at hk';subst hk';exact HL ho he (λb hb=>.inl hb) λb hb=>.inr ⟨id,(Aq hh).2 (by rw [hk]; exact hb)⟩
  ·cases hl
 | .jref id,_,_,hl,hv=>by
  simp only [Dv] at hl;split at hl
  ·rename_i j hh
   simp only [Option.some.injEq] at hl;subst hl;obtain ⟨c0,ms,xs,hk,hj⟩:=Cd (st:=⟨[],h⟩) hg hh;obtain ⟨ms',hk',_⟩:=hv;rw [hk] at hk';obtain ⟨rfl,rfl⟩:=AC hk';exact Aai hj (H9 hlive id j hh) (λb hb=>.inl hb) λb hb=>.inr ⟨id,(Aq hh).2 (by rw [hk]; exact hb)⟩
  ·cases hl
 | .mref id i,_,_,hl,hv=>by
  simp only [Dv] at hl;split at hl
  ·rename_i j hh
   simp only [Option.some.injEq] at hl;subst hl;obtain ⟨c0,ms,xs,hk,hj⟩:=Cd (st:=⟨[],h⟩) hg hh;obtain ⟨o',ms',hk',hm,a0,n0,cap0,rfl⟩:=hv;rw [hk] at hk';obtain ⟨rfl,rfl⟩:=AC hk';obtain ⟨_,ys,ho,he⟩:=hj.mem hm (hj.ltS hm) (H9 hlive id j hh i (hj.ltS hm));exact HL ho he (λb hb=>.inl hb) λb hb=>.inr ⟨id,(Aq hh).2 (by rw [hk]; exact BU hm hb)⟩
  ·cases hl
 | .ept _ _ _ _,_,_,hl,_=>by cases hl
 | .rct id k,_,_,hl,hv=>by
  simp only [Dv] at hl;split at hl
  ·rename_i e s n g hh
   simp only [Option.some.injEq] at hl;subst hl;obtain ⟨hs0,c0,xs,hk,ho,he⟩:=E2 (st:=⟨[],h⟩) hg hh;obtain ⟨a,m,cap,hk',hle,rfl⟩:=hv;rw [hk] at hk';simp at hk';subst hk';obtain ⟨a',cap',e1,h1,h2⟩:=HL (T:=HZ S κ h) ho he (λb hb=>.inl hb) λb hb=>.inr ⟨id,(Aq hh).2 (by rw [hk]; exact hb)⟩;simp at e1;obtain ⟨rfl,rfl,rfl⟩:=e1;exact ⟨a,cap,rfl,hle,h1,h2⟩
  ·cases hl
 | .jept _ _ _ _,_,_,hl,_=>by cases hl
 | .anym,_,_,hl,hv=>by simp only [Dv,Option.some.injEq] at hl; subst hl; exact hv
 | .mmap _ _,_,_,hl,hv=>by
  simp only [Dv,Option.some.injEq] at hl;subst hl;obtain ⟨_,_,_,_,h⟩:=hv;exact h
 | .mept _ _ _ _ _,_,_,hl,_=>by cases hl
 | .und,_,_,hl,_=>by cases hl
theorem Io (hg:Good κ S h w) (hlive:Cg h=true):∀ (vs vs':List V) (l:List Value),Dv.lends h vs=some vs'->VRs S w vs κ l->VRs (HZ S κ h) w vs' noK l
 | [],_,_,hl,hv=>by simp only [Dv.lends,Option.some.injEq] at hl; subst hl; exact hv
 | v::vs,_,_,hl,hv=>by
  simp only [Dv.lends] at hl;split at hl
  ·rename_i a b ha hb
   simp only [Option.some.injEq] at hl;subst hl;obtain ⟨x,l',e,h1,h2⟩:=hv;exact ⟨x,l',e,Ahx hg hlive v _ _ ha h1,Io hg hlive vs _ _ hb h2⟩
  ·cases hl
end
mutual
theorem UG:∀ (v v':V) (c:Value),free v=true->Dv h v=some v'->VR S w v κ c->VR S w v' noK c
 | .val _,_,_,_,hl,hv=>by simp only [Dv,Option.some.injEq] at hl; subst hl; exact hv
 | .str _,_,_,_,hl,hv=>by simp only [Dv,Option.some.injEq] at hl; subst hl; exact hv
 | .agg cs,_,_,hf,hl,hv=>by
  simp only [Dv] at hl;split at hl
  ·rename_i l hls
   simp only [Option.some.injEq] at hl;subst hl;obtain ⟨ca,e,hv⟩:=hv;exact ⟨ca,e,EH cs _ _ hf hls hv⟩
  ·cases hl
 | .tup cs,_,_,hf,hl,hv=>by
  simp only [Dv] at hl;split at hl
  ·rename_i l hls
   simp only [Option.some.injEq] at hl;subst hl;obtain ⟨ca,e,hv⟩:=hv;exact ⟨ca,e,EH cs _ _ hf hls hv⟩
  ·cases hl
 | .fn f cs,_,_,hf,hl,hv=>by
  simp only [Dv] at hl;split at hl
  ·rename_i l hls
   simp only [Option.some.injEq] at hl;subst hl;obtain ⟨ca,e,hv⟩:=hv;exact ⟨ca,e,EH cs _ _ hf hls hv⟩
  ·cases hl
 | .nilS,_,c,_,hl,hv=>by
  simp only [Dv,Option.some.injEq] at hl;subst hl;have hv:c = .slice none 0 0:=hv;exact ⟨none,0,hv,Nat.le_refl _,.inl rfl⟩
 | .sl s n g,_,_,_,hl,hv=>by
  simp only [Dv,Option.some.injEq] at hl;subst hl;exact FS (.sl s n g) _ rfl hv
 | .slr s n m g,_,_,_,hl,hv=>by
  simp only [Dv,Option.some.injEq] at hl;subst hl;exact FS (.slr s n m g) _ rfl hv
 | .pp v,_,_,_,hl,hv=>by
  simp only [Dv,Option.some.injEq] at hl;subst hl;exact FS (.pp v) _ rfl hv
 | .ptr _ _,_,_,hf,_,_=>by cases hf
 | .ref _,_,_,hf,_,_=>by cases hf
 | .ept _ _ _ _,_,_,hf,_,_=>by cases hf
 | .rct _ _,_,_,hf,_,_=>by cases hf
 | .jref _,_,_,hf,_,_=>by cases hf
 | .jept _ _ _ _,_,_,hf,_,_=>by cases hf
 | .mref _ _,_,_,hf,_,_=>by cases hf
 | .mmap _ _,_,_,hf,_,_=>by cases hf
 | .anym,_,_,_,hl,hv=>by simp only [Dv,Option.some.injEq] at hl; subst hl; exact hv
 | .mept _ _ _ _ _,_,_,hf,_,_=>by cases hf
 | .und,_,_,_,hl,_=>by cases hl
theorem EH:∀ (vs vs':List V) (l:List Value),free.frees vs=true->Dv.lends h vs=some vs'->VRs S w vs κ l->VRs S w vs' noK l
 | [],_,_,_,hl,hv=>by simp only [Dv.lends,Option.some.injEq] at hl; subst hl; exact hv
 | v::vs,_,_,hf,hl,hv=>by
  simp only [free.frees] at hf;split at hf
  ·rename_i hfv
   simp only [Dv.lends] at hl;split at hl
   ·rename_i a b ha hb
    simp only [Option.some.injEq] at hl;subst hl;obtain ⟨x,l',e,h1,h2⟩:=hv;exact ⟨x,l',e,UG v _ _ hfv ha h1,EH vs _ _ hf hb h2⟩
   ·cases hl
  ·cases hf
end
def Bc (κ κ':Ai) (n:Nat):Ai:=λi=>if i<n then κ i else κ' (i-n)
mutual
theorem Rp {n:Nat} {κ':Ai}:∀ (v:V) (c:Value),VR S w v κ' c->VR S w (shift n v) (Bc κ κ' n) c
 | .val _,_,hv=>hv
 | .str _,_,hv=>hv
 | .agg cs,_,hv=>by
  obtain ⟨ca,e,hv⟩:=hv;exact ⟨ca,e,IX cs _ hv⟩
 | .tup cs,_,hv=>by
  obtain ⟨ca,e,hv⟩:=hv;exact ⟨ca,e,IX cs _ hv⟩
 | .fn f cs,_,hv=>by
  obtain ⟨ca,e,hv⟩:=hv;exact ⟨ca,e,IX cs _ hv⟩
 | .nilS,_,hv=>hv
 | .sl _ _ _,_,hv=>hv
 | .slr _ _ _ _,_,hv=>hv
 | .pp _,_,hv=>hv
 | .ptr id o,_,hv=>by
  obtain ⟨g,h1,h2⟩:=hv;exact ⟨g,by show Bc κ κ' n (n+id)=_; unfold Bc; rw [if_neg (by omega),Nat.add_sub_cancel_left]; exact h1,h2⟩
 | .ref id,_,hv=>⟨by show Bc κ κ' n (n+id)=_; unfold Bc; rw [if_neg (by omega),Nat.add_sub_cancel_left]; exact hv.1,hv.2⟩
 | .ept id s i o,_,hv=>by
  obtain ⟨g,m,cap,h1,h2⟩:=hv;exact ⟨g,m,cap,by show Bc κ κ' n (n+id)=_; unfold Bc; rw [if_neg (by omega),Nat.add_sub_cancel_left]; exact h1,h2⟩
 | .rct id k,_,hv=>by
  obtain ⟨g,m,cap,h1,h2⟩:=hv;exact ⟨g,m,cap,by show Bc κ κ' n (n+id)=_; unfold Bc; rw [if_neg (by omega),Nat.add_sub_cancel_left]; exact h1,h2⟩
 | .jref id,_,hv=>by
  obtain ⟨ms,h1,h2⟩:=hv;exact ⟨ms,by show Bc κ κ' n (n+id)=_; unfold Bc; rw [if_neg (by omega),Nat.add_sub_cancel_left]; exact h1,h2⟩
 | .jept id s i o,_,hv=>by
  obtain ⟨g,m,cap,ms,h1,h2⟩:=hv;exact ⟨g,m,cap,ms,by show Bc κ κ' n (n+id)=_; unfold Bc; rw [if_neg (by omega),Nat.add_sub_cancel_left]; exact h1,h2⟩
 | .anym,_,hv=>hv
 | .mmap id i,_,hv=>by
  obtain ⟨o,ms,h1,h2⟩:=hv;exact ⟨o,ms,by show Bc κ κ' n (n+id)=_; unfold Bc; rw [if_neg (by omega),Nat.add_sub_cancel_left]; exact h1,h2⟩
 | .mref id i,_,hv=>by
  obtain ⟨o,ms,h1,h2⟩:=hv;exact ⟨o,ms,by show Bc κ κ' n (n+id)=_; unfold Bc; rw [if_neg (by omega),Nat.add_sub_cancel_left]; exact h1,h2⟩
 | .mept id i s k o,_,hv=>by
  obtain ⟨o,ms,g,m,cap,h1,h2⟩:=hv;exact ⟨o,ms,g,m,cap,by show Bc κ κ' n (n+id)=_; unfold Bc; rw [if_neg (by omega),Nat.add_sub_cancel_left]; exact h1,h2⟩
 | .und,_,_=>trivial
theorem IX {n:Nat} {κ':Ai}:∀ (vs:List V) (l:List Value),VRs S w vs κ' l->VRs S w (shift.shifts n vs) (Bc κ κ' n) l
 | [],_,hv=>hv
 | v::vs,_,hv=>by
  obtain ⟨x,l',e,h1,h2⟩:=hv;exact ⟨x,l',e,Rp v _ h1,IX vs _ h2⟩
end
theorem H5:∀ {l:List Blk},Ce l=true->∀ (i:Nat) (b:Blk),l[i]? = some b->(∃ e s n g,b = .row e s n g∧∀ i,i<n->MC (g i)=true) ∨
  ∃ j,b = .jag j∧∀ i,i<j.n->MC (j.get i)=true∧∀ k,k<j.len i->MC (j.mem i k)=true
 | [],_,i,b,hi=>by simp at hi
 | .row e s n g::l,hb,i,b,hi=>by
  simp only [Ce,Bool.and_eq_true] at hb;cases i with
  | zero =>simp at hi;subst hi;refine .inl ⟨e,s,n,g,rfl,λi hi=>?_⟩;exact List.all_eq_true.1 hb.1 i (by simpa using hi)
  | succ i=>exact H5 hb.2 i b (by simpa using hi)
 | .jag j::l,hb,i,b,hi=>by
  simp only [Ce,Bool.and_eq_true] at hb;cases i with
  | zero =>simp at hi;subst hi;refine .inr ⟨j,rfl,λi hi=>?_⟩;have:=List.all_eq_true.1 hb.1 i (by simpa using hi);rw [Bool.and_eq_true] at this;exact ⟨this.1,λk hk=>List.all_eq_true.1 this.2 k (by simpa using hk)⟩
  | succ i=>exact H5 hb.2 i b (by simpa using hi)
 | .cells _::_,hb,_,_,_=>by cases hb
 | .saved _::_,hb,_,_,_=>by cases hb
 | .imap _ _ _::_,hb,_,_,_=>by cases hb
 | .gmap _ _ _ _::_,hb,_,_,_=>by cases hb
 | .xrow _ _ _ _ _::_,hb,_,_,_=>by cases hb
 | .dead::_,hb,_,_,_=>by cases hb
end
theorem Good.join {S S1 S2:Nat->Prop} {w w':World} {κ κ1:Ai} {h h1:List Blk} (hg:Good κ S h w) (hg1:Good κ1 S1 h1 w')
  (hw:∀ b,b<w.heap.size->w'.heap[b]? = w.heap[b]?) (hnew:∀ i b,A3 κ1 h1 i b->w.heap.size <= b)
  (hold:∀ b,S b->S2 b) (hout:∀ b,S2 b->b<w'.heap.size∧(∀ i,¬ A3 κ h i b)∧∀ i,¬ A3 κ1 h1 i b)
  (hblk:∀ i b,h1[i]? = some b->A7 S2 w' (Bc κ κ1 h.length) (κ1 i) b) :
  Good (Bc κ κ1 h.length) S2 (h++h1) w'∧(∀ id c,κ id=some c->Bc κ κ1 h.length id=some c) ∧
   ∀ i b,A3 (Bc κ κ1 h.length) (h++h1) i b->(∃ j,A3 κ h j b) ∨ (∃ j,A3 κ1 h1 j b):=by
 have hk:∀ id c,κ id=some c->Bc κ κ1 h.length id=some c:=by
  intro id c hc;unfold Bc;rw [if_pos]
  ·exact hc
  ·rcases Nat.lt_or_ge id h.length with hl | hl
   ·exact hl
   ·rw [hg.dom id hl] at hc; cases hc
 have own1:∀ i,i<h.length->∀ k,A3 (Bc κ κ1 h.length) (h++h1) i k↔A3 κ h i k:=by
  intro i hi k;unfold A3 Bc;rw [List.getElem?_append_left hi,if_pos hi]
 have own2:∀ i,h.length <= i->∀ k,A3 (Bc κ κ1 h.length) (h++h1) i k↔A3 κ1 h1 (i-h.length) k:=by
  intro i hi k;unfold A3 Bc;rw [List.getElem?_append_right hi,if_neg (by omega)]
 have hS:∀ b,S b->S2 b∧w'.heap[b]? = w.heap[b]?:=λb hb=>⟨hold b hb,hw b (hg.out b hb).1⟩;refine ⟨⟨?_,?_,?_,?_⟩,hk,?_⟩
 ·intro i b hi
  rcases Nat.lt_or_ge i h.length with hl | hl
  ·rw [List.getElem?_append_left hl] at hi
   have:Bc κ κ1 h.length i=κ i:=by unfold Bc; rw [if_pos hl]
   rw [this];exact (hg.blk i b hi).mono hS hk λk hk'=>hw k ((hg.blk i b hi).lt hk')
  ·rw [List.getElem?_append_right hl] at hi
   have:Bc κ κ1 h.length i=κ1 (i-h.length):=by unfold Bc; rw [if_neg (by omega)]
   rw [this];exact hblk _ b hi
 ·intro i j g hij hi hj
  rcases Nat.lt_or_ge i h.length with hl | hl
  ·rw [own1 i hl] at hi
   rcases Nat.lt_or_ge j h.length with hl' | hl'
   ·rw [own1 j hl'] at hj
    exact hg.sep i j g hij hi hj
   ·rw [own2 j hl'] at hj
    have:=hg.lt hi;have:=hnew _ _ hj;omega
  ·rw [own2 i hl] at hi
   rcases Nat.lt_or_ge j h.length with hl' | hl'
   ·rw [own1 j hl'] at hj
    have:=hg.lt hj;have:=hnew _ _ hi;omega
   ·rw [own2 j hl'] at hj
    exact hg1.sep _ _ g (by omega) hi hj
 ·intro b hb
  obtain ⟨q1,q2,q3⟩:=hout b hb;refine ⟨q1,λi hi=>?_⟩;rcases Nat.lt_or_ge i h.length with hl | hl
  ·rw [own1 i hl] at hi; exact q2 i hi
  ·rw [own2 i hl] at hi; exact q3 _ hi
 ·intro i hi
  simp at hi;unfold Bc;rw [if_neg (by omega)];exact hg1.dom _ (by omega)
 ·intro i b hi
  rcases Nat.lt_or_ge i h.length with hl | hl
  ·rw [own1 i hl] at hi; exact .inl ⟨i,hi⟩
  ·rw [own2 i hl] at hi; exact .inr ⟨_,hi⟩
theorem Rl {h l:List Blk} (hl:Ip l):after h l=h++l:=by
 unfold after;split
 ·simp
 ·exact absurd rfl (hl 0 _ rfl).live
 ·rfl
theorem Ext.join {κ κ1:Ai} {S S2:Nat->Prop} {h h1:List Blk} {w w':World} (hg:Good κ S h w) (os:w'.os=w.os) (tape:w'.tape=w.tape) (output:w'.output=w.output) (size:w.heap.size <= w'.heap.size)
  (hkeep:∀ b,b<w.heap.size->w'.heap[b]? = w.heap[b]?) (hnew:∀ i b,A3 κ1 h1 i b->w.heap.size <= b)
  (j3:∀ i b,A3 (Bc κ κ1 h.length) (h++h1) i b->(∃ j,A3 κ h j b) ∨ (∃ j,A3 κ1 h1 j b))
  (sub:∀ b,S2 b->S b ∨ (∃ j,A3 κ h j b) ∨ w.heap.size <= b) (sup:∀ b,S b->S2 b) (rows:Ip h1):Ext κ S h w (Bc κ κ1 h.length) S2 (h++h1) w':=by
 refine ⟨os,tape,output,size,λb hb _=>hkeep b hb,λi b hi=>(j3 i b hi).elim .inl (λ⟨j,hj⟩=>.inr (hnew j b hj)),sub,sup,I4 size (λb hb _=>hkeep b hb) ?_
  (λi e s n g b hi hb=>E5.same (hkeep b (hg.lt hb))),?_⟩
 ·intro i b hi hb
  rcases Nat.lt_or_ge i h.length with hl | hl
  ·refine ⟨i,?_,λe s n g hh=>⟨e,s,n,g,by rw [List.getElem?_append_left hl]; exact hh,Nat.le_refl _⟩⟩
   unfold A3 Bc at hi;rw [List.getElem?_append_left hl,if_pos hl] at hi;exact hi
  ·have:A3 κ1 h1 (i-h.length) b:=by
    unfold A3 Bc at hi;rw [List.getElem?_append_right hl,if_neg (by omega)] at hi;exact hi
   have:=hnew _ _ this;omega
 ·intro i bl hi hf
  rcases Nat.lt_or_ge i h.length with hl | hl
  ·rw [List.getElem?_append_left hl] at hi
   exact ⟨by unfold Bc; rw [if_pos hl],bl,hi,Bz.refl hf⟩
  ·rw [List.getElem?_append_right hl] at hi
   exact absurd hf (rows _ _ hi).notFixed
theorem QU {P:Program} {G:Nat->V} {f:FuncId} {F:List V->A2} (hp:ZO P G f F) {κ:Ai} {S:Nat->Prop} {h:List Blk} {w:World} {vs:List V} {cs:List Value}
  {v:V} {h':List Blk} (hg:Good κ S h w) (hE:MK G S w) (hv:VRs S w vs κ cs) (hlive:free.frees vs=true ∨ Cg h=true) (he:(W2 F vs h).sem=some (v,h')) :
  Ou P f cs w λe w'=>∃ c κ' S',e = .returned c∧Good κ' S' (after h h') w'∧VR S' w' v κ' c∧Ext κ S h w κ' S' (after h h') w'∧ZS κ κ' w w' h':=by
 unfold W2 at he;split at he
 ·cases he
 ·rename_i vs' hl
  obtain ⟨⟨r,hr⟩,h1,h2⟩:=Ad he;split at h2
  ·rename_i hfree
   have:=Aa h2;simp only [Prod.mk.injEq] at this;obtain ⟨rfl,rfl⟩:=this;have hS:∀ b,S b->b<w.heap.size:=λb hb=>(hg.out b hb).1;obtain ⟨hrows,hcalls⟩:=hp vs' cs S w r h' hS hE (EH vs vs' cs hfree hl hv) h1;refine hcalls.mono ?_
   rintro e w' ⟨c,κ1,S1,rfl,g1,g2,g3⟩
   have hkeep:∀ b,b<w.heap.size->w'.heap[b]? = w.heap[b]?:=λb hb=>g3.keep b hb (λi=>ED _ _ _);have hnew:∀ i b,A3 κ1 h' i b->w.heap.size <= b:=λi b hi=>(g3.own i b hi).elim (λ⟨j,hj⟩=>absurd hj (ED _ _ _)) id;have hfar:∀ b,S1 b->∀ i,¬ A3 κ h i b:=λb hb i hi=>by
    rcases g3.sub b hb with q | ⟨j,hj⟩ | q
    ·exact (hg.out b q).2 i hi
    ·exact ED _ _ _ hj
    ·have:=hg.lt hi; omega
   obtain ⟨j1,j2,j3⟩:=Good.join (S2:=S1) hg g1 hkeep hnew g3.sup (λb hb=>⟨(g1.out b hb).1,hfar b hb,(g1.out b hb).2⟩)
    (λi b hb=>by
     have:=g1.blk i b hb;rcases hrows i b hb with ⟨e',s,n,g,rfl⟩ | ⟨j,rfl⟩ <;> exact this)
   rw [Rl hrows];exact ⟨c,_,S1,rfl,j1,Rp r c g2,Ext.join hg g3.os g3.tape g3.output g3.size hkeep hnew j3
    (λb hb=>(g3.sub b hb).elim .inl (λq=>q.elim (λ⟨j,hj⟩=>absurd hj (ED _ _ _)) (λq=>.inr (.inr q)))) g3.sup hrows,j2,λ_=>hkeep⟩
  ·rename_i hnf
   split at h2
   ·cases h2
   ·rename_i hbare
    have hlS:∀ b,HZ S κ h b->b<w.heap.size:=λb hb=>hb.elim (λhb=>(hg.out b hb).1) λ⟨i,hi⟩=>hg.lt hi;have hlE:MK G (HZ S κ h) w:=λg=>VR.mono (S':=HZ S κ h) (w':=w) (λb hb=>⟨Or.inl hb,rfl⟩) (G g) noK noK _ (λ_ _ h=>h) (hE g);obtain ⟨hrows,hcalls⟩:=hp vs' cs (HZ S κ h) w r hr hlS hlE (Io hg (hlive.elim (λq=>by rw [q] at hnf; cases hnf) (λq=>q)) vs vs' cs hl hv) h1;have key:shift h.length r=v∧hr=h'∧Ce hr=true:=by
     split at h2
     ·have:=Aa h2
      simp only [Prod.mk.injEq] at this;rename_i hnil;have hnil:hr=[]:=hnil;exact ⟨this.1.symm,by rw [this.2,hnil],by rw [hnil]; rfl⟩
     ·rename_i b l hcons
      have hcons:hr=b::l:=hcons;obtain ⟨hc,h3⟩:=Ab h2;have:=Aa h3;simp only [Prod.mk.injEq] at this;exact ⟨this.1.symm,by rw [this.2,hcons],by rw [hcons]; exact hc⟩
    obtain ⟨rfl,rfl,hrb⟩:=key;refine hcalls.mono ?_
    rintro e w' ⟨c,κ1,S1,rfl,g1,g2,g3⟩
    have hkeep:∀ b,b<w.heap.size->w'.heap[b]? = w.heap[b]?:=λb hb=>g3.keep b hb (λi=>ED _ _ _);have hnew:∀ i b,A3 κ1 hr i b->w.heap.size <= b:=λi b hi=>(g3.own i b hi).elim (λ⟨j,hj⟩=>absurd hj (ED _ _ _)) id;obtain ⟨j1,j2,j3⟩:=Good.join (S2:=S) hg g1 hkeep hnew (λ_ h=>h)
     (λb hb=>⟨(g1.out b (g3.sup b (.inl hb))).1,(hg.out b hb).2,(g1.out b (g3.sup b (.inl hb))).2⟩)
     (λi b hb=>by
      have:=g1.blk i b hb;rcases H5 hrb i b hb with ⟨e',s,n,g,rfl,hbs⟩ | ⟨j,rfl,hbs⟩
      ·obtain ⟨q0,cc,xs,q1,q2,q3⟩:=this
       refine ⟨q0,cc,xs,q1,q2,λi hi=>?_⟩;obtain ⟨ci,p1,p2,p3,p4⟩:=q3 i hi;exact ⟨ci,Hx _ _ _ (hbs i hi) p1,p2,p3,p4⟩
      ·obtain ⟨cc,ms,xs,q1,z1,z2,z3,z4,z5,z6,z7,z8,z9⟩:=this
       refine ⟨cc,ms,xs,q1,z1,z2,z3,z4,z5,z6,λi hi=>?_,λi m hm=>?_,z9⟩
       ·obtain ⟨ci,p1,p2,p3,p4⟩:=z7 i hi
        exact ⟨ci,Hx _ _ _ (hbs i hi).1 p1,p2,p3,p4⟩
       ·rcases z8 i m hm with ⟨hin,this⟩ | h8
        rotate_left
        ·exact .inr h8
        refine .inl ⟨hin,?_⟩;unfold HF at this ⊢;split
        ·rename_i hlv
         rw [hlv] at this;obtain ⟨y1,ys,y2,y3⟩:=this;refine ⟨y1,ys,y2,λk hk=>?_⟩;obtain ⟨ci,p1,p2,p3,p4⟩:=y3 k hk;exact ⟨ci,Hx _ _ _ ((hbs i hin).2 k hk) p1,p2,p3,p4⟩
        ·rename_i hlv
         rw [hlv] at this;exact this)
    rw [Rl hrows];exact ⟨c,_,S,rfl,j1,Rp r c (Hx r _ _ hbare g2),Ext.join hg g3.os g3.tape g3.output g3.size hkeep hnew j3 (λb hb=>.inl hb) (λ_ h=>h) hrows,j2,λ_=>hkeep⟩
theorem GU {α:Type} {f:Nat} {x:α}:∀ {l:List (Nat×α)},Jb f l=some x->(f,x) ∈ l
 | [],h=>by cases h
 | (k,y)::l,h=>by
   simp only [Jb] at h;split at h
   ·rename_i hk
    have hk:k=f:=Nat.eq_of_beq_eq_true hk;simp only [Option.some.injEq] at h;subst h;subst hk;exact List.mem_cons_self ..
   ·exact List.mem_cons_of_mem _ (GU h)
def Ao (P:Program) (G:Nat->V) (tbl:AH):Prop:=∀ p,p ∈ tbl->ZO P G p.1 p.2
theorem Ao.nil {P:Program} {G:Nat->V}:Ao P G []:=λ_ h=>by cases h
theorem Ao.cons {P:Program} {G:Nat->V} {f:Nat} {F:List V->A2} {tbl:AH} (h:As P G f F) (ht:Ao P G tbl):Ao P G ((f,F)::tbl):=λp hp=>by
 rcases List.mem_cons.1 hp with rfl | hp
 ·exact h.x
 ·exact ht p hp
theorem AeI {P:Program} {G:Nat->V} {f:FuncId} {F:List V->A2} (hp:ZO P G f F) {κ:Ai} {S:Nat->Prop} {h:List Blk} {w:World} {vs:List V} {cs:List Value}
  {v:V} {h':List Blk} (hg:Good κ S h w) (hE:MK G S w) (hv:VRs S w vs κ cs) (he:(AeJ F vs h).sem=some (v,h')) :
  Ou P f cs w λe w'=>∃ c κ' S',e = .returned c∧Good κ' S' (after h h') w'∧VR S' w' v κ' c∧Ext κ S h w κ' S' (after h h') w'∧ZS κ κ' w w' h':=by
 unfold AeJ at he;split at he
 ·rename_i hj
  exact QU hp hg hE hv (.inr (PR hj)) he
 ·split at he
  ·rename_i hf
   exact QU hp hg hE hv (.inl hf) he
  ·obtain ⟨h1,h2⟩:=Ab he
   exact QU hp hg hE hv (.inr h1) h2
theorem PV {t:A2} {v:V} {r:Res} (h:(Adk t).sem=some (v,r)):∃ l,r = .more l∧t.sem=some (v,l):=by
 obtain ⟨⟨v',l⟩,h1,h2⟩:=Ad h;have:=Aa h2;simp only [Prod.mk.injEq] at this;obtain ⟨rfl,rfl⟩:=this;exact ⟨l,rfl,h1⟩
theorem Ep {P:Program} {Γ:Cx0} {tbl:AH} (hc:Γ.call=A6 tbl) (ht:Ao P Γ.glob tbl):Bb P Γ:=by
 intro f vs cs κ S st l w v r hg hE hv _ he;rw [hc] at he;unfold A6 at he;split at he
 ·rename_i F hF
  obtain ⟨l2,rfl,he2⟩:=PV he;exact AeI (ht _ (GU hF)) hg hE hv he2
 ·cases he
theorem Afc {Γ:Cx0} {st:St} {i:Nat} {b b':Blk} (hi:st.h[i]? = some b) (hin:∀ v g,inBlk v g b'->inBlk v g b) (hnf:¬ CB b) (hnf':¬ CB b') (hnx:∀ e s n g,b ≠ .xrow true e s n g)
  (hH:∀ (κ:Ai) (S:Nat->Prop) (w:World) (v:Option Value),A7 S w κ v b->A7 S w κ v b'):LE Γ st ⟨st.t,st.h.set i b'⟩:=by
 intro _ κ S a w hr;have hB:=hH κ S w _ (hr.good.blk i b hi);obtain ⟨h1,h2⟩:=hr.good.upd' (w':=w) hi (λk hk=>hin _ k hk) (λ_ _ _=>rfl) (Nat.le_refl _) hB;exact ⟨κ,S,⟨h1,hr.env,hr.tmps,hr.defers⟩,Ext.upd' hr.good hi rfl (λ_ _ _=>rfl) (Nat.le_refl _) rfl rfl rfl h2 hnx (λhf=>absurd hf hnf')⟩
theorem Afd {Γ:Cx0} {st:St} {i e s n:Nat} {g g':Nat->V} (hi:st.h[i]? = some (.row e s n g)) (hg:∀ j,j<n->g' j=g j):LE Γ st ⟨st.t,st.h.set i (.row e s n g')⟩ :=
 Afc hi (λ_ _ h=>h) (Gt.notFixed (.inl ⟨_,_,_,_,rfl⟩)) (Gt.notFixed (.inl ⟨_,_,_,_,rfl⟩)) (λ_ _ _ _ h=>by cases h) λκ S w v hB=>by
  obtain ⟨q0,c,xs,q1,q2,q3⟩:=hB;exact ⟨q0,c,xs,q1,q2,λk hk=>by rw [hg k hk]; exact q3 k hk⟩
theorem Afe {Γ:Cx0} {st:St} {i:Nat} {j:Jag} {get':Nat->V} {live':Nat->Bool} {len':Nat->Nat} {mem':Nat->Nat->V} (hi:st.h[i]? = some (.jag j)) (h1:∀ k,k<j.n->get' k=j.get k) (h2:∀ k,k<j.n->live' k=j.live k)
  (h3:∀ k,k<j.n->len' k=j.len k) (h4:∀ k,k<j.n->∀ q,q<j.len k->mem' k q=j.mem k q):LE Γ st ⟨st.t,st.h.set i (.jag { j with get:=get',live:=live',len:=len',mem:=mem' })⟩ :=
 Afc hi (λ_ _ h=>h) (Bj _) (Bj _) (λ_ _ _ _ h=>by cases h) λκ S w v hB=>by
  obtain ⟨c,ms,xs,q1,z1,z2,z3,z4,z5,z6,z7,z8,z9⟩:=hB;refine ⟨c,ms,xs,q1,z1,z2,z3,z4,z5,z6,λk hk=>?_,λk m hm=>?_,z9⟩
  ·show ∃ ci,VR S w (get' k) noK ci∧_
   rw [h1 k hk];exact z7 k hk
  ·rcases z8 k m hm with ⟨hk,this⟩ | h8
   rotate_left
   ·exact .inr h8
   refine .inl ⟨hk,?_⟩;unfold HF at this ⊢;show (match live' k with | true=>_ | false=>_)
   rw [h2 k hk];split
   ·rename_i hlv
    rw [hlv] at this;obtain ⟨y1,ys,y2,y3⟩:=this;refine ⟨y1,ys,by show w.ownsRow 0 j.e' j.s' m (len' k) ys; rw [h3 k hk]; exact y2,?_⟩;show CS S w j.s' (len' k) (mem' k) ys;rw [h3 k hk];exact λq hq=>by rw [h4 k hk q hq]; exact y3 q hq
   ·rename_i hlv
    rw [hlv] at this;exact this
end Go.Sy
