/-
  Functions known by what they answer: the interface between functions; own memory lent; states that say less. Conditions: as before.
-/
import Derived.Test.YtjhnfomefcngfaaSyO
namespace Go.Sy
def EnvG (G:Nat->V) (S:Nat->Prop) (w:World):Prop:=∀ g,VR S w (G g) noK (.pointer (some ⟨g,0,none⟩))
def IsRowB (b:Blk):Prop:=(∃ e s n g,b = Blk.row e s n g) ∨ ∃ j,b = Blk.jag j
theorem IsRowB.notFixed {b:Blk} (h:IsRowB b):¬ Fixed b:=fun hf=>by
  rcases h with ⟨e,s,n,g,rfl⟩ | ⟨j,rfl⟩
  · rcases hf with ⟨_,_,_,_,hf⟩ | ⟨_,hf⟩ <;> cases hf
  · exact jag_notFixed j hf
theorem IsRowB.live {b:Blk} (h:IsRowB b):b ≠ .dead:=by
  rcases h with ⟨e,s,n,g,rfl⟩ | ⟨j,rfl⟩ <;> simp
def RowsB (h:List Blk):Prop:=∀ (i:Nat) (b:Blk),h[i]? = some b->IsRowB b
def PureC (P:Program) (G:Nat->V) (f:FuncId) (F:List V->T (V × List Blk)):Prop :=
  Enters P f ∧ ∀ vs cs S w v h',(∀ b,S b->b < w.heap.size)->EnvG G S w->VRs S w vs noK cs->(F vs).sem = some (v,h') ->
    RowsB h' ∧ Calls P f cs.toArray w fun e w'=>∃ c κ' S',e = .returned c ∧ Good κ' S' h' w' ∧ VR S' w' v κ' c ∧ Ext noK S [] w κ' S' h' w'
theorem PureC.congr {P:Program} {G:Nat->V} {f:FuncId} {F F':List V->T (V × List Blk)} (h:PureC P G f F) (hF:∀ vs r,(F' vs).sem = some r->(F vs).sem = some r):PureC P G f F' :=
  ⟨h.1,fun vs cs S w v h' h1 h2 h3 h4=>h.2 vs cs S w v h' h1 h2 h3 (hF vs _ h4)⟩
def PureX (P:Program) (G:Nat->V) (f:FuncId) (F:List V->T (V × List Blk)):Prop :=
  ∀ vs cs S w v h',(∀ b,S b->b < w.heap.size)->EnvG G S w->VRs S w vs noK cs->(F vs).sem = some (v,h') ->
    RowsB h' ∧ Gives P f cs w fun e w'=>∃ c κ' S',e = .returned c ∧ Good κ' S' h' w' ∧ VR S' w' v κ' c ∧ Ext noK S [] w κ' S' h' w'
theorem PureC.x {P:Program} {G:Nat->V} {f:FuncId} {F:List V->T (V × List Blk)} (h:PureC P G f F):PureX P G f F:=fun vs cs S w v h' h1 h2 h3 h4 =>
  ⟨(h.2 vs cs S w v h' h1 h2 h3 h4).1,.inl ⟨h.1,(h.2 vs cs S w v h' h1 h2 h3 h4).2⟩⟩
theorem ownB_nil (κ:Nat->Option Value) (i g:Nat):¬ ownB κ [] i g:=ownB_none (by simp)
theorem Good.empty {S:Nat->Prop} {w:World} (hS:∀ b,S b->b < w.heap.size):Good noK S [] w :=
  ⟨fun i b h=>(by simp at h),fun i j g _ h=>absurd h (ownB_nil _ _ _),fun b hb=>⟨hS b hb,fun i h=>ownB_nil _ _ _ h⟩,fun _ _=>rfl⟩
theorem posN_spec {id:Nat}:∀ {l:List Nat} {i k:Nat},posN id l i = some k->i <= k ∧ l[k - i]? = some id
  | [],_,_,h=>by cases h
  | a :: l,i,k,h=>by
    simp only [posN] at h
    split at h
    · rename_i ha
      have ha:a = id:=Nat.eq_of_beq_eq_true ha
      simp at h
      subst h
      subst ha
      simp
    · obtain ⟨h1,h2⟩:=posN_spec h
      refine ⟨by omega,?_⟩
      rw [show k - i = (k - Nat.succ i)+1 by omega]
      simpa using h2
theorem packH_get {h:List Blk}:∀ {ids:List Nat} {hr:List Blk},packH h ids = some hr->hr.length = ids.length ∧ ∀ (i:Nat) (b:Blk),hr[i]? = some b->∃ id,ids[i]? = some id ∧ h[id]? = some b ∧ IsRowB b
  | [],hr,hp=>by simp [packH] at hp; subst hp; exact ⟨rfl,fun i b hb=>by simp at hb⟩
  | id :: ids,hr,hp=>by
    simp only [packH] at hp
    split at hp
    · rename_i e s n g bs h1 h2
      simp at hp
      subst hp
      obtain ⟨q1,q2⟩:=packH_get h2
      refine ⟨by simp [q1],fun i b hb=>?_⟩
      cases i with
      | zero =>
        simp at hb
        subst hb
        exact ⟨id,by simp,h1,.inl ⟨e,s,n,g,rfl⟩⟩
      | succ i=>simpa using q2 i b (by simpa using hb)
    · rename_i j bs h1 h2
      simp at hp
      subst hp
      obtain ⟨q1,q2⟩:=packH_get h2
      refine ⟨by simp [q1],fun i b hb=>?_⟩
      cases i with
      | zero =>
        simp at hb
        subst hb
        exact ⟨id,by simp,h1,.inr ⟨j,rfl⟩⟩
      | succ i=>simpa using q2 i b (by simpa using hb)
    · cases hp
theorem memN_spec {k:Nat}:∀ {l:List Nat},memN k l = false->k ∉ l
  | [],_=>by simp
  | a :: l,h=>by
    simp only [memN] at h
    split at h
    · cases h
    · rename_i ha
      have:=Nat.ne_of_beq_eq_false ha
      simp only [List.mem_cons,not_or]
      exact ⟨fun e=>this e.symm,memN_spec h⟩
theorem nodupN_spec:∀ {l:List Nat},nodupN l = true->∀ (i j k:Nat),l[i]? = some k->l[j]? = some k->i = j
  | [],_,i,j,k,h,_=>by simp at h
  | a :: l,h,i,j,k,hi,hj=>by
    simp only [nodupN] at h
    split at h
    · cases h
    · rename_i hm
      have hn:=memN_spec hm
      cases i with
      | zero =>
        cases j with
        | zero=>rfl
        | succ j =>
          simp at hi hj
          subst hi
          exact absurd (List.mem_of_getElem? hj) hn
      | succ i =>
        cases j with
        | zero =>
          simp at hi hj
          subst hj
          exact absurd (List.mem_of_getElem? hi) hn
        | succ j =>
          simp at hi hj
          rw [nodupN_spec h i j k hi hj]
section
variable {S:Nat->Prop} {w:World} {κ:Nat->Option Value} {ids:List Nat}
mutual
theorem VR_pack:∀ (v:V) (c:Value),VR S w v κ c->VR S w (packV ids v) (fun i=>(ids[i]?).bind κ) c
  | .val _,_,h=>h
  | .str _,_,h=>h
  | .agg cs,_,h=>by
    obtain ⟨ca,e,h⟩:=h
    exact ⟨ca,e,VRs_packs cs _ h⟩
  | .tup cs,_,h=>by
    obtain ⟨ca,e,h⟩:=h
    exact ⟨ca,e,VRs_packs cs _ h⟩
  | .fn f cs,_,h=>by
    obtain ⟨ca,e,h⟩:=h
    exact ⟨ca,e,VRs_packs cs _ h⟩
  | .nilS,_,h=>h
  | .sl _ _ _,_,h=>h
  | .slr _ _ _ _,_,h=>h
  | .pp _,_,h=>h
  | .ptr _ _,_,_=>trivial
  | .ref id,_,h=>by
    simp only [packV]
    split
    · rename_i k hk
      obtain ⟨_,h2⟩:=posN_spec hk
      refine ⟨?_,h.2⟩
      rw [Nat.sub_zero] at h2
      show (ids[k]?).bind κ = _
      rw [h2]
      exact h.1
    · trivial
  | .jref id,_,h=>by
    simp only [packV]
    split
    · rename_i k hk
      obtain ⟨_,h2⟩:=posN_spec hk
      obtain ⟨ms,h3,h4⟩:=h
      refine ⟨ms,?_,h4⟩
      rw [Nat.sub_zero] at h2
      show (ids[k]?).bind κ = _
      rw [h2]
      exact h3
    · trivial
  | .ept _ _ _ _,_,_=>trivial
  | .jept _ _ _ _,_,_=>trivial
  | .mref _ _,_,_=>trivial
  | .mept _ _ _ _ _,_,_=>trivial
  | .und,_,_=>trivial
theorem VRs_packs:∀ (vs:List V) (l:List Value),VRs S w vs κ l->VRs S w (packV.packs ids vs) (fun i=>(ids[i]?).bind κ) l
  | [],_,h=>h
  | v :: vs,_,h=>by
    obtain ⟨a,l',e,h1,h2⟩:=h
    exact ⟨a,l',e,VR_pack v _ h1,VRs_packs vs _ h2⟩
end
theorem pack_rows {h hr:List Blk} {v r:V} (hp:pack v h = some (r,hr)):RowsB hr:=by
  unfold pack at hp
  split at hp
  · rename_i hr' _ hph
    simp at hp
    obtain ⟨_,rfl⟩:=hp
    exact fun i b hb=>((packH_get hph).2 i b hb).elim fun _ q=>q.2.2
  · cases hp
theorem pack_ok {h hr:List Blk} {v r:V} {c:Value} (hg:Good κ S h w) (hv:VR S w v κ c) (hp:pack v h = some (r,hr)) :
    ∃ κ',Good κ' S hr w ∧ VR S w r κ' c ∧ ∀ i b,ownB κ' hr i b->∃ j,ownB κ h j b:=by
  unfold pack at hp
  split at hp
  · rename_i hr' hnd hph
    simp at hp
    obtain ⟨rfl,rfl⟩:=hp
    obtain ⟨hlen,hget⟩:=packH_get hph
    have hown:∀ i b,ownB (fun i=>((refsOf v)[i]?).bind κ) hr' i b->∃ id,(refsOf v)[i]? = some id ∧ ownB κ h id b:=by
      rintro i b ⟨bl,q1,q3⟩
      obtain ⟨id,q4,q5,_⟩:=hget i bl q1
      have q3:inBlk (((refsOf v)[i]?).bind κ) b bl:=q3
      rw [q4] at q3
      exact ⟨id,q4,(ownB_of q5).2 q3⟩
    refine ⟨fun i=>((refsOf v)[i]?).bind κ,⟨?_,?_,?_,?_⟩,VR_pack v c hv,fun i b hb=>by
      obtain ⟨id,_,q⟩:=hown i b hb
      exact ⟨id,q⟩⟩
    · intro i b hb
      obtain ⟨id,q1,q2,hrow⟩:=hget i b hb
      have:=hg.blk id _ q2
      rw [q1]
      rcases hrow with ⟨e,s,n,g,rfl⟩ | ⟨j,rfl⟩ <;> exact this
    · intro i j g hij hi hj
      obtain ⟨id,q1,q2⟩:=hown i g hi
      obtain ⟨id',q3,q4⟩:=hown j g hj
      by_cases he:id = id'
      · subst he
        exact hij (nodupN_spec hnd i j id q1 q3)
      · exact hg.sep id id' g he q2 q4
    · intro b hb
      refine ⟨(hg.out b hb).1,fun i hi=>?_⟩
      obtain ⟨id,_,q⟩:=hown i b hi
      exact (hg.out b hb).2 id q
    · intro i hi
      show ((refsOf v)[i]?).bind κ = none
      rw [List.getElem?_eq_none (by omega)]
      rfl
  · cases hp
end
theorem Ext.ofNil {κ κ':Nat->Option Value} {S S':Nat->Prop} {h':List Blk} {w w':World} (os:w'.os = w.os) (tape:w'.tape = w.tape) (output:w'.output = w.output) (size:w.heap.size <= w'.heap.size)
    (keep:∀ b,b < w.heap.size->(∀ i,¬ ownB κ [] i b)->w'.heap[b]? = w.heap[b]?) (own:∀ i b,ownB κ' h' i b->(∃ j,ownB κ [] j b) ∨ w.heap.size <= b)
    (sub:∀ b,S' b->S b ∨ (∃ j,ownB κ [] j b) ∨ w.heap.size <= b) (sup:∀ b,S b->S' b) (rows:RowsB h'):Ext κ S [] w κ' S' h' w' :=
  ⟨os,tape,output,size,keep,own,sub,sup,pre_of size keep (fun i b hi hb=>(own i b hi).elim (fun ⟨j,hj⟩=>absurd hj (ownB_nil _ _ _)) (fun q=>by omega)) (fun i _ _ _ _ _ hi=>by simp at hi),
    fun i b hi hf=>absurd hf (rows i _ hi).notFixed⟩
theorem pureC_of_eval {P:Program} {τ:List Ty} (hτ:TabOK P τ) (hm:P.follows .mixedOrders = true) {Γ:Cx} (hΓ:CallOK P Γ.base) (hΛ:LoopOK Γ) {f:FuncId} {fn:Func} {c:Code} (hf:P.funcs[f]? = some fn)
    (hb:fn.body = some c) (hn:fn.name ≠ "runtime.NumGoroutine"):PureC P Γ.glob f fun vs=>finF (evalF τ Γ fn vs []):=by
  refine ⟨⟨fn,hf,hn,by rw [hb]; rfl⟩,fun vs cs S w v h' hS hE hv he=>?_⟩
  obtain ⟨⟨v1,h1⟩,q1,q2⟩:=sem_bind_some he
  have q2:=sem_ofOpt q2
  refine ⟨pack_rows q2,(evalF_ok (P:=P) hτ hm hΓ hΛ hf hb (Good.empty hS) hE hv q1).mono ?_⟩
  rintro e w' ⟨u,κ',S',rfl,g1,g2,g3⟩
  obtain ⟨κ2,p1,p2,p3⟩:=pack_ok g1 g2 q2
  refine ⟨u,κ2,S',rfl,p1,p2,Ext.ofNil g3.os g3.tape g3.output g3.size g3.keep (fun i b hb=>?_) g3.sub g3.sup (pack_rows q2)⟩
  obtain ⟨j,hj⟩:=p3 i b hb
  exact g3.own j b hj
section
variable {S:Nat->Prop} {w:World} {κ:Nat->Option Value} {h:List Blk}
def lentS (S:Nat->Prop) (κ:Nat->Option Value) (h:List Blk):Nat->Prop:=fun b=>S b ∨ ∃ i,ownB κ h i b
theorem jagsLive_spec:∀ {h:List Blk},jagsLive h = true->∀ (i:Nat) (j:Jag),h[i]? = some (.jag j)->∀ k,k < j.n->j.live k = true
  | [],_,i,j,hi,_,_=>by simp at hi
  | b :: l,hl,0,j,hi,k,hk=>by
    simp at hi
    subst hi
    simp only [jagsLive,Bool.and_eq_true] at hl
    exact List.all_eq_true.1 hl.1 k (by simpa using hk)
  | b :: l,hl,i+1,j,hi,k,hk=>by
    have hl':jagsLive l = true:=by
      cases b with
      | jag y =>
        simp only [jagsLive,Bool.and_eq_true] at hl
        exact hl.2
      | _=>exact hl
    exact jagsLive_spec hl' i j (by simpa using hi) k hk
theorem noJag_live:∀ {h:List Blk},hasJag h = false->jagsLive h = true
  | [],_=>rfl
  | b :: l,hl=>by
    cases b with
    | jag y=>cases hl
    | _=>exact noJag_live (h:=l) hl
theorem sl_of_row {T:Nat->Prop} {e s n:Nat} {g:Nat->V} {m:Value} {ys:List Value} (ho:w.ownsRow 0 e s m n ys) (he:Elems S w s n g ys) (hST:∀ b,S b->T b) (hT:∀ b,blockOf (some m) = some b->T b):VR T w (.sl s n g) noK m:=by
  rcases ho.2 with ⟨rfl,h0⟩ | ⟨g',cap,cur,rfl,_,hgw,hnc,_,hsz,htake⟩
  · exact ⟨none,0,by rw [h0],by omega,.inl h0⟩
  · refine ⟨_,cap,rfl,hnc,.inr ⟨g',0,rfl,fun i hi=>?_⟩⟩
    obtain ⟨ci,q1,q2,q3,q4⟩:=he i hi
    refine ⟨ci,VR.mono (S':=T) (fun b hb=>⟨hST b hb,rfl⟩) _ _ _ _ (fun _ _ h=>h) q1,q2,q3,fun j u hj=>?_⟩
    refine ⟨hT g' rfl,?_⟩
    have hjs:j < s:=by
      have:=(List.getElem?_eq_some_iff.1 hj).1
      rw [Array.length_toList] at this
      omega
    have:=q4 j hjs
    rw [<- htake,List.getElem?_take,if_pos (flat_lt hi hjs)] at this
    rw [Nat.zero_add,cell_of_row w g' _ cur e (0,0) hgw]
    rw [Array.getElem?_toList] at this hj
    rw [this]
    exact hj
theorem sl_of_jag {T:Nat->Prop} {j:Jag} {c:Value} {ms:Array Value} {xs:List Value} (hj:JagR S w j c ms xs) (hl:∀ k,k < j.n->j.live k = true) (hST:∀ b,S b->T b) (hT:∀ b,inJag (some (.tuple #[c,.agg ms])) b->T b):VR T w (.sl j.size j.n (jlend j)) noK c:=by
  rcases hj.2.2.2.2.1.2 with ⟨rfl,h0⟩ | ⟨g',cap,cur,rfl,_,hgw,hnc,_,hsz,htake⟩
  · exact ⟨none,0,by rw [h0],by omega,.inl h0⟩
  · refine ⟨_,cap,rfl,hnc,.inr ⟨g',0,rfl,fun i hi=>?_⟩⟩
    obtain ⟨m,hm⟩:=hj.at hi
    obtain ⟨h1,ys,ho,he⟩:=hj.mem hm (hl i hi)
    have hvm:VR T w (.sl j.s' (j.len i) (j.mem i)) noK m:=sl_of_row ho he hST fun b hb=>hT b (inJag_mem hm hb)
    obtain ⟨a,capm,rfl⟩:=ownsRow_slice ho
    obtain ⟨ci,q1,q2,q3,q4⟩:=hj.2.2.2.2.2.2.1 i hi
    have hoff:=hj.2.2.1
    obtain ⟨ci',p1,p2,p3,p4⟩:∃ ci',VR T w (jlend j i) noK ci' ∧ ci'.cells.size = j.size ∧ (∀ u ∈ ci'.cells.toList,u.oneCell' = true) ∧ ∀ k,k < j.size->xs[i * j.size+k]? = ci'.cells[k]?:=by
      unfold jlend
      split
      · rename_i hs
        refine ⟨_,hvm,by rw [hs]; rfl,fun u hu=>?_,fun k hk'=>?_⟩
        · have hu:u ∈ [Value.slice a (j.len i) capm]:=hu
          simp only [List.mem_singleton] at hu
          subst hu
          rfl
        · rw [hs] at hk' hoff
          obtain rfl:k = 0:=by omega
          rw [show j.off = 0 by omega] at h1
          rw [h1]
          rfl
      · have hcells:∀ (l:List Value),l.length = j.size->(∀ u ∈ l,u.oneCell' = true)->(∀ k,k < j.size->k ≠ j.off->xs[i * j.size+k]? = l[k]?) ->
            (Value.agg (l.set j.off (.slice a (j.len i) capm)).toArray).cells.size = j.size ∧ (∀ u ∈ (Value.agg (l.set j.off (.slice a (j.len i) capm)).toArray).cells.toList,u.oneCell' = true) ∧
              ∀ k,k < j.size->xs[i * j.size+k]? = (Value.agg (l.set j.off (.slice a (j.len i) capm)).toArray).cells[k]?:=fun l hl1 hl2 hl3=>by
          refine ⟨by simp [Value.cells,hl1],fun u hu=>?_,fun k hk'=>?_⟩
          · simp only [Value.cells] at hu
            rcases List.mem_or_eq_of_mem_set hu with hu | rfl
            · exact hl2 u hu
            · rfl
          · simp only [Value.cells,List.getElem?_toArray,List.getElem?_set]
            by_cases hko:j.off = k
            · subst hko
              rw [if_pos rfl,if_pos (by omega),h1]
            · rw [if_neg hko,hl3 k hk' (Ne.symm hko)]
        split
        · rename_i cs hget
          rw [hget] at q1
          obtain ⟨ca,rfl,hca⟩:=q1
          obtain ⟨z1,z2,z3⟩:=hcells ca (by simpa [Value.cells] using q2) (fun u hu=>q3 u (by simpa [Value.cells] using hu)) (fun k h1 h2=>by rw [q4 k h1 h2]; simp [Value.cells])
          exact ⟨_,⟨_,rfl,VRs.set _ (VR.mono_go (S':=T) (fun b hb=>⟨hST b hb,rfl⟩) _ _ _ _ (fun _ _ h=>h) hca) hvm⟩,z1,z2,z3⟩
        · obtain ⟨z1,z2,z3⟩:=hcells ci.cells.toList (by simpa using q2) q3 (fun k h1 h2=>by rw [q4 k h1 h2,Array.getElem?_toList])
          exact ⟨_,trivial,z1,z2,z3⟩
    refine ⟨ci',p1,p2,p3,fun k u hk'=>⟨hT g' (inJag_top rfl),?_⟩⟩
    have hks:k < j.size:=by
      have:=(List.getElem?_eq_some_iff.1 hk').1
      rw [Array.length_toList] at this
      omega
    have:=p4 k hks
    rw [<- htake,List.getElem?_take,if_pos (flat_lt hi hks)] at this
    rw [Nat.zero_add,cell_of_row w g' _ cur j.e (0,0) hgw]
    rw [Array.getElem?_toList] at this hk'
    rw [this]
    exact hk'
mutual
theorem VR_lend (hg:Good κ S h w) (hlive:jagsLive h = true):∀ (v v':V) (c:Value),lend h v = some v'->VR S w v κ c->VR (lentS S κ h) w v' noK c
  | .val _,_,_,hl,hv=>by simp only [lend,Option.some.injEq] at hl; subst hl; exact hv
  | .str _,_,_,hl,hv=>by simp only [lend,Option.some.injEq] at hl; subst hl; exact hv
  | .agg cs,_,_,hl,hv=>by
    simp only [lend] at hl
    split at hl
    · rename_i l hls
      simp only [Option.some.injEq] at hl
      subst hl
      obtain ⟨ca,e,hv⟩:=hv
      exact ⟨ca,e,VRs_lends hg hlive cs _ _ hls hv⟩
    · cases hl
  | .tup cs,_,_,hl,hv=>by
    simp only [lend] at hl
    split at hl
    · rename_i l hls
      simp only [Option.some.injEq] at hl
      subst hl
      obtain ⟨ca,e,hv⟩:=hv
      exact ⟨ca,e,VRs_lends hg hlive cs _ _ hls hv⟩
    · cases hl
  | .fn f cs,_,_,hl,hv=>by
    simp only [lend] at hl
    split at hl
    · rename_i l hls
      simp only [Option.some.injEq] at hl
      subst hl
      obtain ⟨ca,e,hv⟩:=hv
      exact ⟨ca,e,VRs_lends hg hlive cs _ _ hls hv⟩
    · cases hl
  | .nilS,_,c,hl,hv=>by
    simp only [lend,Option.some.injEq] at hl
    subst hl
    have hv:c = .slice none 0 0:=hv
    exact ⟨none,0,hv,Nat.le_refl _,.inl rfl⟩
  | .sl s n g,_,_,hl,hv=>by
    simp only [lend,Option.some.injEq] at hl
    subst hl
    exact VR_free (.sl s n g) _ rfl (VR.mono (S':=lentS S κ h) (w':=w) (fun b hb=>⟨Or.inl hb,rfl⟩) (.sl s n g) κ κ _ (fun _ _ h=>h) hv)
  | .slr s n m g,_,_,hl,hv=>by
    simp only [lend,Option.some.injEq] at hl
    subst hl
    exact VR_free (.slr s n m g) _ rfl (VR.mono (S':=lentS S κ h) (w':=w) (fun b hb=>⟨Or.inl hb,rfl⟩) (.slr s n m g) κ κ _ (fun _ _ h=>h) hv)
  | .pp v,_,_,hl,hv=>by
    simp only [lend,Option.some.injEq] at hl
    subst hl
    exact VR_free (.pp v) _ rfl (VR.mono (S':=lentS S κ h) (w':=w) (fun b hb=>⟨Or.inl hb,rfl⟩) (.pp v) κ κ _ (fun _ _ h=>h) hv)
  | .ptr id 0,_,c,hl,hv=>by
    simp only [lend] at hl
    split at hl
    · rename_i cs hh
      split at hl
      · rename_i hf
        simp only [Option.some.injEq] at hl
        subst hl
        obtain ⟨g,e,ca,hk,hgw,hvs⟩:=hg.blk id _ hh
        obtain ⟨g',hk',hc⟩:=hv
        rw [hk] at hk'
        simp at hk'
        subst hk'
        have hown:ownB κ h id g:=(ownB_of hh).2 (by rw [hk]; rfl)
        refine ⟨g,0,.agg ca,hc,⟨ca.toList,by simp,VRs_free cs _ hf (VR.mono_go (S':=lentS S κ h) (fun b hb=>⟨Or.inl hb,rfl⟩) cs κ κ _ (fun _ _ h=>h) hvs)⟩,fun j u hj=>⟨.inr ⟨id,hown⟩,?_⟩⟩
        have hj:ca.toList[j]? = some u:=hj
        rw [Nat.zero_add,cell_of_row w g _ ca e (0,0) hgw]
        rw [Array.getElem?_toList] at hj
        exact hj
      · cases hl
    · cases hl
  | .ptr _ (_+1),_,_,hl,_=>by cases hl
  | .ref id,_,_,hl,hv=>by
    simp only [lend] at hl
    split at hl
    · rename_i e s n g hh
      simp only [Option.some.injEq] at hl
      subst hl
      obtain ⟨hs0,c0,xs,hk,ho,he⟩:=blk_row (st:=⟨[],h⟩) hg hh
      obtain ⟨hk',_⟩:=hv
      rw [hk] at hk'
      simp at hk'
      subst hk'
      exact sl_of_row ho he (fun b hb=>.inl hb) fun b hb=>.inr ⟨id,(ownB_of hh).2 (by rw [hk]; exact hb)⟩
    · cases hl
  | .jref id,_,_,hl,hv=>by
    simp only [lend] at hl
    split at hl
    · rename_i j hh
      simp only [Option.some.injEq] at hl
      subst hl
      obtain ⟨c0,ms,xs,hk,hj⟩:=blk_jag (st:=⟨[],h⟩) hg hh
      obtain ⟨ms',hk',_⟩:=hv
      rw [hk] at hk'
      obtain ⟨rfl,rfl⟩:=tuple_inj hk'
      exact sl_of_jag hj (jagsLive_spec hlive id j hh) (fun b hb=>.inl hb) fun b hb=>.inr ⟨id,(ownB_of hh).2 (by rw [hk]; exact hb)⟩
    · cases hl
  | .mref id i,_,_,hl,hv=>by
    simp only [lend] at hl
    split at hl
    · rename_i j hh
      simp only [Option.some.injEq] at hl
      subst hl
      obtain ⟨c0,ms,xs,hk,hj⟩:=blk_jag (st:=⟨[],h⟩) hg hh
      obtain ⟨o',ms',hk',hm,_⟩:=hv
      rw [hk] at hk'
      obtain ⟨rfl,rfl⟩:=tuple_inj hk'
      obtain ⟨_,ys,ho,he⟩:=hj.mem hm (jagsLive_spec hlive id j hh i (hj.lt hm))
      exact sl_of_row ho he (fun b hb=>.inl hb) fun b hb=>.inr ⟨id,(ownB_of hh).2 (by rw [hk]; exact inJag_mem hm hb)⟩
    · cases hl
  | .ept _ _ _ _,_,_,hl,_=>by cases hl
  | .jept _ _ _ _,_,_,hl,_=>by cases hl
  | .mept _ _ _ _ _,_,_,hl,_=>by cases hl
  | .und,_,_,hl,_=>by cases hl
theorem VRs_lends (hg:Good κ S h w) (hlive:jagsLive h = true):∀ (vs vs':List V) (l:List Value),lend.lends h vs = some vs'->VRs S w vs κ l->VRs (lentS S κ h) w vs' noK l
  | [],_,_,hl,hv=>by simp only [lend.lends,Option.some.injEq] at hl; subst hl; exact hv
  | v :: vs,_,_,hl,hv=>by
    simp only [lend.lends] at hl
    split at hl
    · rename_i a b ha hb
      simp only [Option.some.injEq] at hl
      subst hl
      obtain ⟨x,l',e,h1,h2⟩:=hv
      exact ⟨x,l',e,VR_lend hg hlive v _ _ ha h1,VRs_lends hg hlive vs _ _ hb h2⟩
    · cases hl
end
mutual
theorem VR_lend_free:∀ (v v':V) (c:Value),free v = true->lend h v = some v'->VR S w v κ c->VR S w v' noK c
  | .val _,_,_,_,hl,hv=>by simp only [lend,Option.some.injEq] at hl; subst hl; exact hv
  | .str _,_,_,_,hl,hv=>by simp only [lend,Option.some.injEq] at hl; subst hl; exact hv
  | .agg cs,_,_,hf,hl,hv=>by
    simp only [lend] at hl
    split at hl
    · rename_i l hls
      simp only [Option.some.injEq] at hl
      subst hl
      obtain ⟨ca,e,hv⟩:=hv
      exact ⟨ca,e,VRs_lend_free cs _ _ hf hls hv⟩
    · cases hl
  | .tup cs,_,_,hf,hl,hv=>by
    simp only [lend] at hl
    split at hl
    · rename_i l hls
      simp only [Option.some.injEq] at hl
      subst hl
      obtain ⟨ca,e,hv⟩:=hv
      exact ⟨ca,e,VRs_lend_free cs _ _ hf hls hv⟩
    · cases hl
  | .fn f cs,_,_,hf,hl,hv=>by
    simp only [lend] at hl
    split at hl
    · rename_i l hls
      simp only [Option.some.injEq] at hl
      subst hl
      obtain ⟨ca,e,hv⟩:=hv
      exact ⟨ca,e,VRs_lend_free cs _ _ hf hls hv⟩
    · cases hl
  | .nilS,_,c,_,hl,hv=>by
    simp only [lend,Option.some.injEq] at hl
    subst hl
    have hv:c = .slice none 0 0:=hv
    exact ⟨none,0,hv,Nat.le_refl _,.inl rfl⟩
  | .sl s n g,_,_,_,hl,hv=>by
    simp only [lend,Option.some.injEq] at hl
    subst hl
    exact VR_free (.sl s n g) _ rfl hv
  | .slr s n m g,_,_,_,hl,hv=>by
    simp only [lend,Option.some.injEq] at hl
    subst hl
    exact VR_free (.slr s n m g) _ rfl hv
  | .pp v,_,_,_,hl,hv=>by
    simp only [lend,Option.some.injEq] at hl
    subst hl
    exact VR_free (.pp v) _ rfl hv
  | .ptr _ _,_,_,hf,_,_=>by cases hf
  | .ref _,_,_,hf,_,_=>by cases hf
  | .ept _ _ _ _,_,_,hf,_,_=>by cases hf
  | .jref _,_,_,hf,_,_=>by cases hf
  | .jept _ _ _ _,_,_,hf,_,_=>by cases hf
  | .mref _ _,_,_,hf,_,_=>by cases hf
  | .mept _ _ _ _ _,_,_,hf,_,_=>by cases hf
  | .und,_,_,_,hl,_=>by cases hl
theorem VRs_lend_free:∀ (vs vs':List V) (l:List Value),free.frees vs = true->lend.lends h vs = some vs'->VRs S w vs κ l->VRs S w vs' noK l
  | [],_,_,_,hl,hv=>by simp only [lend.lends,Option.some.injEq] at hl; subst hl; exact hv
  | v :: vs,_,_,hf,hl,hv=>by
    simp only [free.frees] at hf
    split at hf
    · rename_i hfv
      simp only [lend.lends] at hl
      split at hl
      · rename_i a b ha hb
        simp only [Option.some.injEq] at hl
        subst hl
        obtain ⟨x,l',e,h1,h2⟩:=hv
        exact ⟨x,l',e,VR_lend_free v _ _ hfv ha h1,VRs_lend_free vs _ _ hf hb h2⟩
      · cases hl
    · cases hf
end
mutual
theorem VR_bare {S':Nat->Prop} {w':World}:∀ (v:V) (κ:Nat->Option Value) (c:Value),bare v = true->VR S w v κ c->VR S' w' v κ c
  | .val _,_,_,_,hv=>hv
  | .str _,_,_,_,hv=>hv
  | .agg cs,_,_,hb,hv=>by
    obtain ⟨ca,e,hv⟩:=hv
    exact ⟨ca,e,VRs_bare cs _ _ hb hv⟩
  | .tup cs,_,_,hb,hv=>by
    obtain ⟨ca,e,hv⟩:=hv
    exact ⟨ca,e,VRs_bare cs _ _ hb hv⟩
  | .fn f cs,_,_,hb,hv=>by
    obtain ⟨ca,e,hv⟩:=hv
    exact ⟨ca,e,VRs_bare cs _ _ hb hv⟩
  | .nilS,_,_,_,hv=>hv
  | .sl _ _ _,_,_,hb,_=>by cases hb
  | .slr _ _ _ _,_,_,hb,_=>by cases hb
  | .pp _,_,_,hb,_=>by cases hb
  | .ptr _ _,_,_,_,hv=>hv
  | .ref _,_,_,_,hv=>hv
  | .ept _ _ _ _,_,_,_,hv=>hv
  | .jref _,_,_,_,hv=>hv
  | .jept _ _ _ _,_,_,_,hv=>hv
  | .mref _ _,_,_,_,hv=>hv
  | .mept _ _ _ _ _,_,_,_,hv=>hv
  | .und,_,_,_,_=>trivial
theorem VRs_bare {S':Nat->Prop} {w':World}:∀ (vs:List V) (κ:Nat->Option Value) (l:List Value),bare.bares vs = true->VRs S w vs κ l->VRs S' w' vs κ l
  | [],_,_,_,hv=>hv
  | v :: vs,_,_,hb,hv=>by
    simp only [bare.bares] at hb
    split at hb
    · rename_i hbv
      obtain ⟨x,l',e,h1,h2⟩:=hv
      exact ⟨x,l',e,VR_bare v _ _ hbv h1,VRs_bare vs _ _ hb h2⟩
    · cases hb
end
def behindK (κ κ':Nat->Option Value) (n:Nat):Nat->Option Value:=fun i=>if i < n then κ i else κ' (i - n)
mutual
theorem VR_shift {n:Nat} {κ':Nat->Option Value}:∀ (v:V) (c:Value),VR S w v κ' c->VR S w (shift n v) (behindK κ κ' n) c
  | .val _,_,hv=>hv
  | .str _,_,hv=>hv
  | .agg cs,_,hv=>by
    obtain ⟨ca,e,hv⟩:=hv
    exact ⟨ca,e,VRs_shifts cs _ hv⟩
  | .tup cs,_,hv=>by
    obtain ⟨ca,e,hv⟩:=hv
    exact ⟨ca,e,VRs_shifts cs _ hv⟩
  | .fn f cs,_,hv=>by
    obtain ⟨ca,e,hv⟩:=hv
    exact ⟨ca,e,VRs_shifts cs _ hv⟩
  | .nilS,_,hv=>hv
  | .sl _ _ _,_,hv=>hv
  | .slr _ _ _ _,_,hv=>hv
  | .pp _,_,hv=>hv
  | .ptr id o,_,hv=>by
    obtain ⟨g,h1,h2⟩:=hv
    exact ⟨g,by show behindK κ κ' n (n+id) = _; unfold behindK; rw [if_neg (by omega),Nat.add_sub_cancel_left]; exact h1,h2⟩
  | .ref id,_,hv=>⟨by show behindK κ κ' n (n+id) = _; unfold behindK; rw [if_neg (by omega),Nat.add_sub_cancel_left]; exact hv.1,hv.2⟩
  | .ept id s i o,_,hv=>by
    obtain ⟨g,m,cap,h1,h2⟩:=hv
    exact ⟨g,m,cap,by show behindK κ κ' n (n+id) = _; unfold behindK; rw [if_neg (by omega),Nat.add_sub_cancel_left]; exact h1,h2⟩
  | .jref id,_,hv=>by
    obtain ⟨ms,h1,h2⟩:=hv
    exact ⟨ms,by show behindK κ κ' n (n+id) = _; unfold behindK; rw [if_neg (by omega),Nat.add_sub_cancel_left]; exact h1,h2⟩
  | .jept id s i o,_,hv=>by
    obtain ⟨g,m,cap,ms,h1,h2⟩:=hv
    exact ⟨g,m,cap,ms,by show behindK κ κ' n (n+id) = _; unfold behindK; rw [if_neg (by omega),Nat.add_sub_cancel_left]; exact h1,h2⟩
  | .mref id i,_,hv=>by
    obtain ⟨o,ms,h1,h2⟩:=hv
    exact ⟨o,ms,by show behindK κ κ' n (n+id) = _; unfold behindK; rw [if_neg (by omega),Nat.add_sub_cancel_left]; exact h1,h2⟩
  | .mept id i s k o,_,hv=>by
    obtain ⟨o,ms,g,m,cap,h1,h2⟩:=hv
    exact ⟨o,ms,g,m,cap,by show behindK κ κ' n (n+id) = _; unfold behindK; rw [if_neg (by omega),Nat.add_sub_cancel_left]; exact h1,h2⟩
  | .und,_,_=>trivial
theorem VRs_shifts {n:Nat} {κ':Nat->Option Value}:∀ (vs:List V) (l:List Value),VRs S w vs κ' l->VRs S w (shift.shifts n vs) (behindK κ κ' n) l
  | [],_,hv=>hv
  | v :: vs,_,hv=>by
    obtain ⟨x,l',e,h1,h2⟩:=hv
    exact ⟨x,l',e,VR_shift v _ h1,VRs_shifts vs _ h2⟩
end
theorem rowsBare_spec:∀ {l:List Blk},rowsBare l = true->∀ (i:Nat) (b:Blk),l[i]? = some b->(∃ e s n g,b = .row e s n g ∧ ∀ i,i < n->bare (g i) = true) ∨
    ∃ j,b = .jag j ∧ ∀ i,i < j.n->bare (j.get i) = true ∧ ∀ k,k < j.len i->bare (j.mem i k) = true
  | [],_,i,b,hi=>by simp at hi
  | .row e s n g :: l,hb,i,b,hi=>by
    simp only [rowsBare,Bool.and_eq_true] at hb
    cases i with
    | zero =>
      simp at hi
      subst hi
      refine .inl ⟨e,s,n,g,rfl,fun i hi=>?_⟩
      exact List.all_eq_true.1 hb.1 i (by simpa using hi)
    | succ i=>exact rowsBare_spec hb.2 i b (by simpa using hi)
  | .jag j :: l,hb,i,b,hi=>by
    simp only [rowsBare,Bool.and_eq_true] at hb
    cases i with
    | zero =>
      simp at hi
      subst hi
      refine .inr ⟨j,rfl,fun i hi=>?_⟩
      have:=List.all_eq_true.1 hb.1 i (by simpa using hi)
      rw [Bool.and_eq_true] at this
      exact ⟨this.1,fun k hk=>List.all_eq_true.1 this.2 k (by simpa using hk)⟩
    | succ i=>exact rowsBare_spec hb.2 i b (by simpa using hi)
  | .cells _ :: _,hb,_,_,_=>by cases hb
  | .saved _ :: _,hb,_,_,_=>by cases hb
  | .imap _ _ _ :: _,hb,_,_,_=>by cases hb
  | .xrow _ _ _ _ _ :: _,hb,_,_,_=>by cases hb
  | .dead :: _,hb,_,_,_=>by cases hb
end
theorem Good.join {S S1 S2:Nat->Prop} {w w':World} {κ κ1:Nat->Option Value} {h h1:List Blk} (hg:Good κ S h w) (hg1:Good κ1 S1 h1 w')
    (hw:∀ b,b < w.heap.size->w'.heap[b]? = w.heap[b]?) (hnew:∀ i b,ownB κ1 h1 i b->w.heap.size <= b)
    (hold:∀ b,S b->S2 b) (hout:∀ b,S2 b->b < w'.heap.size ∧ (∀ i,¬ ownB κ h i b) ∧ ∀ i,¬ ownB κ1 h1 i b)
    (hblk:∀ i b,h1[i]? = some b->Holds S2 w' (behindK κ κ1 h.length) (κ1 i) b) :
    Good (behindK κ κ1 h.length) S2 (h ++ h1) w' ∧ (∀ id c,κ id = some c->behindK κ κ1 h.length id = some c) ∧
      ∀ i b,ownB (behindK κ κ1 h.length) (h ++ h1) i b->(∃ j,ownB κ h j b) ∨ (∃ j,ownB κ1 h1 j b):=by
  have hk:∀ id c,κ id = some c->behindK κ κ1 h.length id = some c:=by
    intro id c hc
    unfold behindK
    rw [if_pos]
    · exact hc
    · rcases Nat.lt_or_ge id h.length with hl | hl
      · exact hl
      · rw [hg.dom id hl] at hc; cases hc
  have own1:∀ i,i < h.length->∀ k,ownB (behindK κ κ1 h.length) (h ++ h1) i k ↔ ownB κ h i k:=by
    intro i hi k
    unfold ownB behindK
    rw [List.getElem?_append_left hi,if_pos hi]
  have own2:∀ i,h.length <= i->∀ k,ownB (behindK κ κ1 h.length) (h ++ h1) i k ↔ ownB κ1 h1 (i - h.length) k:=by
    intro i hi k
    unfold ownB behindK
    rw [List.getElem?_append_right hi,if_neg (by omega)]
  have hS:∀ b,S b->S2 b ∧ w'.heap[b]? = w.heap[b]?:=fun b hb=>⟨hold b hb,hw b (hg.out b hb).1⟩
  refine ⟨⟨?_,?_,?_,?_⟩,hk,?_⟩
  · intro i b hi
    rcases Nat.lt_or_ge i h.length with hl | hl
    · rw [List.getElem?_append_left hl] at hi
      have:behindK κ κ1 h.length i = κ i:=by unfold behindK; rw [if_pos hl]
      rw [this]
      exact (hg.blk i b hi).mono hS hk fun k hk'=>hw k ((hg.blk i b hi).lt hk')
    · rw [List.getElem?_append_right hl] at hi
      have:behindK κ κ1 h.length i = κ1 (i - h.length):=by unfold behindK; rw [if_neg (by omega)]
      rw [this]
      exact hblk _ b hi
  · intro i j g hij hi hj
    rcases Nat.lt_or_ge i h.length with hl | hl
    · rw [own1 i hl] at hi
      rcases Nat.lt_or_ge j h.length with hl' | hl'
      · rw [own1 j hl'] at hj
        exact hg.sep i j g hij hi hj
      · rw [own2 j hl'] at hj
        have:=hg.lt hi
        have:=hnew _ _ hj
        omega
    · rw [own2 i hl] at hi
      rcases Nat.lt_or_ge j h.length with hl' | hl'
      · rw [own1 j hl'] at hj
        have:=hg.lt hj
        have:=hnew _ _ hi
        omega
      · rw [own2 j hl'] at hj
        exact hg1.sep _ _ g (by omega) hi hj
  · intro b hb
    obtain ⟨q1,q2,q3⟩:=hout b hb
    refine ⟨q1,fun i hi=>?_⟩
    rcases Nat.lt_or_ge i h.length with hl | hl
    · rw [own1 i hl] at hi; exact q2 i hi
    · rw [own2 i hl] at hi; exact q3 _ hi
  · intro i hi
    simp at hi
    unfold behindK
    rw [if_neg (by omega)]
    exact hg1.dom _ (by omega)
  · intro i b hi
    rcases Nat.lt_or_ge i h.length with hl | hl
    · rw [own1 i hl] at hi; exact .inl ⟨i,hi⟩
    · rw [own2 i hl] at hi; exact .inr ⟨_,hi⟩
theorem after_rows {h l:List Blk} (hl:RowsB l):after h l = h ++ l:=by
  unfold after
  split
  · simp
  · exact absurd rfl (hl 0 _ rfl).live
  · rfl
theorem Ext.join {κ κ1:Nat->Option Value} {S S2:Nat->Prop} {h h1:List Blk} {w w':World} (hg:Good κ S h w) (os:w'.os = w.os) (tape:w'.tape = w.tape) (output:w'.output = w.output) (size:w.heap.size <= w'.heap.size)
    (hkeep:∀ b,b < w.heap.size->w'.heap[b]? = w.heap[b]?) (hnew:∀ i b,ownB κ1 h1 i b->w.heap.size <= b)
    (j3:∀ i b,ownB (behindK κ κ1 h.length) (h ++ h1) i b->(∃ j,ownB κ h j b) ∨ (∃ j,ownB κ1 h1 j b))
    (sub:∀ b,S2 b->S b ∨ (∃ j,ownB κ h j b) ∨ w.heap.size <= b) (sup:∀ b,S b->S2 b) (rows:RowsB h1):Ext κ S h w (behindK κ κ1 h.length) S2 (h ++ h1) w':=by
  refine ⟨os,tape,output,size,fun b hb _=>hkeep b hb,fun i b hi=>(j3 i b hi).elim .inl (fun ⟨j,hj⟩=>.inr (hnew j b hj)),sub,sup,pre_of size (fun b hb _=>hkeep b hb) ?_
    (fun i e s n g b hi hb=>Kept.same (hkeep b (hg.lt hb))),?_⟩
  · intro i b hi hb
    rcases Nat.lt_or_ge i h.length with hl | hl
    · refine ⟨i,?_,fun e s n g hh=>⟨e,s,n,g,by rw [List.getElem?_append_left hl]; exact hh,Nat.le_refl _⟩⟩
      unfold ownB behindK at hi
      rw [List.getElem?_append_left hl,if_pos hl] at hi
      exact hi
    · have:ownB κ1 h1 (i - h.length) b:=by
        unfold ownB behindK at hi
        rw [List.getElem?_append_right hl,if_neg (by omega)] at hi
        exact hi
      have:=hnew _ _ this
      omega
  · intro i bl hi hf
    rcases Nat.lt_or_ge i h.length with hl | hl
    · rw [List.getElem?_append_left hl] at hi
      exact ⟨by unfold behindK; rw [if_pos hl],bl,hi,FixedAs.refl hf⟩
    · rw [List.getElem?_append_right hl] at hi
      exact absurd hf (rows _ _ hi).notFixed
theorem callF_ok {P:Program} {G:Nat->V} {f:FuncId} {F:List V->T (V × List Blk)} (hp:PureX P G f F) {κ:Nat->Option Value} {S:Nat->Prop} {h:List Blk} {w:World} {vs:List V} {cs:List Value}
    {v:V} {h':List Blk} (hg:Good κ S h w) (hE:EnvG G S w) (hv:VRs S w vs κ cs) (hlive:free.frees vs = true ∨ jagsLive h = true) (he:(callF F vs h).sem = some (v,h')) :
    Gives P f cs w fun e w'=>∃ c κ' S',e = .returned c ∧ Good κ' S' (after h h') w' ∧ VR S' w' v κ' c ∧ Ext κ S h w κ' S' (after h h') w' ∧ ∀ id c,κ id = some c->κ' id = some c:=by
  unfold callF at he
  split at he
  · cases he
  · rename_i vs' hl
    obtain ⟨⟨r,hr⟩,h1,h2⟩:=sem_bind_some he
    split at h2
    · rename_i hfree
      have:=sem_leaf h2
      simp only [Prod.mk.injEq] at this
      obtain ⟨rfl,rfl⟩:=this
      have hS:∀ b,S b->b < w.heap.size:=fun b hb=>(hg.out b hb).1
      obtain ⟨hrows,hcalls⟩:=hp vs' cs S w r h' hS hE (VRs_lend_free vs vs' cs hfree hl hv) h1
      refine hcalls.mono ?_
      rintro e w' ⟨c,κ1,S1,rfl,g1,g2,g3⟩
      have hkeep:∀ b,b < w.heap.size->w'.heap[b]? = w.heap[b]?:=fun b hb=>g3.keep b hb (fun i=>ownB_nil _ _ _)
      have hnew:∀ i b,ownB κ1 h' i b->w.heap.size <= b:=fun i b hi=>(g3.own i b hi).elim (fun ⟨j,hj⟩=>absurd hj (ownB_nil _ _ _)) id
      have hfar:∀ b,S1 b->∀ i,¬ ownB κ h i b:=fun b hb i hi=>by
        rcases g3.sub b hb with q | ⟨j,hj⟩ | q
        · exact (hg.out b q).2 i hi
        · exact ownB_nil _ _ _ hj
        · have:=hg.lt hi; omega
      obtain ⟨j1,j2,j3⟩:=Good.join (S2:=S1) hg g1 hkeep hnew g3.sup (fun b hb=>⟨(g1.out b hb).1,hfar b hb,(g1.out b hb).2⟩)
        (fun i b hb=>by
          have:=g1.blk i b hb
          rcases hrows i b hb with ⟨e',s,n,g,rfl⟩ | ⟨j,rfl⟩ <;> exact this)
      rw [after_rows hrows]
      exact ⟨c,_,S1,rfl,j1,VR_shift r c g2,Ext.join hg g3.os g3.tape g3.output g3.size hkeep hnew j3
        (fun b hb=>(g3.sub b hb).elim .inl (fun q=>q.elim (fun ⟨j,hj⟩=>absurd hj (ownB_nil _ _ _)) (fun q=>.inr (.inr q)))) g3.sup hrows,j2⟩
    · rename_i hnf
      split at h2
      · cases h2
      · rename_i hbare
        have hlS:∀ b,lentS S κ h b->b < w.heap.size:=fun b hb=>hb.elim (fun hb=>(hg.out b hb).1) fun ⟨i,hi⟩=>hg.lt hi
        have hlE:EnvG G (lentS S κ h) w:=fun g=>VR.mono (S':=lentS S κ h) (w':=w) (fun b hb=>⟨Or.inl hb,rfl⟩) (G g) noK noK _ (fun _ _ h=>h) (hE g)
        obtain ⟨hrows,hcalls⟩:=hp vs' cs (lentS S κ h) w r hr hlS hlE (VRs_lends hg (hlive.elim (fun q=>by rw [q] at hnf; cases hnf) (fun q=>q)) vs vs' cs hl hv) h1
        have key:shift h.length r = v ∧ hr = h' ∧ rowsBare hr = true:=by
          split at h2
          · have:=sem_leaf h2
            simp only [Prod.mk.injEq] at this
            rename_i hnil
            have hnil:hr = []:=hnil
            exact ⟨this.1.symm,by rw [this.2,hnil],by rw [hnil]; rfl⟩
          · rename_i b l hcons
            have hcons:hr = b :: l:=hcons
            obtain ⟨hc,h3⟩:=sem_br_fail h2
            have:=sem_leaf h3
            simp only [Prod.mk.injEq] at this
            exact ⟨this.1.symm,by rw [this.2,hcons],by rw [hcons]; exact hc⟩
        obtain ⟨rfl,rfl,hrb⟩:=key
        refine hcalls.mono ?_
        rintro e w' ⟨c,κ1,S1,rfl,g1,g2,g3⟩
        have hkeep:∀ b,b < w.heap.size->w'.heap[b]? = w.heap[b]?:=fun b hb=>g3.keep b hb (fun i=>ownB_nil _ _ _)
        have hnew:∀ i b,ownB κ1 hr i b->w.heap.size <= b:=fun i b hi=>(g3.own i b hi).elim (fun ⟨j,hj⟩=>absurd hj (ownB_nil _ _ _)) id
        obtain ⟨j1,j2,j3⟩:=Good.join (S2:=S) hg g1 hkeep hnew (fun _ h=>h)
          (fun b hb=>⟨(g1.out b (g3.sup b (.inl hb))).1,(hg.out b hb).2,(g1.out b (g3.sup b (.inl hb))).2⟩)
          (fun i b hb=>by
            have:=g1.blk i b hb
            rcases rowsBare_spec hrb i b hb with ⟨e',s,n,g,rfl,hbs⟩ | ⟨j,rfl,hbs⟩
            · obtain ⟨q0,cc,xs,q1,q2,q3⟩:=this
              refine ⟨q0,cc,xs,q1,q2,fun i hi=>?_⟩
              obtain ⟨ci,p1,p2,p3,p4⟩:=q3 i hi
              exact ⟨ci,VR_bare _ _ _ (hbs i hi) p1,p2,p3,p4⟩
            · obtain ⟨cc,ms,xs,q1,z1,z2,z3,z4,z5,z6,z7,z8,z9⟩:=this
              refine ⟨cc,ms,xs,q1,z1,z2,z3,z4,z5,z6,fun i hi=>?_,fun i m hm=>?_,z9⟩
              · obtain ⟨ci,p1,p2,p3,p4⟩:=z7 i hi
                exact ⟨ci,VR_bare _ _ _ (hbs i hi).1 p1,p2,p3,p4⟩
              · have hin:i < j.n:=by rw [<- z4]; exact (Array.getElem?_eq_some_iff.1 hm).1
                have:=z8 i m hm
                unfold MemR at this ⊢
                split
                · rename_i hlv
                  rw [hlv] at this
                  obtain ⟨y1,ys,y2,y3⟩:=this
                  refine ⟨y1,ys,y2,fun k hk=>?_⟩
                  obtain ⟨ci,p1,p2,p3,p4⟩:=y3 k hk
                  exact ⟨ci,VR_bare _ _ _ ((hbs i hin).2 k hk) p1,p2,p3,p4⟩
                · rename_i hlv
                  rw [hlv] at this
                  exact this)
        rw [after_rows hrows]
        exact ⟨c,_,S,rfl,j1,VR_shift r c (VR_bare r _ _ hbare g2),Ext.join hg g3.os g3.tape g3.output g3.size hkeep hnew j3 (fun b hb=>.inl hb) (fun _ h=>h) hrows,j2⟩
theorem lookN_spec {α:Type} {f:Nat} {x:α}:∀ {l:List (Nat × α)},lookN f l = some x->(f,x) ∈ l
  | [],h=>by cases h
  | (k,y) :: l,h=>by
    simp only [lookN] at h
    split at h
    · rename_i hk
      have hk:k = f:=Nat.eq_of_beq_eq_true hk
      simp only [Option.some.injEq] at h
      subst h
      subst hk
      exact List.mem_cons_self ..
    · exact List.mem_cons_of_mem _ (lookN_spec h)
def AllPure (P:Program) (G:Nat->V) (tbl:List (Nat × (List V->T (V × List Blk)))):Prop:=∀ p,p ∈ tbl->PureX P G p.1 p.2
theorem AllPure.nil {P:Program} {G:Nat->V}:AllPure P G []:=fun _ h=>by cases h
theorem AllPure.cons {P:Program} {G:Nat->V} {f:Nat} {F:List V->T (V × List Blk)} {tbl:List (Nat × (List V->T (V × List Blk)))} (h:PureC P G f F) (ht:AllPure P G tbl):AllPure P G ((f,F) :: tbl):=fun p hp=>by
  rcases List.mem_cons.1 hp with rfl | hp
  · exact h.x
  · exact ht p hp
theorem AllPure.consX {P:Program} {G:Nat->V} {f:Nat} {F:List V->T (V × List Blk)} {tbl:List (Nat × (List V->T (V × List Blk)))} (h:PureX P G f F) (ht:AllPure P G tbl):AllPure P G ((f,F) :: tbl):=fun p hp=>by
  rcases List.mem_cons.1 hp with rfl | hp
  · exact h
  · exact ht p hp
theorem callL_ok {P:Program} {G:Nat->V} {f:FuncId} {F:List V->T (V × List Blk)} (hp:PureX P G f F) {κ:Nat->Option Value} {S:Nat->Prop} {h:List Blk} {w:World} {vs:List V} {cs:List Value}
    {v:V} {h':List Blk} (hg:Good κ S h w) (hE:EnvG G S w) (hv:VRs S w vs κ cs) (he:(callL F vs h).sem = some (v,h')) :
    Gives P f cs w fun e w'=>∃ c κ' S',e = .returned c ∧ Good κ' S' (after h h') w' ∧ VR S' w' v κ' c ∧ Ext κ S h w κ' S' (after h h') w' ∧ ∀ id c,κ id = some c->κ' id = some c:=by
  unfold callL at he
  split at he
  · rename_i hj
    exact callF_ok hp hg hE hv (.inr (noJag_live hj)) he
  · split at he
    · rename_i hf
      exact callF_ok hp hg hE hv (.inl hf) he
    · obtain ⟨h1,h2⟩:=sem_br_fail he
      exact callF_ok hp hg hE hv (.inr h1) h2
theorem moreT_some {t:T (V × List Blk)} {v:V} {r:Res} (h:(moreT t).sem = some (v,r)):∃ l,r = .more l ∧ t.sem = some (v,l):=by
  obtain ⟨⟨v',l⟩,h1,h2⟩:=sem_bind_some h
  have:=sem_leaf h2
  simp only [Prod.mk.injEq] at this
  obtain ⟨rfl,rfl⟩:=this
  exact ⟨l,rfl,h1⟩
theorem callT_ok {P:Program} {Γ:Cx0} {tbl:List (Nat × (List V->T (V × List Blk)))} (hc:Γ.call = callT tbl) (ht:AllPure P Γ.glob tbl):CallOK P Γ:=by
  intro f vs cs κ S st l w v r hg hE hv _ he
  rw [hc] at he
  unfold callT at he
  split at he
  · rename_i F hF
    obtain ⟨l2,rfl,he2⟩:=moreT_some he
    exact callL_ok (ht _ (lookN_spec hF)) hg hE hv he2
  · cases he
theorem LE_say {Γ:Cx0} {st:St} {i:Nat} {b b':Blk} (hi:st.h[i]? = some b) (hin:∀ v g,inBlk v g b'->inBlk v g b) (hnf:¬ Fixed b) (hnf':¬ Fixed b') (hnx:∀ e s n g,b ≠ .xrow true e s n g)
    (hH:∀ (κ:Nat->Option Value) (S:Nat->Prop) (w:World) (v:Option Value),Holds S w κ v b->Holds S w κ v b'):LE Γ st ⟨st.t,st.h.set i b'⟩:=by
  intro κ S a w hr
  have hB:=hH κ S w _ (hr.good.blk i b hi)
  obtain ⟨h1,h2⟩:=hr.good.upd' (w':=w) hi (fun k hk=>hin _ k hk) (fun _ _ _=>rfl) (Nat.le_refl _) hB
  exact ⟨κ,S,⟨h1,hr.env,hr.tmps,hr.defers⟩,Ext.upd' hr.good hi rfl (fun _ _ _=>rfl) (Nat.le_refl _) rfl rfl rfl h2 hnx (fun hf=>absurd hf hnf')⟩
theorem LE_row {Γ:Cx0} {st:St} {i e s n:Nat} {g g':Nat->V} (hi:st.h[i]? = some (.row e s n g)) (hg:∀ j,j < n->g' j = g j):LE Γ st ⟨st.t,st.h.set i (.row e s n g')⟩ :=
  LE_say hi (fun _ _ h=>h) (IsRowB.notFixed (.inl ⟨_,_,_,_,rfl⟩)) (IsRowB.notFixed (.inl ⟨_,_,_,_,rfl⟩)) (fun _ _ _ _ h=>by cases h) fun κ S w v hB=>by
    obtain ⟨q0,c,xs,q1,q2,q3⟩:=hB
    exact ⟨q0,c,xs,q1,q2,fun k hk=>by rw [hg k hk]; exact q3 k hk⟩
theorem LE_jag {Γ:Cx0} {st:St} {i:Nat} {j:Jag} {get':Nat->V} {live':Nat->Bool} {len':Nat->Nat} {mem':Nat->Nat->V} (hi:st.h[i]? = some (.jag j)) (h1:∀ k,k < j.n->get' k = j.get k) (h2:∀ k,k < j.n->live' k = j.live k)
    (h3:∀ k,k < j.n->len' k = j.len k) (h4:∀ k,k < j.n->∀ q,q < j.len k->mem' k q = j.mem k q):LE Γ st ⟨st.t,st.h.set i (.jag { j with get:=get',live:=live',len:=len',mem:=mem' })⟩ :=
  LE_say hi (fun _ _ h=>h) (jag_notFixed _) (jag_notFixed _) (fun _ _ _ _ h=>by cases h) fun κ S w v hB=>by
    obtain ⟨c,ms,xs,q1,z1,z2,z3,z4,z5,z6,z7,z8,z9⟩:=hB
    refine ⟨c,ms,xs,q1,z1,z2,z3,z4,z5,z6,fun k hk=>?_,fun k m hm=>?_,z9⟩
    · show ∃ ci,VR S w (get' k) noK ci ∧ _
      rw [h1 k hk]
      exact z7 k hk
    · have hk:k < j.n:=by rw [<- z4]; exact (Array.getElem?_eq_some_iff.1 hm).1
      have:=z8 k m hm
      unfold MemR at this ⊢
      show (match live' k with | true=>_ | false=>_)
      rw [h2 k hk]
      split
      · rename_i hlv
        rw [hlv] at this
        obtain ⟨y1,ys,y2,y3⟩:=this
        refine ⟨y1,ys,by show w.ownsRow 0 j.e' j.s' m (len' k) ys; rw [h3 k hk]; exact y2,?_⟩
        show Elems S w j.s' (len' k) (mem' k) ys
        rw [h3 k hk]
        exact fun q hq=>by rw [h4 k hk q hq]; exact y3 q hq
      · rename_i hlv
        rw [hlv] at this
        exact this
theorem inlF_ok {P:Program} {τ:List Ty} (hτ:TabOK P τ) (hm:P.follows .mixedOrders = true) {Γ:Cx} (hΓ:CallOK P Γ.base) (hΛ:LoopOK Γ) {f:FuncId} {fn:Func} {c:Code} (hf:P.funcs[f]? = some fn)
    (hb:fn.body = some c) (hn:fn.name ≠ "runtime.NumGoroutine") {vs:List V} {cs:List Value} {κ:Nat->Option Value} {S:Nat->Prop} {st:St} {l:List Value} {w:World} {v:V} {r:Res} (hg:Good κ S st.h w) (hE:EnvOK Γ.base S w)
    (hv:VRs S w vs κ cs) (ht:VRs S w st.t κ l) (he:(inlF τ Γ fn vs st).sem = some (v,r)) :
    Gives P f cs w fun e w'=>∃ c κ' S',e = .returned c ∧ Good κ' S' (afterS st r).h w' ∧ VR S' w' v κ' c ∧ Ext κ S st.h w κ' S' (afterS st r).h w' ∧ Stays κ κ' S' w' l r:=by
  obtain ⟨⟨v',h'⟩,h1,h2⟩:=sem_bind_some he
  split at h2
  · rename_i t' hat
    have:=sem_leaf h2
    simp only [Prod.mk.injEq] at this
    obtain ⟨rfl,rfl⟩:=this
    have hB:Holds S w (addK κ st.h.length (.tuple l.toArray)) (some (.tuple l.toArray)) (.saved st.t):=⟨l,rfl,VR.mono_go (fun _ hb=>⟨hb,rfl⟩) _ _ _ _ (hg.addK_sub _) ht⟩
    have hg1:=hg.push' (w':=w) (.saved st.t) (.tuple l.toArray) (fun _ _=>rfl) (Nat.le_refl _) hB (fun _ h=>h.elim)
    have hv1:VRs S w vs (addK κ st.h.length (.tuple l.toArray)) cs:=VR.mono_go (fun _ hb=>⟨hb,rfl⟩) _ _ _ _ (hg.addK_sub _) hv
    refine .inl ⟨⟨fn,hf,hn,by rw [hb]; rfl⟩,(evalF_ok (P:=P) hτ hm hΓ hΛ hf hb hg1 hE hv1 h1).mono ?_⟩
    rintro e w' ⟨u,κ',S',rfl,g1,g2,g3⟩
    have hself:addK κ st.h.length (.tuple l.toArray) st.h.length = some (.tuple l.toArray):=by simp [addK]
    have hne:∀ i,i ≠ st.h.length->addK κ st.h.length (.tuple l.toArray) i = κ i:=fun i hi=>by unfold addK; rw [if_neg hi]
    have hown:∀ i k,ownB (addK κ st.h.length (.tuple l.toArray)) (st.h ++ [.saved st.t]) i k ↔ ownB κ st.h i k:=fun i k=>by
      rcases Nat.lt_trichotomy i st.h.length with hl | hl | hl
      · exact ownB_congr (List.getElem?_append_left hl) (hne i (by omega))
      · subst hl
        rw [ownB_of (b:=.saved st.t) (by simp)]
        exact ⟨fun h=>h.elim,fun h=>absurd h (ownB_none (List.getElem?_eq_none (Nat.le_refl _)))⟩
      · exact ⟨fun h=>absurd h (ownB_none (List.getElem?_eq_none (by simp; omega))),fun h=>absurd h (ownB_none (List.getElem?_eq_none (by omega)))⟩
    obtain ⟨hk1,b0,hk2,hk3⟩:=g3.fix st.h.length (.saved t') hat (.inr ⟨t',rfl⟩)
    obtain ⟨l',hl1,hl2⟩:=g1.blk st.h.length _ hat
    rw [hk1,hself] at hl1
    simp at hl1
    subst hl1
    obtain ⟨q1,q2⟩:=g1.upd' (w':=w') (b':=.dead) hat (fun _ h=>h.elim) (fun _ _ _=>rfl) (Nat.le_refl _) trivial
    refine ⟨u,κ',S',rfl,q1,g2,⟨g3.os,g3.tape,g3.output,g3.size,fun b hb hn=>g3.keep b hb fun i hi=>hn i ((hown i b).1 hi),fun i b hi=>?_,fun b hb=>?_,g3.sup,fun b p hs=>?_,fun i b hi hf=>?_⟩,hl2⟩
    · exact (g3.own i b (q2 i b hi)).imp (fun ⟨j,hj⟩=>⟨j,(hown j b).1 hj⟩) (fun h=>h)
    · exact (g3.sub b hb).imp (fun h=>h) (fun h=>h.imp (fun ⟨j,hj⟩=>⟨j,(hown j b).1 hj⟩) (fun h=>h))
    · have hs1:Safe (addK κ st.h.length (.tuple l.toArray)) (st.h ++ [.saved st.t]) w b p:=⟨hs.1,fun i hi=>by
        obtain ⟨e,s,n,g,hh,hp⟩:=hs.2 i ((hown i b).1 hi)
        exact ⟨e,s,n,g,by rw [List.getElem?_append_left (List.getElem?_eq_some_iff.1 hh).1]; exact hh,hp⟩⟩
      obtain ⟨p1,p2⟩:=g3.pre b p hs1
      refine ⟨⟨p1.1,fun i hi=>?_⟩,p2⟩
      obtain ⟨e,s,n,g,hh,hp⟩:=p1.2 i (q2 i b hi)
      have hi':i ≠ st.h.length:=fun e'=>by subst e'; rw [hat] at hh; cases hh
      exact ⟨e,s,n,g,by show (h'.set st.h.length .dead)[i]? = _; rw [List.getElem?_set_ne (Ne.symm hi')]; exact hh,hp⟩
    · have hi':i ≠ st.h.length:=fun e'=>by
        subst e'
        have hi:(h'.set st.h.length .dead)[st.h.length]? = some b:=hi
        rw [List.getElem?_set_self (List.getElem?_eq_some_iff.1 hat).1] at hi
        simp only [Option.some.injEq] at hi
        subst hi
        rcases hf with ⟨_,_,_,_,hf⟩ | ⟨_,hf⟩ <;> cases hf
      have hi:(h'.set st.h.length .dead)[i]? = some b:=hi
      rw [List.getElem?_set_ne (Ne.symm hi')] at hi
      obtain ⟨z1,b1,z2,z3⟩:=g3.fix i b hi hf
      refine ⟨by rw [z1,hne i hi'],b1,?_,z3⟩
      rcases Nat.lt_or_ge i st.h.length with hl | hl
      · rw [List.getElem?_append_left hl] at z2
        exact z2
      · rw [List.getElem?_eq_none (by simp; omega)] at z2
        cases z2
  · cases h2
def AllInl (P:Program) (G:Nat->V) (it:List (Nat × (List V->St->T (V × Res)))):Prop :=
  ∀ p,p ∈ it->∃ (τ:List Ty) (Γ:Cx) (fn:Func) (c:Code),p.2 = inlF τ Γ fn ∧ Γ.glob = G ∧ TabOK P τ ∧ CallOK P Γ.base ∧ LoopOK Γ ∧ P.funcs[p.1]? = some fn ∧ fn.body = some c ∧ fn.name ≠ "runtime.NumGoroutine"
theorem AllInl.nil {P:Program} {G:Nat->V}:AllInl P G []:=fun _ h=>by cases h
theorem AllInl.cons {P:Program} {G:Nat->V} {τ:List Ty} {Γ:Cx} {f:Nat} {fn:Func} {it:List (Nat × (List V->St->T (V × Res)))} (hG:Γ.glob = G) (hτ:TabOK P τ) (hΓ:CallOK P Γ.base) (hΛ:LoopOK Γ) (hf:P.funcs[f]? = some fn)
    (hb:fn.body.isSome = true) (hn:(fn.name == "runtime.NumGoroutine") = false) (ht:AllInl P G it):AllInl P G ((f,inlF τ Γ fn) :: it):=fun p hp=>by
  rcases List.mem_cons.1 hp with rfl | hp
  · obtain ⟨c,hc⟩:=Option.isSome_iff_exists.1 hb
    exact ⟨τ,Γ,fn,c,rfl,hG,hτ,hΓ,hΛ,hf,hc,by simpa using hn⟩
  · exact ht p hp
theorem callI_ok {P:Program} (hm:P.follows .mixedOrders = true) {G:Nat->V} {it:List (Nat × (List V->St->T (V × Res)))} {call:FuncId->List V->St->T (V × Res)} (hi:AllInl P G it) (hc:CallOK P ⟨call,G⟩):CallOK P ⟨callI it call,G⟩:=by
  intro f vs cs κ S st l w v r hg hE hv ht he
  have he:(callI it call f vs st).sem = some (v,r):=he
  unfold callI at he
  split at he
  · rename_i I hI
    obtain ⟨τ,Γ,fn,c,h1,h2,h3,h4,h5,h6,h7,h8⟩:=hi _ (lookN_spec hI)
    have h1:I = inlF τ Γ fn:=h1
    subst h1
    exact inlF_ok h3 hm h4 h5 h6 h7 h8 hg (by subst h2; exact hE) hv ht he
  · exact hc f vs cs κ S st l w v r hg hE hv ht he
end Go.Sy
