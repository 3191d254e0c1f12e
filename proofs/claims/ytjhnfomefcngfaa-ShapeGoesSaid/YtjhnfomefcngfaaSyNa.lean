/-
  Loads, and places in slices, come to the same in a world that differs elsewhere; stores change one block alone. No conditions.
-/
import Derived.Test.YtjhnfomefcngfaaSyN
import Derived.Laws.Panics
namespace Go.Sy
def Tame {α:Type} (P:Program) (w w':World) (s:Sem α):Prop:=∀ r w1,s.run P w = .ok r w1->w1 = w ∧ s.run P w' = .ok r w'
def IsC (w:World) (g:Nat):Prop:=∃ c t z,w.heap[g]? = some (.cells c t z)
def Only {α:Type} (P:Program) (g:Nat) (s:Sem α):Prop:=∀ w r w1,IsC w g->s.run P w = .ok r w1->IsC w1 g ∧ ∀ k,k ≠ g->w1.heap[k]? = w.heap[k]?
section
variable {α β:Type} {P:Program} {w w':World} {g:Nat}
theorem tame_pure (a:α):Tame P w w' (pure a):=by
  intro r w1 h
  simp only [Sem.run_pure,Result.ok.injEq] at h
  obtain ⟨rfl,rfl⟩:=h
  exact ⟨rfl,by simp⟩
theorem tame_stuck (m:String):Tame P w w' (stuck m:Sem α):=by
  intro r w1 h
  simp [stuck,Sem.run] at h
theorem tame_not (m:Unsupported):Tame P w w' (unsupported m:Sem α):=by
  intro r w1 h
  simp [unsupported,Sem.run] at h
theorem tame_bind {s:Sem α} {f:α->Sem β} (hs:Tame P w w' s) (hf:∀ r,Tame P w w' (f r)):Tame P w w' (s >>= f):=by
  intro r w1 h
  rw [Sem.run_bind] at h ⊢
  cases hr:s.run P w with
  | halt x w2=>rw [hr] at h; simp [Result.andThen] at h
  | ok a w2 =>
    rw [hr] at h
    obtain ⟨rfl,h2⟩:=hs a w2 hr
    rw [h2]
    exact hf a r w1 h
theorem tame_program:Tame P w w' program:=by
  intro r w1 h
  simp only [run_program,Result.ok.injEq] at h
  obtain ⟨rfl,rfl⟩:=h
  exact ⟨rfl,by simp⟩
theorem tame_typeInfo (t:TypeId):Tame P w w' (typeInfo t):=by
  unfold typeInfo
  refine tame_bind tame_program fun p=>?_
  split
  · exact tame_pure _
  · exact tame_stuck _
theorem tame_underlying (t:TypeId):Tame P w w' (underlying t):=by
  unfold underlying
  refine tame_bind tame_program fun p=>?_
  split
  · exact tame_pure _
  · exact tame_stuck _
theorem tame_sizeOf (t:TypeId):Tame P w w' (sizeOf t):=tame_bind (tame_typeInfo t) fun _=>tame_pure _
theorem tame_isAgg (t:TypeId):Tame P w w' (isAgg t):=by
  unfold isAgg
  refine tame_bind (tame_underlying t) fun d=>?_
  split <;> exact tame_pure _
theorem tame_sureAddr (v:Value):Tame P w w' (Instr.sureAddr v):=by
  unfold Instr.sureAddr
  split
  · exact tame_pure _
  · exact tame_stuck _
theorem tame_asIntOf (v:Value):Tame P w w' (asIntOf v):=by
  unfold asIntOf
  split
  · exact tame_pure _
  · exact tame_not _
  · exact tame_stuck _
theorem tame_bounds (k:IntKind) (x y:Int) (c:BoundsCode):Tame P w w' (boundsPanic k x y c:Sem α):=by
  intro r w1 h
  obtain ⟨s,w2,h2⟩:=run_boundsPanic (P:=P) (w:=w) (α:=α) k x y c
  rw [h2] at h
  cases h
theorem tame_load (a:Addr) (hc:IsC w a.block) (hw:w'.heap[a.block]? = w.heap[a.block]?):Tame P w w' (load a):=by
  intro r w1 h
  obtain ⟨c,t,z,hc⟩:=hc
  unfold load at h ⊢
  simp only [Sem.run] at h ⊢
  rw [World.cell?_of_block hw]
  cases hv:w.cell? a with
  | some v =>
    rw [hv] at h
    simp only [Result.ok.injEq] at h ⊢
    obtain ⟨rfl,rfl⟩:=h
    simp
  | none =>
    rw [hv] at h
    simp [World.farLoad,hc] at h
theorem add_block (a:Addr) (i:Nat):(a.add i).block = a.block:=by
  unfold Addr.add
  split <;> rfl
theorem tame_cellsFrom (a:Addr) (hc:IsC w a.block) (hw:w'.heap[a.block]? = w.heap[a.block]?):∀ (n i:Nat) (acc:Array Value),Tame P w w' (loadCellsFrom a i n acc)
  | 0,_,_=>tame_pure _
  | n+1,i,acc=>tame_bind (tame_load (a.add i) (by rw [add_block]; exact hc) (by rw [add_block]; exact hw)) fun v=>tame_cellsFrom a hc hw n (i+1) _
theorem tame_loadVar (t:TypeId) (a:Addr) (hc:IsC w a.block) (hw:w'.heap[a.block]? = w.heap[a.block]?):Tame P w w' (loadVar t a):=by
  unfold loadVar
  refine tame_bind (tame_isAgg t) fun b=>?_
  split
  · exact tame_bind (tame_sizeOf t) fun n=>tame_bind (tame_cellsFrom a hc hw n 0 #[]) fun _=>tame_pure _
  · exact tame_load a hc hw
theorem tame_loadAt (t:TypeId) (a:Addr) (hc:IsC w a.block) (hw:w'.heap[a.block]? = w.heap[a.block]?):Tame P w w' (Instr.loadAt t (.pointer (some a))):=by
  intro r w1 h
  have e:∀ u:World,(Instr.loadAt t (.pointer (some a))).run P u = (loadVar t a).run P u:=fun u=>by
    simp [Instr.loadAt,Instr.sureAddr]
  rw [e] at h ⊢
  exact tame_loadVar t a hc hw r w1 h
theorem tame_indexAt (t:TypeId) (x i:Value):Tame P w w' (Instr.indexAt t x i):=by
  unfold Instr.indexAt
  refine tame_bind (tame_asIntOf i) fun p=>?_
  obtain ⟨k,i⟩:=p
  dsimp only
  refine tame_bind (tame_underlying t) fun d=>?_
  have J:∀ q:Option Addr × Nat × TypeId,Tame P w w' (do
      let d <- underlying t
      match q.1 with
      | some a =>
        if 0 <= i ∧ i < (q.2.1:Int) then do
          let n <- sizeOf q.2.2
          pure (Value.pointer (some (a.add (i.toNat * n))))
        else if (decide (q.2.1 <= 1) && match d with
            | .array _ _=>true
            | _=>false) = true then unsupported (.noEntry "op/indexAddr.an index out of range at an array of length 0 or 1 (ledger 616)")
        else boundsPanic k i q.2.1 .index
      | none=>boundsPanic k i 0 .index):=fun q=>by
    refine tame_bind (tame_underlying t) fun d=>?_
    split
    · split
      · exact tame_bind (tame_sizeOf _) fun _=>tame_pure _
      · have T:∀ b:Bool,Tame P w w' (if b = true then (unsupported (.noEntry "op/indexAddr.an index out of range at an array of length 0 or 1 (ledger 616)"):Sem Value) else boundsPanic k i q.2.1 .index):=fun b=>by
          split
          · exact tame_not _
          · exact tame_bounds _ _ _ _
        exact T _
    · exact tame_bounds _ _ _ _
  split
  · exact tame_bind (tame_sureAddr _) fun a=>tame_bind (tame_pure _) fun q=>J q
  · exact tame_bind (tame_pure _) fun q=>J q
  · exact tame_bind (tame_stuck _) fun q=>J q
theorem only_pure (a:α):Only P g (pure a):=by
  intro w r w1 hc h
  simp only [Sem.run_pure,Result.ok.injEq] at h
  obtain ⟨_,rfl⟩:=h
  exact ⟨hc,fun _ _=>rfl⟩
theorem only_stuck (m:String):Only P g (stuck m:Sem α):=by
  intro w r w1 hc h
  simp [stuck,Sem.run] at h
theorem only_bind {s:Sem α} {f:α->Sem β} (hs:Only P g s) (hf:∀ r,Only P g (f r)):Only P g (s >>= f):=by
  intro w r w1 hc h
  rw [Sem.run_bind] at h
  cases hr:s.run P w with
  | halt x w2=>rw [hr] at h; simp [Result.andThen] at h
  | ok a w2 =>
    rw [hr] at h
    obtain ⟨h1,h2⟩:=hs w a w2 hc hr
    obtain ⟨h3,h4⟩:=hf a w2 r w1 h1 h
    exact ⟨h3,fun k hk=>by rw [h4 k hk,h2 k hk]⟩
theorem only_sizeOf (t:TypeId):Only P g (sizeOf t):=by
  intro w r w1 hc h
  obtain ⟨rfl,_⟩:=tame_sizeOf (P:=P) (w:=w) (w':=w) t r w1 h
  exact ⟨hc,fun _ _=>rfl⟩
theorem only_store (a:Addr) (v:Value) (ha:a.block = g):Only P g (store a v):=by
  intro w r w1 hc h
  subst ha
  obtain ⟨c,t,z,hc⟩:=hc
  have set:IsC (w.setCell a v) a.block ∧ ∀ k,k ≠ a.block->(w.setCell a v).heap[k]? = w.heap[k]?:=by
    refine ⟨⟨if a.spot.isSome then c else c.setIfInBounds a.off v,t,z,?_⟩,fun k hk=>?_⟩
    · unfold World.setCell
      simp [Array.getElem?_modify,hc]
    · unfold World.setCell
      simp [Array.getElem?_modify,Ne.symm hk]
  have key:(match w.cell? a with
    | some _=>if w.frozen? a then (.halt (.unsupported (.unsafePointer "a write to bytes that a string shares")) w:Result Unit) else .ok () (w.setCell a v)
    | none=>match w.farStore P a v false with
      | .ok (w,_)=>.ok () w
      | .error h=>.halt h w) = .ok r w1->IsC w1 a.block ∧ ∀ k,k ≠ a.block->w1.heap[k]? = w.heap[k]?:=by
    intro h
    split at h
    · split at h
      · cases h
      · simp only [Result.ok.injEq] at h
        obtain ⟨_,rfl⟩:=h
        exact set
    · simp [World.farStore,hc] at h
  unfold store at h
  cases v <;> first
    | (simp only [Sem.run] at h; cases h; done)
    | exact key h
theorem only_storeCells (a:Addr) (ha:a.block = g):∀ (vs:List Value) (i:Nat),Only P g (storeCells a vs i)
  | [],_=>only_pure _
  | v :: vs,i=>by
    unfold storeCells
    exact only_bind (only_store (a.add i) v (by rw [add_block]; exact ha)) fun _=>only_storeCells a ha vs (i+1)
theorem only_storeAt (t:TypeId) (a:Addr) (v:Value) (ha:a.block = g):Only P g (Instr.storeAt t (.pointer (some a)) v):=by
  intro w r w1 hc h
  have e:(Instr.storeAt t (.pointer (some a)) v).run P w = (storeVar t a v).run P w:=by
    simp [Instr.storeAt,Instr.sureAddr]
  rw [e] at h
  unfold storeVar at h
  refine only_bind (g:=g) (only_sizeOf t) (fun n=>?_) w r w1 hc h
  dsimp only
  split
  · exact only_bind (only_stuck _) fun _=>only_storeCells a ha _ 0
  · exact only_storeCells a ha _ 0
end
end Go.Sy
