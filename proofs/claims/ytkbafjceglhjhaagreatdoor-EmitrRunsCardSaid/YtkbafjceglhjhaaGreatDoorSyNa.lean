/-
  Loads, and places in slices, come to the same in a world that differs elsewhere; stores change one block alone. No conditions.
-/
import Derived.Test.YtkbafjceglhjhaaGreatDoorSyN
import Derived.Laws.Panics
namespace Go.Sy
def EN {α:Type} (P:Program) (w w':World) (s:Sem α):Prop:=∀ r w1,s.run P w = .ok r w1->w1=w∧s.run P w' = .ok r w'
def IsC (w:World) (g:Nat):Prop:=∃ c t z,w.heap[g]? = some (.cells c t z)
def TC {α:Type} (P:Program) (g:Nat) (s:Sem α):Prop:=∀ w r w1,IsC w g->s.run P w = .ok r w1->IsC w1 g∧∀ k,k ≠ g->w1.heap[k]? = w.heap[k]?
section
variable {α β:Type} {P:Program} {w w':World} {g:Nat}
theorem Bu (a:α):EN P w w' (pure a):=by
 intro r w1 h;simp only [Sem.run_pure,Result.ok.injEq] at h;obtain ⟨rfl,rfl⟩:=h;exact ⟨rfl,by simp⟩
theorem Dn (m:String):EN P w w' (stuck m:Sem α):=by
 intro r w1 h;simp [stuck,Sem.run] at h
theorem Oq (m:Unsupported):EN P w w' (unsupported m:Sem α):=by
 intro r w1 h;simp [unsupported,Sem.run] at h
theorem Bf {s:Sem α} {f:α->Sem β} (hs:EN P w w' s) (hf:∀ r,EN P w w' (f r)):EN P w w' (s >>= f):=by
 intro r w1 h;rw [Sem.run_bind] at h ⊢;cases hr:s.run P w with
 | halt x w2=>rw [hr] at h; simp [Result.andThen] at h
 | ok a w2 =>rw [hr] at h;obtain ⟨rfl,h2⟩:=hs a w2 hr;rw [h2];exact hf a r w1 h
theorem KU:EN P w w' program:=by
 intro r w1 h;simp only [run_program,Result.ok.injEq] at h;obtain ⟨rfl,rfl⟩:=h;exact ⟨rfl,by simp⟩
theorem Ka (t:TypeId):EN P w w' (typeInfo t):=by
 unfold typeInfo;refine Bf KU λp=>?_;split
 ·exact Bu _
 ·exact Dn _
theorem Ez (t:TypeId):EN P w w' (underlying t):=by
 unfold underlying;refine Bf KU λp=>?_;split
 ·exact Bu _
 ·exact Dn _
theorem Fv (t:TypeId):EN P w w' (sizeOf t):=Bf (Ka t) λ_=>Bu _
theorem VN (t:TypeId):EN P w w' (isAgg t):=by
 unfold isAgg;refine Bf (Ez t) λd=>?_;split <;> exact Bu _
theorem Qz {f:α->Sem β} (hf:∀ a,EN P w w' (f a)):∀ l:List α,EN P w w' (l.mapM f)
 | []=>by
  rw [List.mapM_nil];exact Bu _
 | a::l=>by
  rw [List.mapM_cons];exact Bf (hf a) λ_=>Bf (Qz hf l) λ_=>Bu _
theorem Zo {f:α->Sem β} (hf:∀ a,EN P w w' (f a)) (l:Array α):EN P w w' (l.mapM f):=by
 rw [Array.mapM_eq_mapM_toList,map_eq_pure_bind];exact Bf (Qz hf _) λ_=>Bu _
theorem Oo (t:TypeId):EN P w w' (zeroValue t):=by
 unfold zeroValue;refine Bf (Ka t) λd=>?_;split <;> first | exact Bu _ | exact Dn _ | exact Oq _
theorem VP (t:TypeId) (parts:Array (Nat×Value)):EN P w w' (Instr.build t parts):=by
 unfold Instr.build;refine Bf (Oo t) λz=>Bf (Ez t) λd=>?_;split
 ·refine Bf (Zo (λf=>Bf (Fv _) λ_=>Bu _) _) λpl=>?_
  split
  ·exact Bu _
  ·exact Dn _
 ·refine Bf (Fv _) λz=>?_
  split
  ·exact Bu _
  ·exact Dn _
 ·exact Dn _
theorem Kb (v:Value):EN P w w' (Instr.sureAddr v):=by
 unfold Instr.sureAddr;split
 ·exact Bu _
 ·exact Dn _
theorem RQ (v:Value):EN P w w' (asIntOf v):=by
 unfold asIntOf;split
 ·exact Bu _
 ·exact Oq _
 ·exact Dn _
theorem MY (k:IntKind) (x y:Int) (c:BoundsCode):EN P w w' (boundsPanic k x y c:Sem α):=by
 intro r w1 h;obtain ⟨s,w2,h2⟩:=run_boundsPanic (P:=P) (w:=w) (α:=α) k x y c;rw [h2] at h;cases h
theorem Q0 (a:Addr) (hc:IsC w a.block) (hw:w'.heap[a.block]? = w.heap[a.block]?):EN P w w' (load a):=by
 intro r w1 h;obtain ⟨c,t,z,hc⟩:=hc;unfold load at h ⊢;simp only [Sem.run] at h ⊢;rw [World.cell?_of_block hw];cases hv:w.cell? a with
 | some v =>rw [hv] at h;simp only [Result.ok.injEq] at h ⊢;obtain ⟨rfl,rfl⟩:=h;simp
 | none =>rw [hv] at h;simp [World.farLoad,hc] at h
theorem MP (a:Addr) (i:Nat):(a.add i).block=a.block:=by
 unfold Addr.add;split <;> rfl
theorem IF (a:Addr) (hc:IsC w a.block) (hw:w'.heap[a.block]? = w.heap[a.block]?):∀ (n i:Nat) (acc:Array Value),EN P w w' (loadCellsFrom a i n acc)
 | 0,_,_=>Bu _
 | n+1,i,acc=>Bf (Q0 (a.add i) (by rw [MP]; exact hc) (by rw [MP]; exact hw)) λv=>IF a hc hw n (i+1) _
theorem RO (t:TypeId) (a:Addr) (hc:IsC w a.block) (hw:w'.heap[a.block]? = w.heap[a.block]?):EN P w w' (loadVar t a):=by
 unfold loadVar;refine Bf (VN t) λb=>?_;split
 ·exact Bf (Fv t) λn=>Bf (IF a hc hw n 0 #[]) λ_=>Bu _
 ·exact Q0 a hc hw
theorem TT (t:TypeId) (a:Addr) (hc:IsC w a.block) (hw:w'.heap[a.block]? = w.heap[a.block]?):EN P w w' (Instr.loadAt t (.pointer (some a))):=by
 intro r w1 h;have e:∀ u:World,(Instr.loadAt t (.pointer (some a))).run P u=(loadVar t a).run P u:=λu=>by
  simp [Instr.loadAt,Instr.sureAddr]
 rw [e] at h ⊢;exact RO t a hc hw r w1 h
theorem RP (t:TypeId) (x i:Value):EN P w w' (Instr.indexAt t x i):=by
 unfold Instr.indexAt;refine Bf (RQ i) λp=>?_;obtain ⟨k,i⟩:=p;dsimp only;refine Bf (Ez t) λd=>?_;have J:∀ q:Option Addr×Nat×TypeId,EN P w w' (do
   let d <- underlying t
   match q.1 with
   | some a =>
    if 0 <= i∧i<(q.2.1:Int) then do
     let n <- sizeOf q.2.2
     pure (Value.pointer (some (a.add (i.toNat * n))))
    else if (decide (q.2.1 <= 1) && match d with
      | .array _ _=>true
      | _=>false)=true then unsupported (.noEntry "op/indexAddr.an index out of range at an array of length 0 or 1 (ledger 616)")
    else boundsPanic k i q.2.1 .index
   | none=>boundsPanic k i 0 .index):=λq=>by
  refine Bf (Ez t) λd=>?_;split
  ·split
   ·exact Bf (Fv _) λ_=>Bu _
   ·have T:∀ b:Bool,EN P w w' (if b=true then (unsupported (.noEntry "op/indexAddr.an index out of range at an array of length 0 or 1 (ledger 616)"):Sem Value) else boundsPanic k i q.2.1 .index):=λb=>by
     split
     ·exact Oq _
     ·exact MY _ _ _ _
    exact T _
  ·exact MY _ _ _ _
 split
 ·exact Bf (Kb _) λa=>Bf (Bu _) λq=>J q
 ·exact Bf (Bu _) λq=>J q
 ·exact Bf (Dn _) λq=>J q
theorem ZC (a:α):TC P g (pure a):=by
 intro w r w1 hc h;simp only [Sem.run_pure,Result.ok.injEq] at h;obtain ⟨_,rfl⟩:=h;exact ⟨hc,λ_ _=>rfl⟩
theorem Wz (m:String):TC P g (stuck m:Sem α):=by
 intro w r w1 hc h;simp [stuck,Sem.run] at h
theorem Mx {s:Sem α} {f:α->Sem β} (hs:TC P g s) (hf:∀ r,TC P g (f r)):TC P g (s >>= f):=by
 intro w r w1 hc h;rw [Sem.run_bind] at h;cases hr:s.run P w with
 | halt x w2=>rw [hr] at h; simp [Result.andThen] at h
 | ok a w2 =>rw [hr] at h;obtain ⟨h1,h2⟩:=hs w a w2 hc hr;obtain ⟨h3,h4⟩:=hf a w2 r w1 h1 h;exact ⟨h3,λk hk=>by rw [h4 k hk,h2 k hk]⟩
theorem U1 (t:TypeId):TC P g (sizeOf t):=by
 intro w r w1 hc h;obtain ⟨rfl,_⟩:=Fv (P:=P) (w:=w) (w':=w) t r w1 h;exact ⟨hc,λ_ _=>rfl⟩
theorem W0 (a:Addr) (v:Value) (ha:a.block=g):TC P g (store a v):=by
 intro w r w1 hc h;subst ha;obtain ⟨c,t,z,hc⟩:=hc;have set:IsC (w.setCell a v) a.block∧∀ k,k ≠ a.block->(w.setCell a v).heap[k]? = w.heap[k]?:=by
  refine ⟨⟨if a.spot.isSome then c else c.setIfInBounds a.off v,t,z,?_⟩,λk hk=>?_⟩
  ·unfold World.setCell
   simp [Array.getElem?_modify,hc]
  ·unfold World.setCell
   simp [Array.getElem?_modify,Ne.symm hk]
 have key:(match w.cell? a with
  | some _=>if w.frozen? a then (.halt (.unsupported (.unsafePointer "a write to bytes that a string shares")) w:Result Unit) else .ok () (w.setCell a v)
  | none=>match w.farStore P a v false with
   | .ok (w,_)=>.ok () w
   | .error h=>.halt h w) = .ok r w1->IsC w1 a.block∧∀ k,k ≠ a.block->w1.heap[k]? = w.heap[k]?:=by
  intro h;split at h
  ·split at h
   ·cases h
   ·simp only [Result.ok.injEq] at h
    obtain ⟨_,rfl⟩:=h;exact set
  ·simp [World.farStore,hc] at h
 unfold store at h;cases v <;> first
  | (simp only [Sem.run] at h; cases h; done)
  | exact key h
theorem FP (a:Addr) (ha:a.block=g):∀ (vs:List Value) (i:Nat),TC P g (storeCells a vs i)
 | [],_=>ZC _
 | v::vs,i=>by
  unfold storeCells;exact Mx (W0 (a.add i) v (by rw [MP]; exact ha)) λ_=>FP a ha vs (i+1)
theorem Su (t:TypeId) (a:Addr) (v:Value) (ha:a.block=g):TC P g (Instr.storeAt t (.pointer (some a)) v):=by
 intro w r w1 hc h;have e:(Instr.storeAt t (.pointer (some a)) v).run P w=(storeVar t a v).run P w:=by
  simp [Instr.storeAt,Instr.sureAddr]
 rw [e] at h;unfold storeVar at h;refine Mx (g:=g) (U1 t) (λn=>?_) w r w1 hc h;dsimp only;split
 ·exact Mx (Wz _) λ_=>FP a ha _ 0
 ·exact FP a ha _ 0
end
end Go.Sy
