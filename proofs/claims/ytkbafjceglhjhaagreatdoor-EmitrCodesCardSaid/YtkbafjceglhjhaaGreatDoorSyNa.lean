/-
  Loads, and places in slices, come to the same in a world that differs elsewhere; stores change one block alone. No conditions.
-/
import Derived.Test.YtkbafjceglhjhaaGreatDoorSyN
import Derived.Laws.Panics
namespace Go.Sy
def Et {α:Type} (P:Program) (w w':World) (s:Sem α):Prop:=∀ r w1,s.run P w = .ok r w1->w1=w∧s.run P w' = .ok r w'
def IsC (w:World) (g:Nat):Prop:=∃ c t z,w.heap[g]? = some (.cells c t z)
def S7 {α:Type} (P:Program) (g:Nat) (s:Sem α):Prop:=∀ w r w1,IsC w g->s.run P w = .ok r w1->IsC w1 g∧∀ k,k ≠ g->w1.heap[k]? = w.heap[k]?
section
variable {α β:Type} {P:Program} {w w':World} {g:Nat}
theorem Bt (a:α):Et P w w' (pure a):=by
 intro r w1 h;simp only [Sem.run_pure,Result.ok.injEq] at h;obtain ⟨rfl,rfl⟩:=h;exact ⟨rfl,by simp⟩
theorem Da (m:String):Et P w w' (stuck m:Sem α):=by
 intro r w1 h;simp [stuck,Sem.run] at h
theorem N5 (m:Unsupported):Et P w w' (unsupported m:Sem α):=by
 intro r w1 h;simp [unsupported,Sem.run] at h
theorem Bb {s:Sem α} {f:α->Sem β} (hs:Et P w w' s) (hf:∀ r,Et P w w' (f r)):Et P w w' (s >>= f):=by
 intro r w1 h;rw [Sem.run_bind] at h ⊢;cases hr:s.run P w with
 | halt x w2=>rw [hr] at h; simp [Result.andThen] at h
 | ok a w2 =>rw [hr] at h;obtain ⟨rfl,h2⟩:=hs a w2 hr;rw [h2];exact hf a r w1 h
theorem Kq:Et P w w' program:=by
 intro r w1 h;simp only [run_program,Result.ok.injEq] at h;obtain ⟨rfl,rfl⟩:=h;exact ⟨rfl,by simp⟩
theorem J1 (t:TypeId):Et P w w' (typeInfo t):=by
 unfold typeInfo;refine Bb Kq λp=>?_;split
 ·exact Bt _
 ·exact Da _
theorem DX (t:TypeId):Et P w w' (underlying t):=by
 unfold underlying;refine Bb Kq λp=>?_;split
 ·exact Bt _
 ·exact Da _
theorem EX (t:TypeId):Et P w w' (sizeOf t):=Bb (J1 t) λ_=>Bt _
theorem UY (t:TypeId):Et P w w' (isAgg t):=by
 unfold isAgg;refine Bb (DX t) λd=>?_;split <;> exact Bt _
theorem PI {f:α->Sem β} (hf:∀ a,Et P w w' (f a)):∀ l:List α,Et P w w' (l.mapM f)
 | []=>by
  rw [List.mapM_nil];exact Bt _
 | a::l=>by
  rw [List.mapM_cons];exact Bb (hf a) λ_=>Bb (PI hf l) λ_=>Bt _
theorem Ys {f:α->Sem β} (hf:∀ a,Et P w w' (f a)) (l:Array α):Et P w w' (l.mapM f):=by
 rw [Array.mapM_eq_mapM_toList,map_eq_pure_bind];exact Bb (PI hf _) λ_=>Bt _
theorem N4 (t:TypeId):Et P w w' (zeroValue t):=by
 unfold zeroValue;refine Bb (J1 t) λd=>?_;split <;> first | exact Bt _ | exact Da _ | exact N5 _
theorem Va (t:TypeId) (parts:Array (Nat×Value)):Et P w w' (Instr.build t parts):=by
 unfold Instr.build;refine Bb (N4 t) λz=>Bb (DX t) λd=>?_;split
 ·refine Bb (Ys (λf=>Bb (EX _) λ_=>Bt _) _) λpl=>?_
  split
  ·exact Bt _
  ·exact Da _
 ·refine Bb (EX _) λz=>?_
  split
  ·exact Bt _
  ·exact Da _
 ·exact Da _
theorem J2 (v:Value):Et P w w' (Instr.sureAddr v):=by
 unfold Instr.sureAddr;split
 ·exact Bt _
 ·exact Da _
theorem QW (v:Value):Et P w w' (asIntOf v):=by
 unfold asIntOf;split
 ·exact Bt _
 ·exact N5 _
 ·exact Da _
theorem Mj (k:IntKind) (x y:Int) (c:BoundsCode):Et P w w' (boundsPanic k x y c:Sem α):=by
 intro r w1 h;obtain ⟨s,w2,h2⟩:=run_boundsPanic (P:=P) (w:=w) (α:=α) k x y c;rw [h2] at h;cases h
theorem PK (a:Addr) (hc:IsC w a.block) (hw:w'.heap[a.block]? = w.heap[a.block]?):Et P w w' (load a):=by
 intro r w1 h;obtain ⟨c,t,z,hc⟩:=hc;unfold load at h ⊢;simp only [Sem.run] at h ⊢;rw [World.cell?_of_block hw];cases hv:w.cell? a with
 | some v =>rw [hv] at h;simp only [Result.ok.injEq] at h ⊢;obtain ⟨rfl,rfl⟩:=h;simp
 | none =>rw [hv] at h;simp [World.farLoad,hc] at h
theorem Md (a:Addr) (i:Nat):(a.add i).block=a.block:=by
 unfold Addr.add;split <;> rfl
theorem Iw (a:Addr) (hc:IsC w a.block) (hw:w'.heap[a.block]? = w.heap[a.block]?):∀ (n i:Nat) (acc:Array Value),Et P w w' (loadCellsFrom a i n acc)
 | 0,_,_=>Bt _
 | n+1,i,acc=>Bb (PK (a.add i) (by rw [Md]; exact hc) (by rw [Md]; exact hw)) λv=>Iw a hc hw n (i+1) _
theorem QU (t:TypeId) (a:Addr) (hc:IsC w a.block) (hw:w'.heap[a.block]? = w.heap[a.block]?):Et P w w' (loadVar t a):=by
 unfold loadVar;refine Bb (UY t) λb=>?_;split
 ·exact Bb (EX t) λn=>Bb (Iw a hc hw n 0 #[]) λ_=>Bt _
 ·exact PK a hc hw
theorem SU (t:TypeId) (a:Addr) (hc:IsC w a.block) (hw:w'.heap[a.block]? = w.heap[a.block]?):Et P w w' (Instr.loadAt t (.pointer (some a))):=by
 intro r w1 h;have e:∀ u:World,(Instr.loadAt t (.pointer (some a))).run P u=(loadVar t a).run P u:=λu=>by
  simp [Instr.loadAt,Instr.sureAddr]
 rw [e] at h ⊢;exact QU t a hc hw r w1 h
theorem QV (t:TypeId) (x i:Value):Et P w w' (Instr.indexAt t x i):=by
 unfold Instr.indexAt;refine Bb (QW i) λp=>?_;obtain ⟨k,i⟩:=p;dsimp only;refine Bb (DX t) λd=>?_;have J:∀ q:Option Addr×Nat×TypeId,Et P w w' (do
   let d <- underlying t
   match q.1 with
   | some a =>
    if 0 <= i∧i<(q.2.1:Int) then do
     let n <- sizeOf q.2.2
     pure (Value.pointer (some (a.add (i.toNat * n))))
    else if (decide (q.2.1 <= 1) && match d with
      | .array _ _=>true
      | _=>false)=true then unsupported (.noEntry "op/indexAddr.an index out of range at an array of length 0 or 1 (ledger 616)")
    else boundsPanic k i q.2.1 .index
   | none=>boundsPanic k i 0 .index):=λq=>by
  refine Bb (DX t) λd=>?_;split
  ·split
   ·exact Bb (EX _) λ_=>Bt _
   ·have T:∀ b:Bool,Et P w w' (if b=true then (unsupported (.noEntry "op/indexAddr.an index out of range at an array of length 0 or 1 (ledger 616)"):Sem Value) else boundsPanic k i q.2.1 .index):=λb=>by
     split
     ·exact N5 _
     ·exact Mj _ _ _ _
    exact T _
  ·exact Mj _ _ _ _
 split
 ·exact Bb (J2 _) λa=>Bb (Bt _) λq=>J q
 ·exact Bb (Bt _) λq=>J q
 ·exact Bb (Da _) λq=>J q
theorem YC (a:α):S7 P g (pure a):=by
 intro w r w1 hc h;simp only [Sem.run_pure,Result.ok.injEq] at h;obtain ⟨_,rfl⟩:=h;exact ⟨hc,λ_ _=>rfl⟩
theorem VA (m:String):S7 P g (stuck m:Sem α):=by
 intro w r w1 hc h;simp [stuck,Sem.run] at h
theorem L9 {s:Sem α} {f:α->Sem β} (hs:S7 P g s) (hf:∀ r,S7 P g (f r)):S7 P g (s >>= f):=by
 intro w r w1 hc h;rw [Sem.run_bind] at h;cases hr:s.run P w with
 | halt x w2=>rw [hr] at h; simp [Result.andThen] at h
 | ok a w2 =>rw [hr] at h;obtain ⟨h1,h2⟩:=hs w a w2 hc hr;obtain ⟨h3,h4⟩:=hf a w2 r w1 h1 h;exact ⟨h3,λk hk=>by rw [h4 k hk,h2 k hk]⟩
theorem Tz (t:TypeId):S7 P g (sizeOf t):=by
 intro w r w1 hc h;obtain ⟨rfl,_⟩:=EX (P:=P) (w:=w) (w':=w) t r w1 h;exact ⟨hc,λ_ _=>rfl⟩
theorem VB (a:Addr) (v:Value) (ha:a.block=g):S7 P g (store a v):=by
 intro w r w1 hc h;subst ha;obtain ⟨c,t,z,hc⟩:=hc;have set:IsC (w.setCell a v) a.block∧∀ k,k ≠ a.block->(w.setCell a v).heap[k]? = w.heap[k]?:=by
  refine ⟨⟨if a.spot.isSome then c else c.setIfInBounds a.off v,t,z,?_⟩,λk hk=>?_⟩
  ·unfold World.setCell
   simp [Array.getElem?_modify,hc]
  ·unfold World.setCell
   simp [Array.getElem?_modify,Ne.symm hk]
 have key:(match w.cell? a with
  | some _=>if w.frozen? a then (.halt (.unsupported (.unsafePointer "a write to bytes that a string shares")) w:Result Unit) else .ok () (w.setCell a v)
  | none=>match w.farStore P a v false with
   | .ok (w,_)=>.ok () w
   | .error h=>.halt h w) = .ok r w1->IsC w1 a.block∧∀ k,k ≠ a.block->w1.heap[k]? = w.heap[k]?:=by
  intro h;split at h
  ·split at h
   ·cases h
   ·simp only [Result.ok.injEq] at h
    obtain ⟨_,rfl⟩:=h;exact set
  ·simp [World.farStore,hc] at h
 unfold store at h;cases v <;> first
  | (simp only [Sem.run] at h; cases h; done)
  | exact key h
theorem Fy (a:Addr) (ha:a.block=g):∀ (vs:List Value) (i:Nat),S7 P g (storeCells a vs i)
 | [],_=>YC _
 | v::vs,i=>by
  unfold storeCells;exact L9 (VB (a.add i) v (by rw [Md]; exact ha)) λ_=>Fy a ha vs (i+1)
theorem Ru (t:TypeId) (a:Addr) (v:Value) (ha:a.block=g):S7 P g (Instr.storeAt t (.pointer (some a)) v):=by
 intro w r w1 hc h;have e:(Instr.storeAt t (.pointer (some a)) v).run P w=(storeVar t a v).run P w:=by
  simp [Instr.storeAt,Instr.sureAddr]
 rw [e] at h;unfold storeVar at h;refine L9 (g:=g) (Tz t) (λn=>?_) w r w1 hc h;dsimp only;split
 ·exact L9 (VA _) λ_=>Fy a ha _ 0
 ·exact Fy a ha _ 0
end
end Go.Sy
