/-
  Loads, and places in slices, come to the same in a world that differs elsewhere; stores change one block alone. No conditions.
-/
import Derived.Test.YtkbafjceglhjhaaGreatDoorSyN
import Derived.Laws.Panics
namespace Go.Sy
def DY {α:Type} (P:Program) (w w':World) (s:Sem α):Prop:=∀ r w1,s.run P w = .ok r w1->w1=w∧s.run P w' = .ok r w'
def IsC (w:World) (g:Nat):Prop:=∃ c t z,w.heap[g]? = some (.cells c t z)
def Qz {α:Type} (P:Program) (g:Nat) (s:Sem α):Prop:=∀ w r w1,IsC w g->s.run P w = .ok r w1->IsC w1 g∧∀ k,k ≠ g->w1.heap[k]? = w.heap[k]?
section
variable {α β:Type} {P:Program} {w w':World} {g:Nat}
theorem Bi (a:α):DY P w w' (pure a):=by
 intro r w1 h;simp only [Sem.run_pure,Result.ok.injEq] at h;obtain ⟨rfl,rfl⟩:=h;exact ⟨rfl,by simp⟩
theorem CB (m:String):DY P w w' (stuck m:Sem α):=by
 intro r w1 h;simp [stuck,Sem.run] at h
theorem Mi (m:Unsupported):DY P w w' (unsupported m:Sem α):=by
 intro r w1 h;simp [unsupported,Sem.run] at h
theorem AQ {s:Sem α} {f:α->Sem β} (hs:DY P w w' s) (hf:∀ r,DY P w w' (f r)):DY P w w' (s >>= f):=by
 intro r w1 h;rw [Sem.run_bind] at h ⊢;cases hr:s.run P w with
 | halt x w2=>rw [hr] at h; simp [Result.andThen] at h
 | ok a w2 =>rw [hr] at h;obtain ⟨rfl,h2⟩:=hs a w2 hr;rw [h2];exact hf a r w1 h
theorem Jp:DY P w w' program:=by
 intro r w1 h;simp only [run_program,Result.ok.injEq] at h;obtain ⟨rfl,rfl⟩:=h;exact ⟨rfl,by simp⟩
theorem I2 (t:TypeId):DY P w w' (typeInfo t):=by
 unfold typeInfo;refine AQ Jp λp=>?_;split
 ·exact Bi _
 ·exact CB _
theorem D3 (t:TypeId):DY P w w' (underlying t):=by
 unfold underlying;refine AQ Jp λp=>?_;split
 ·exact Bi _
 ·exact CB _
theorem E7 (t:TypeId):DY P w w' (sizeOf t):=AQ (I2 t) λ_=>Bi _
theorem SL (t:TypeId):DY P w w' (isAgg t):=by
 unfold isAgg;refine AQ (D3 t) λd=>?_;split <;> exact Bi _
theorem NY {f:α->Sem β} (hf:∀ a,DY P w w' (f a)):∀ l:List α,DY P w w' (l.mapM f)
 | []=>by
  rw [List.mapM_nil];exact Bi _
 | a::l=>by
  rw [List.mapM_cons];exact AQ (hf a) λ_=>AQ (NY hf l) λ_=>Bi _
theorem VW {f:α->Sem β} (hf:∀ a,DY P w w' (f a)) (l:Array α):DY P w w' (l.mapM f):=by
 rw [Array.mapM_eq_mapM_toList,map_eq_pure_bind];exact AQ (NY hf _) λ_=>Bi _
theorem Mh (t:TypeId):DY P w w' (zeroValue t):=by
 unfold zeroValue;refine AQ (I2 t) λd=>?_;split <;> first | exact Bi _ | exact CB _ | exact Mi _
theorem SO (t:TypeId) (parts:Array (Nat×Value)):DY P w w' (Instr.build t parts):=by
 unfold Instr.build;refine AQ (Mh t) λz=>AQ (D3 t) λd=>?_;split
 ·refine AQ (VW (λf=>AQ (E7 _) λ_=>Bi _) _) λpl=>?_
  split
  ·exact Bi _
  ·exact CB _
 ·refine AQ (E7 _) λz=>?_
  split
  ·exact Bi _
  ·exact CB _
 ·exact CB _
theorem I3 (v:Value):DY P w w' (Instr.sureAddr v):=by
 unfold Instr.sureAddr;split
 ·exact Bi _
 ·exact CB _
theorem Pf (v:Value):DY P w w' (asIntOf v):=by
 unfold asIntOf;split
 ·exact Bi _
 ·exact Mi _
 ·exact CB _
theorem KZ (k:IntKind) (x y:Int) (c:BoundsCode):DY P w w' (boundsPanic k x y c:Sem α):=by
 intro r w1 h;obtain ⟨s,w2,h2⟩:=run_boundsPanic (P:=P) (w:=w) (α:=α) k x y c;rw [h2] at h;cases h
theorem NZ (a:Addr) (hc:IsC w a.block) (hw:w'.heap[a.block]? = w.heap[a.block]?):DY P w w' (load a):=by
 intro r w1 h;obtain ⟨c,t,z,hc⟩:=hc;unfold load at h ⊢;simp only [Sem.run] at h ⊢;rw [World.cell?_of_block hw];cases hv:w.cell? a with
 | some v =>rw [hv] at h;simp only [Result.ok.injEq] at h ⊢;obtain ⟨rfl,rfl⟩:=h;simp
 | none =>rw [hv] at h;simp [World.farLoad,hc] at h
theorem KU (a:Addr) (i:Nat):(a.add i).block=a.block:=by
 unfold Addr.add;split <;> rfl
theorem Hz (a:Addr) (hc:IsC w a.block) (hw:w'.heap[a.block]? = w.heap[a.block]?):∀ (n i:Nat) (acc:Array Value),DY P w w' (loadCellsFrom a i n acc)
 | 0,_,_=>Bi _
 | n+1,i,acc=>AQ (NZ (a.add i) (by rw [KU]; exact hc) (by rw [KU]; exact hw)) λv=>Hz a hc hw n (i+1) _
theorem Pd (t:TypeId) (a:Addr) (hc:IsC w a.block) (hw:w'.heap[a.block]? = w.heap[a.block]?):DY P w w' (loadVar t a):=by
 unfold loadVar;refine AQ (SL t) λb=>?_;split
 ·exact AQ (E7 t) λn=>AQ (Hz a hc hw n 0 #[]) λ_=>Bi _
 ·exact NZ a hc hw
theorem QH (t:TypeId) (a:Addr) (hc:IsC w a.block) (hw:w'.heap[a.block]? = w.heap[a.block]?):DY P w w' (Instr.loadAt t (.pointer (some a))):=by
 intro r w1 h;have e:∀ u:World,(Instr.loadAt t (.pointer (some a))).run P u=(loadVar t a).run P u:=λu=>by
  simp [Instr.loadAt,Instr.sureAddr]
 rw [e] at h ⊢;exact Pd t a hc hw r w1 h
theorem Pe (t:TypeId) (x i:Value):DY P w w' (Instr.indexAt t x i):=by
 unfold Instr.indexAt;refine AQ (Pf i) λp=>?_;obtain ⟨k,i⟩:=p;dsimp only;refine AQ (D3 t) λd=>?_;have J:∀ q:Option Addr×Nat×TypeId,DY P w w' (do
   let d <- underlying t
   match q.1 with
   | some a =>
    if 0 <= i∧i<(q.2.1:Int) then do
     let n <- sizeOf q.2.2
     pure (Value.pointer (some (a.add (i.toNat * n))))
    else if (decide (q.2.1 <= 1) && match d with
      | .array _ _=>true
      | _=>false)=true then unsupported (.noEntry "op/indexAddr.an index out of range at an array of length 0 or 1 (ledger 616)")
    else boundsPanic k i q.2.1 .index
   | none=>boundsPanic k i 0 .index):=λq=>by
  refine AQ (D3 t) λd=>?_;split
  ·split
   ·exact AQ (E7 _) λ_=>Bi _
   ·have T:∀ b:Bool,DY P w w' (if b=true then (unsupported (.noEntry "op/indexAddr.an index out of range at an array of length 0 or 1 (ledger 616)"):Sem Value) else boundsPanic k i q.2.1 .index):=λb=>by
     split
     ·exact Mi _
     ·exact KZ _ _ _ _
    exact T _
  ·exact KZ _ _ _ _
 split
 ·exact AQ (I3 _) λa=>AQ (Bi _) λq=>J q
 ·exact AQ (Bi _) λq=>J q
 ·exact AQ (CB _) λq=>J q
theorem Wq (a:α):Qz P g (pure a):=by
 intro w r w1 hc h;simp only [Sem.run_pure,Result.ok.injEq] at h;obtain ⟨_,rfl⟩:=h;exact ⟨hc,λ_ _=>rfl⟩
theorem Tz (m:String):Qz P g (stuck m:Sem α):=by
 intro w r w1 hc h;simp [stuck,Sem.run] at h
theorem K2 {s:Sem α} {f:α->Sem β} (hs:Qz P g s) (hf:∀ r,Qz P g (f r)):Qz P g (s >>= f):=by
 intro w r w1 hc h;rw [Sem.run_bind] at h;cases hr:s.run P w with
 | halt x w2=>rw [hr] at h; simp [Result.andThen] at h
 | ok a w2 =>rw [hr] at h;obtain ⟨h1,h2⟩:=hs w a w2 hc hr;obtain ⟨h3,h4⟩:=hf a w2 r w1 h1 h;exact ⟨h3,λk hk=>by rw [h4 k hk,h2 k hk]⟩
theorem Rn (t:TypeId):Qz P g (sizeOf t):=by
 intro w r w1 hc h;obtain ⟨rfl,_⟩:=E7 (P:=P) (w:=w) (w':=w) t r w1 h;exact ⟨hc,λ_ _=>rfl⟩
theorem T0 (a:Addr) (v:Value) (ha:a.block=g):Qz P g (store a v):=by
 intro w r w1 hc h;subst ha;obtain ⟨c,t,z,hc⟩:=hc;have set:IsC (w.setCell a v) a.block∧∀ k,k ≠ a.block->(w.setCell a v).heap[k]? = w.heap[k]?:=by
  refine ⟨⟨if a.spot.isSome then c else c.setIfInBounds a.off v,t,z,?_⟩,λk hk=>?_⟩
  ·unfold World.setCell
   simp [Array.getElem?_modify,hc]
  ·unfold World.setCell
   simp [Array.getElem?_modify,Ne.symm hk]
 have key:(match w.cell? a with
  | some _=>if w.frozen? a then (.halt (.unsupported (.unsafePointer "a write to bytes that a string shares")) w:Result Unit) else .ok () (w.setCell a v)
  | none=>match w.farStore P a v false with
   | .ok (w,_)=>.ok () w
   | .error h=>.halt h w) = .ok r w1->IsC w1 a.block∧∀ k,k ≠ a.block->w1.heap[k]? = w.heap[k]?:=by
  intro h;split at h
  ·split at h
   ·cases h
   ·simp only [Result.ok.injEq] at h
    obtain ⟨_,rfl⟩:=h;exact set
  ·simp [World.farStore,hc] at h
 unfold store at h;cases v <;> first
  | (simp only [Sem.run] at h; cases h; done)
  | exact key h
theorem EO (a:Addr) (ha:a.block=g):∀ (vs:List Value) (i:Nat),Qz P g (storeCells a vs i)
 | [],_=>Wq _
 | v::vs,i=>by
  unfold storeCells;exact K2 (T0 (a.add i) v (by rw [KU]; exact ha)) λ_=>EO a ha vs (i+1)
theorem P3 (t:TypeId) (a:Addr) (v:Value) (ha:a.block=g):Qz P g (Instr.storeAt t (.pointer (some a)) v):=by
 intro w r w1 hc h;have e:(Instr.storeAt t (.pointer (some a)) v).run P w=(storeVar t a v).run P w:=by
  simp [Instr.storeAt,Instr.sureAddr]
 rw [e] at h;unfold storeVar at h;refine K2 (g:=g) (Rn t) (λn=>?_) w r w1 hc h;dsimp only;split
 ·exact K2 (Tz _) λ_=>EO a ha _ 0
 ·exact EO a ha _ 0
end
end Go.Sy
