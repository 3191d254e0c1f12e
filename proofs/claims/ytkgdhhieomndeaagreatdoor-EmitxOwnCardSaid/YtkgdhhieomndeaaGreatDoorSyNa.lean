/-
  Loads, and places in slices, come to the same in a world that differs elsewhere; stores change one block alone. No conditions.
-/
import Derived.Test.YtkgdhhieomndeaaGreatDoorSyN
import Derived.Laws.Panics
namespace Go.Sy
def F8 {α:Type} (P:Program) (w w':World) (s:Sem α):Prop:=∀ r w1,s.run P w = .ok r w1->w1=w∧s.run P w' = .ok r w'
def IsC (w:World) (g:Nat):Prop:=∃ c t z,w.heap[g]? = some (.cells c t z)
def Tk {α:Type} (P:Program) (g:Nat) (s:Sem α):Prop:=∀ w r w1,IsC w g->s.run P w = .ok r w1->IsC w1 g∧∀ k,k ≠ g->w1.heap[k]? = w.heap[k]?
section
variable {α β:Type} {P:Program} {w w':World} {g:Nat}
theorem Ce (a:α):F8 P w w' (pure a):=by
 intro r w1 h;simp only [Sem.run_pure,Result.ok.injEq] at h;obtain ⟨rfl,rfl⟩:=h;exact ⟨rfl,by simp⟩
theorem FK (m:String):F8 P w w' (stuck m:Sem α):=by
 intro r w1 h;simp [stuck,Sem.run] at h
theorem T9 (m:Unsupported):F8 P w w' (unsupported m:Sem α):=by
 intro r w1 h;simp [unsupported,Sem.run] at h
theorem BM {s:Sem α} {f:α->Sem β} (hs:F8 P w w' s) (hf:∀ r,F8 P w w' (f r)):F8 P w w' (s >>= f):=by
 intro r w1 h;rw [Sem.run_bind] at h ⊢;cases hr:s.run P w with
 | halt x w2=>rw [hr] at h; simp [Result.andThen] at h
 | ok a w2 =>rw [hr] at h;obtain ⟨rfl,h2⟩:=hs a w2 hr;rw [h2];exact hf a r w1 h
theorem Ky:F8 P w w' program:=by
 intro r w1 h;simp only [run_program,Result.ok.injEq] at h;obtain ⟨rfl,rfl⟩:=h;exact ⟨rfl,by simp⟩
theorem PN (t:TypeId):F8 P w w' (typeInfo t):=by
 unfold typeInfo;refine BM Ky λp=>?_;split
 ·exact Ce _
 ·exact FK _
theorem Fe (t:TypeId):F8 P w w' (underlying t):=by
 unfold underlying;refine BM Ky λp=>?_;split
 ·exact Ce _
 ·exact FK _
theorem Ix (t:TypeId):F8 P w w' (sizeOf t):=BM (PN t) λ_=>Ce _
theorem VG (t:TypeId):F8 P w w' (isAgg t):=by
 unfold isAgg;refine BM (Fe t) λd=>?_;split <;> exact Ce _
theorem JD (v:Value):F8 P w w' (Instr.sureAddr v):=by
 unfold Instr.sureAddr;split
 ·exact Ce _
 ·exact FK _
theorem Rp (v:Value):F8 P w w' (asIntOf v):=by
 unfold asIntOf;split
 ·exact Ce _
 ·exact T9 _
 ·exact FK _
theorem MD (k:IntKind) (x y:Int) (c:BoundsCode):F8 P w w' (boundsPanic k x y c:Sem α):=by
 intro r w1 h;obtain ⟨s,w2,h2⟩:=run_boundsPanic (P:=P) (w:=w) (α:=α) k x y c;rw [h2] at h;cases h
theorem Qe (a:Addr) (hc:IsC w a.block) (hw:w'.heap[a.block]? = w.heap[a.block]?):F8 P w w' (load a):=by
 intro r w1 h;obtain ⟨c,t,z,hc⟩:=hc;unfold load at h ⊢;simp only [Sem.run] at h ⊢;rw [World.cell?_of_block hw];cases hv:w.cell? a with
 | some v =>rw [hv] at h;simp only [Result.ok.injEq] at h ⊢;obtain ⟨rfl,rfl⟩:=h;simp
 | none =>rw [hv] at h;simp [World.farLoad,hc] at h
theorem M8 (a:Addr) (i:Nat):(a.add i).block=a.block:=by
 unfold Addr.add;split <;> rfl
theorem Iy (a:Addr) (hc:IsC w a.block) (hw:w'.heap[a.block]? = w.heap[a.block]?):∀ (n i:Nat) (acc:Array Value),F8 P w w' (loadCellsFrom a i n acc)
 | 0,_,_=>Ce _
 | n+1,i,acc=>BM (Qe (a.add i) (by rw [M8]; exact hc) (by rw [M8]; exact hw)) λv=>Iy a hc hw n (i+1) _
theorem Rn (t:TypeId) (a:Addr) (hc:IsC w a.block) (hw:w'.heap[a.block]? = w.heap[a.block]?):F8 P w w' (loadVar t a):=by
 unfold loadVar;refine BM (VG t) λb=>?_;split
 ·exact BM (Ix t) λn=>BM (Iy a hc hw n 0 #[]) λ_=>Ce _
 ·exact Qe a hc hw
theorem TA (t:TypeId) (a:Addr) (hc:IsC w a.block) (hw:w'.heap[a.block]? = w.heap[a.block]?):F8 P w w' (Instr.loadAt t (.pointer (some a))):=by
 intro r w1 h;have e:∀ u:World,(Instr.loadAt t (.pointer (some a))).run P u=(loadVar t a).run P u:=λu=>by
  simp [Instr.loadAt,Instr.sureAddr]
 rw [e] at h ⊢;exact Rn t a hc hw r w1 h
theorem Ro (t:TypeId) (x i:Value):F8 P w w' (Instr.indexAt t x i):=by
 unfold Instr.indexAt;refine BM (Rp i) λp=>?_;obtain ⟨k,i⟩:=p;dsimp only;refine BM (Fe t) λd=>?_;have J:∀ q:Option Addr×Nat×TypeId,F8 P w w' (do
   let d <- underlying t
   match q.1 with
   | some a =>
    if 0 <= i∧i<(q.2.1:Int) then do
     let n <- sizeOf q.2.2
     pure (Value.pointer (some (a.add (i.toNat * n))))
    else if (decide (q.2.1 <= 1) && match d with
      | .array _ _=>true
      | _=>false)=true then unsupported (.noEntry "op/indexAddr.an index out of range at an array of length 0 or 1 (ledger 616)")
    else boundsPanic k i q.2.1 .index
   | none=>boundsPanic k i 0 .index):=λq=>by
  refine BM (Fe t) λd=>?_;split
  ·split
   ·exact BM (Ix _) λ_=>Ce _
   ·have T:∀ b:Bool,F8 P w w' (if b=true then (unsupported (.noEntry "op/indexAddr.an index out of range at an array of length 0 or 1 (ledger 616)"):Sem Value) else boundsPanic k i q.2.1 .index):=λb=>by
     split
     ·exact T9 _
     ·exact MD _ _ _ _
    exact T _
  ·exact MD _ _ _ _
 split
 ·exact BM (JD _) λa=>BM (Ce _) λq=>J q
 ·exact BM (Ce _) λq=>J q
 ·exact BM (FK _) λq=>J q
theorem ZA (a:α):Tk P g (pure a):=by
 intro w r w1 hc h;simp only [Sem.run_pure,Result.ok.injEq] at h;obtain ⟨_,rfl⟩:=h;exact ⟨hc,λ_ _=>rfl⟩
theorem Wv (m:String):Tk P g (stuck m:Sem α):=by
 intro w r w1 hc h;simp [stuck,Sem.run] at h
theorem Mc {s:Sem α} {f:α->Sem β} (hs:Tk P g s) (hf:∀ r,Tk P g (f r)):Tk P g (s >>= f):=by
 intro w r w1 hc h;rw [Sem.run_bind] at h;cases hr:s.run P w with
 | halt x w2=>rw [hr] at h; simp [Result.andThen] at h
 | ok a w2 =>rw [hr] at h;obtain ⟨h1,h2⟩:=hs w a w2 hc hr;obtain ⟨h3,h4⟩:=hf a w2 r w1 h1 h;exact ⟨h3,λk hk=>by rw [h4 k hk,h2 k hk]⟩
theorem Ul (t:TypeId):Tk P g (sizeOf t):=by
 intro w r w1 hc h;obtain ⟨rfl,_⟩:=Ix (P:=P) (w:=w) (w':=w) t r w1 h;exact ⟨hc,λ_ _=>rfl⟩
theorem Ww (a:Addr) (v:Value) (ha:a.block=g):Tk P g (store a v):=by
 intro w r w1 hc h;subst ha;obtain ⟨c,t,z,hc⟩:=hc;have set:IsC (w.setCell a v) a.block∧∀ k,k ≠ a.block->(w.setCell a v).heap[k]? = w.heap[k]?:=by
  refine ⟨⟨if a.spot.isSome then c else c.setIfInBounds a.off v,t,z,?_⟩,λk hk=>?_⟩
  ·unfold World.setCell
   simp [Array.getElem?_modify,hc]
  ·unfold World.setCell
   simp [Array.getElem?_modify,Ne.symm hk]
 have key:(match w.cell? a with
  | some _=>if w.frozen? a then (.halt (.unsupported (.unsafePointer "a write to bytes that a string shares")) w:Result Unit) else .ok () (w.setCell a v)
  | none=>match w.farStore P a v false with
   | .ok (w,_)=>.ok () w
   | .error h=>.halt h w) = .ok r w1->IsC w1 a.block∧∀ k,k ≠ a.block->w1.heap[k]? = w.heap[k]?:=by
  intro h;split at h
  ·split at h
   ·cases h
   ·simp only [Result.ok.injEq] at h
    obtain ⟨_,rfl⟩:=h;exact set
  ·simp [World.farStore,hc] at h
 unfold store at h;cases v <;> first
  | (simp only [Sem.run] at h; cases h; done)
  | exact key h
theorem Fi (a:Addr) (ha:a.block=g):∀ (vs:List Value) (i:Nat),Tk P g (storeCells a vs i)
 | [],_=>ZA _
 | v::vs,i=>by
  unfold storeCells;exact Mc (Ww (a.add i) v (by rw [M8]; exact ha)) λ_=>Fi a ha vs (i+1)
theorem Sa (t:TypeId) (a:Addr) (v:Value) (ha:a.block=g):Tk P g (Instr.storeAt t (.pointer (some a)) v):=by
 intro w r w1 hc h;have e:(Instr.storeAt t (.pointer (some a)) v).run P w=(storeVar t a v).run P w:=by
  simp [Instr.storeAt,Instr.sureAddr]
 rw [e] at h;unfold storeVar at h;refine Mc (g:=g) (Ul t) (λn=>?_) w r w1 hc h;dsimp only;split
 ·exact Mc (Wv _) λ_=>Fi a ha _ 0
 ·exact Fi a ha _ 0
end
end Go.Sy
