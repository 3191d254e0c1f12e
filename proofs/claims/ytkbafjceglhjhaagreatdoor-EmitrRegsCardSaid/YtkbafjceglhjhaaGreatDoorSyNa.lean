/-
  Loads, and places in slices, come to the same in a world that differs elsewhere; stores change one block alone. No conditions.
-/
import Derived.Test.YtkbafjceglhjhaaGreatDoorSyN
import Derived.Laws.Panics
namespace Go.Sy
def Eg {α:Type} (P:Program) (w w':World) (s:Sem α):Prop:=∀ r w1,s.run P w = .ok r w1->w1=w∧s.run P w' = .ok r w'
def IsC (w:World) (g:Nat):Prop:=∃ c t z,w.heap[g]? = some (.cells c t z)
def QY {α:Type} (P:Program) (g:Nat) (s:Sem α):Prop:=∀ w r w1,IsC w g->s.run P w = .ok r w1->IsC w1 g∧∀ k,k ≠ g->w1.heap[k]? = w.heap[k]?
section
variable {α β:Type} {P:Program} {w w':World} {g:Nat}
theorem Bo (a:α):Eg P w w' (pure a):=by
 intro r w1 h;simp only [Sem.run_pure,Result.ok.injEq] at h;obtain ⟨rfl,rfl⟩:=h;exact ⟨rfl,by simp⟩
theorem CO (m:String):Eg P w w' (stuck m:Sem α):=by
 intro r w1 h;simp [stuck,Sem.run] at h
theorem M4 (m:Unsupported):Eg P w w' (unsupported m:Sem α):=by
 intro r w1 h;simp [unsupported,Sem.run] at h
theorem AW {s:Sem α} {f:α->Sem β} (hs:Eg P w w' s) (hf:∀ r,Eg P w w' (f r)):Eg P w w' (s >>= f):=by
 intro r w1 h;rw [Sem.run_bind] at h ⊢;cases hr:s.run P w with
 | halt x w2=>rw [hr] at h; simp [Result.andThen] at h
 | ok a w2 =>rw [hr] at h;obtain ⟨rfl,h2⟩:=hs a w2 hr;rw [h2];exact hf a r w1 h
theorem J5:Eg P w w' program:=by
 intro r w1 h;simp only [run_program,Result.ok.injEq] at h;obtain ⟨rfl,rfl⟩:=h;exact ⟨rfl,by simp⟩
theorem IF (t:TypeId):Eg P w w' (typeInfo t):=by
 unfold typeInfo;refine AW J5 λp=>?_;split
 ·exact Bo _
 ·exact CO _
theorem D9 (t:TypeId):Eg P w w' (underlying t):=by
 unfold underlying;refine AW J5 λp=>?_;split
 ·exact Bo _
 ·exact CO _
theorem EC (t:TypeId):Eg P w w' (sizeOf t):=AW (IF t) λ_=>Bo _
theorem T8 (t:TypeId):Eg P w w' (isAgg t):=by
 unfold isAgg;refine AW (D9 t) λd=>?_;split <;> exact Bo _
theorem O0 {f:α->Sem β} (hf:∀ a,Eg P w w' (f a)):∀ l:List α,Eg P w w' (l.mapM f)
 | []=>by
  rw [List.mapM_nil];exact Bo _
 | a::l=>by
  rw [List.mapM_cons];exact AW (hf a) λ_=>AW (O0 hf l) λ_=>Bo _
theorem WM {f:α->Sem β} (hf:∀ a,Eg P w w' (f a)) (l:Array α):Eg P w w' (l.mapM f):=by
 rw [Array.mapM_eq_mapM_toList,map_eq_pure_bind];exact AW (O0 hf _) λ_=>Bo _
theorem M3 (t:TypeId):Eg P w w' (zeroValue t):=by
 unfold zeroValue;refine AW (IF t) λd=>?_;split <;> first | exact Bo _ | exact CO _ | exact M4 _
theorem TB (t:TypeId) (parts:Array (Nat×Value)):Eg P w w' (Instr.build t parts):=by
 unfold Instr.build;refine AW (M3 t) λz=>AW (D9 t) λd=>?_;split
 ·refine AW (WM (λf=>AW (EC _) λ_=>Bo _) _) λpl=>?_
  split
  ·exact Bo _
  ·exact CO _
 ·refine AW (EC _) λz=>?_
  split
  ·exact Bo _
  ·exact CO _
 ·exact CO _
theorem IG (v:Value):Eg P w w' (Instr.sureAddr v):=by
 unfold Instr.sureAddr;split
 ·exact Bo _
 ·exact CO _
theorem P7 (v:Value):Eg P w w' (asIntOf v):=by
 unfold asIntOf;split
 ·exact Bo _
 ·exact M4 _
 ·exact CO _
theorem Lr (k:IntKind) (x y:Int) (c:BoundsCode):Eg P w w' (boundsPanic k x y c:Sem α):=by
 intro r w1 h;obtain ⟨s,w2,h2⟩:=run_boundsPanic (P:=P) (w:=w) (α:=α) k x y c;rw [h2] at h;cases h
theorem O1 (a:Addr) (hc:IsC w a.block) (hw:w'.heap[a.block]? = w.heap[a.block]?):Eg P w w' (load a):=by
 intro r w1 h;obtain ⟨c,t,z,hc⟩:=hc;unfold load at h ⊢;simp only [Sem.run] at h ⊢;rw [World.cell?_of_block hw];cases hv:w.cell? a with
 | some v =>rw [hv] at h;simp only [Result.ok.injEq] at h ⊢;obtain ⟨rfl,rfl⟩:=h;simp
 | none =>rw [hv] at h;simp [World.farLoad,hc] at h
theorem Ll (a:Addr) (i:Nat):(a.add i).block=a.block:=by
 unfold Addr.add;split <;> rfl
theorem HA (a:Addr) (hc:IsC w a.block) (hw:w'.heap[a.block]? = w.heap[a.block]?):∀ (n i:Nat) (acc:Array Value),Eg P w w' (loadCellsFrom a i n acc)
 | 0,_,_=>Bo _
 | n+1,i,acc=>AW (O1 (a.add i) (by rw [Ll]; exact hc) (by rw [Ll]; exact hw)) λv=>HA a hc hw n (i+1) _
theorem P5 (t:TypeId) (a:Addr) (hc:IsC w a.block) (hw:w'.heap[a.block]? = w.heap[a.block]?):Eg P w w' (loadVar t a):=by
 unfold loadVar;refine AW (T8 t) λb=>?_;split
 ·exact AW (EC t) λn=>AW (HA a hc hw n 0 #[]) λ_=>Bo _
 ·exact O1 a hc hw
theorem Rs (t:TypeId) (a:Addr) (hc:IsC w a.block) (hw:w'.heap[a.block]? = w.heap[a.block]?):Eg P w w' (Instr.loadAt t (.pointer (some a))):=by
 intro r w1 h;have e:∀ u:World,(Instr.loadAt t (.pointer (some a))).run P u=(loadVar t a).run P u:=λu=>by
  simp [Instr.loadAt,Instr.sureAddr]
 rw [e] at h ⊢;exact P5 t a hc hw r w1 h
theorem P6 (t:TypeId) (x i:Value):Eg P w w' (Instr.indexAt t x i):=by
 unfold Instr.indexAt;refine AW (P7 i) λp=>?_;obtain ⟨k,i⟩:=p;dsimp only;refine AW (D9 t) λd=>?_;have J:∀ q:Option Addr×Nat×TypeId,Eg P w w' (do
   let d <- underlying t
   match q.1 with
   | some a =>
    if 0 <= i∧i<(q.2.1:Int) then do
     let n <- sizeOf q.2.2
     pure (Value.pointer (some (a.add (i.toNat * n))))
    else if (decide (q.2.1 <= 1) && match d with
      | .array _ _=>true
      | _=>false)=true then unsupported (.noEntry "op/indexAddr.an index out of range at an array of length 0 or 1 (ledger 616)")
    else boundsPanic k i q.2.1 .index
   | none=>boundsPanic k i 0 .index):=λq=>by
  refine AW (D9 t) λd=>?_;split
  ·split
   ·exact AW (EC _) λ_=>Bo _
   ·have T:∀ b:Bool,Eg P w w' (if b=true then (unsupported (.noEntry "op/indexAddr.an index out of range at an array of length 0 or 1 (ledger 616)"):Sem Value) else boundsPanic k i q.2.1 .index):=λb=>by
     split
     ·exact M4 _
     ·exact Lr _ _ _ _
    exact T _
  ·exact Lr _ _ _ _
 split
 ·exact AW (IG _) λa=>AW (Bo _) λq=>J q
 ·exact AW (Bo _) λq=>J q
 ·exact AW (CO _) λq=>J q
theorem Xg (a:α):QY P g (pure a):=by
 intro w r w1 hc h;simp only [Sem.run_pure,Result.ok.injEq] at h;obtain ⟨_,rfl⟩:=h;exact ⟨hc,λ_ _=>rfl⟩
theorem Uh (m:String):QY P g (stuck m:Sem α):=by
 intro w r w1 hc h;simp [stuck,Sem.run] at h
theorem KL {s:Sem α} {f:α->Sem β} (hs:QY P g s) (hf:∀ r,QY P g (f r)):QY P g (s >>= f):=by
 intro w r w1 hc h;rw [Sem.run_bind] at h;cases hr:s.run P w with
 | halt x w2=>rw [hr] at h; simp [Result.andThen] at h
 | ok a w2 =>rw [hr] at h;obtain ⟨h1,h2⟩:=hs w a w2 hc hr;obtain ⟨h3,h4⟩:=hf a w2 r w1 h1 h;exact ⟨h3,λk hk=>by rw [h4 k hk,h2 k hk]⟩
theorem RY (t:TypeId):QY P g (sizeOf t):=by
 intro w r w1 hc h;obtain ⟨rfl,_⟩:=EC (P:=P) (w:=w) (w':=w) t r w1 h;exact ⟨hc,λ_ _=>rfl⟩
theorem Ui (a:Addr) (v:Value) (ha:a.block=g):QY P g (store a v):=by
 intro w r w1 hc h;subst ha;obtain ⟨c,t,z,hc⟩:=hc;have set:IsC (w.setCell a v) a.block∧∀ k,k ≠ a.block->(w.setCell a v).heap[k]? = w.heap[k]?:=by
  refine ⟨⟨if a.spot.isSome then c else c.setIfInBounds a.off v,t,z,?_⟩,λk hk=>?_⟩
  ·unfold World.setCell
   simp [Array.getElem?_modify,hc]
  ·unfold World.setCell
   simp [Array.getElem?_modify,Ne.symm hk]
 have key:(match w.cell? a with
  | some _=>if w.frozen? a then (.halt (.unsupported (.unsafePointer "a write to bytes that a string shares")) w:Result Unit) else .ok () (w.setCell a v)
  | none=>match w.farStore P a v false with
   | .ok (w,_)=>.ok () w
   | .error h=>.halt h w) = .ok r w1->IsC w1 a.block∧∀ k,k ≠ a.block->w1.heap[k]? = w.heap[k]?:=by
  intro h;split at h
  ·split at h
   ·cases h
   ·simp only [Result.ok.injEq] at h
    obtain ⟨_,rfl⟩:=h;exact set
  ·simp [World.farStore,hc] at h
 unfold store at h;cases v <;> first
  | (simp only [Sem.run] at h; cases h; done)
  | exact key h
theorem EU (a:Addr) (ha:a.block=g):∀ (vs:List Value) (i:Nat),QY P g (storeCells a vs i)
 | [],_=>Xg _
 | v::vs,i=>by
  unfold storeCells;exact KL (Ui (a.add i) v (by rw [Ll]; exact ha)) λ_=>EU a ha vs (i+1)
theorem Qa (t:TypeId) (a:Addr) (v:Value) (ha:a.block=g):QY P g (Instr.storeAt t (.pointer (some a)) v):=by
 intro w r w1 hc h;have e:(Instr.storeAt t (.pointer (some a)) v).run P w=(storeVar t a v).run P w:=by
  simp [Instr.storeAt,Instr.sureAddr]
 rw [e] at h;unfold storeVar at h;refine KL (g:=g) (RY t) (λn=>?_) w r w1 hc h;dsimp only;split
 ·exact KL (Uh _) λ_=>EU a ha _ 0
 ·exact EU a ha _ 0
end
end Go.Sy
