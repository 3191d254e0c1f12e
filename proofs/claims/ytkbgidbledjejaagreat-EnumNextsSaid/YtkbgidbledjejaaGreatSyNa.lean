/-
  Loads, and places in slices, come to the same in a world that differs elsewhere; stores change one block alone. No conditions.
-/
import Derived.Test.YtkbgidbledjejaaGreatSyN
import Derived.Laws.Panics
namespace Go.Sy
def E3 {α:Type} (P:Program) (w w':World) (s:Sem α):Prop:=∀ r w1,s.run P w = .ok r w1->w1=w∧s.run P w' = .ok r w'
def IsC (w:World) (g:Nat):Prop:=∃ c t z,w.heap[g]? = some (.cells c t z)
def UJ {α:Type} (P:Program) (g:Nat) (s:Sem α):Prop:=∀ w r w1,IsC w g->s.run P w = .ok r w1->IsC w1 g∧∀ k,k ≠ g->w1.heap[k]? = w.heap[k]?
section
variable {α β:Type} {P:Program} {w w':World} {g:Nat}
theorem AV (a:α):E3 P w w' (pure a):=by
 intro r w1 h;simp only [Sem.run_pure,Result.ok.injEq] at h;obtain ⟨rfl,rfl⟩:=h;exact ⟨rfl,by simp⟩
theorem Ck (m:String):E3 P w w' (stuck m:Sem α):=by
 intro r w1 h;simp [stuck,Sem.run] at h
theorem Pq (m:Unsupported):E3 P w w' (unsupported m:Sem α):=by
 intro r w1 h;simp [unsupported,Sem.run] at h
theorem AM {s:Sem α} {f:α->Sem β} (hs:E3 P w w' s) (hf:∀ r,E3 P w w' (f r)):E3 P w w' (s >>= f):=by
 intro r w1 h;rw [Sem.run_bind] at h ⊢;cases hr:s.run P w with
 | halt x w2=>rw [hr] at h; simp [Result.andThen] at h
 | ok a w2 =>rw [hr] at h;obtain ⟨rfl,h2⟩:=hs a w2 hr;rw [h2];exact hf a r w1 h
theorem Lt:E3 P w w' program:=by
 intro r w1 h;simp only [run_program,Result.ok.injEq] at h;obtain ⟨rfl,rfl⟩:=h;exact ⟨rfl,by simp⟩
theorem Ky (t:TypeId):E3 P w w' (typeInfo t):=by
 unfold typeInfo;refine AM Lt λp=>?_;split
 ·exact AV _
 ·exact Ck _
theorem CE (t:TypeId):E3 P w w' (underlying t):=by
 unfold underlying;refine AM Lt λp=>?_;split
 ·exact AV _
 ·exact Ck _
theorem FU (t:TypeId):E3 P w w' (sizeOf t):=AM (Ky t) λ_=>AV _
theorem WS (t:TypeId):E3 P w w' (isAgg t):=by
 unfold isAgg;refine AM (CE t) λd=>?_;split <;> exact AV _
theorem RU {f:α->Sem β} (hf:∀ a,E3 P w w' (f a)):∀ l:List α,E3 P w w' (l.mapM f)
 | []=>by
  rw [List.mapM_nil];exact AV _
 | a::l=>by
  rw [List.mapM_cons];exact AM (hf a) λ_=>AM (RU hf l) λ_=>AV _
theorem Aab {f:α->Sem β} (hf:∀ a,E3 P w w' (f a)) (l:Array α):E3 P w w' (l.mapM f):=by
 rw [Array.mapM_eq_mapM_toList,map_eq_pure_bind];exact AM (RU hf _) λ_=>AV _
theorem Pp (t:TypeId):E3 P w w' (zeroValue t):=by
 unfold zeroValue;refine AM (Ky t) λd=>?_;split <;> first | exact AV _ | exact Ck _ | exact Pq _
theorem WU (t:TypeId) (parts:Array (Nat×Value)):E3 P w w' (Instr.build t parts):=by
 unfold Instr.build;refine AM (Pp t) λz=>AM (CE t) λd=>?_;split
 ·refine AM (Aab (λf=>AM (FU _) λ_=>AV _) _) λpl=>?_
  split
  ·exact AV _
  ·exact Ck _
 ·refine AM (FU _) λz=>?_
  split
  ·exact AV _
  ·exact Ck _
 ·exact Ck _
theorem Kz (v:Value):E3 P w w' (Instr.sureAddr v):=by
 unfold Instr.sureAddr;split
 ·exact AV _
 ·exact Ck _
theorem Tv (v:Value):E3 P w w' (asIntOf v):=by
 unfold asIntOf;split
 ·exact AV _
 ·exact Pq _
 ·exact Ck _
theorem NN (k:IntKind) (x y:Int) (c:BoundsCode):E3 P w w' (boundsPanic k x y c:Sem α):=by
 intro r w1 h;obtain ⟨s,w2,h2⟩:=run_boundsPanic (P:=P) (w:=w) (α:=α) k x y c;rw [h2] at h;cases h
theorem RV (a:Addr) (hc:IsC w a.block) (hw:w'.heap[a.block]? = w.heap[a.block]?):E3 P w w' (load a):=by
 intro r w1 h;obtain ⟨c,t,z,hc⟩:=hc;unfold load at h ⊢;simp only [Sem.run] at h ⊢;rw [World.cell?_of_block hw];cases hv:w.cell? a with
 | some v =>rw [hv] at h;simp only [Result.ok.injEq] at h ⊢;obtain ⟨rfl,rfl⟩:=h;simp
 | none =>rw [hv] at h;simp [World.farLoad,hc] at h
theorem NJ (a:Addr) (i:Nat):(a.add i).block=a.block:=by
 unfold Addr.add;split <;> rfl
theorem Jk (a:Addr) (hc:IsC w a.block) (hw:w'.heap[a.block]? = w.heap[a.block]?):∀ (n i:Nat) (acc:Array Value),E3 P w w' (loadCellsFrom a i n acc)
 | 0,_,_=>AV _
 | n+1,i,acc=>AM (RV (a.add i) (by rw [NJ]; exact hc) (by rw [NJ]; exact hw)) λv=>Jk a hc hw n (i+1) _
theorem Tt (t:TypeId) (a:Addr) (hc:IsC w a.block) (hw:w'.heap[a.block]? = w.heap[a.block]?):E3 P w w' (loadVar t a):=by
 unfold loadVar;refine AM (WS t) λb=>?_;split
 ·exact AM (FU t) λn=>AM (Jk a hc hw n 0 #[]) λ_=>AV _
 ·exact RV a hc hw
theorem UP (t:TypeId) (a:Addr) (hc:IsC w a.block) (hw:w'.heap[a.block]? = w.heap[a.block]?):E3 P w w' (Instr.loadAt t (.pointer (some a))):=by
 intro r w1 h;have e:∀ u:World,(Instr.loadAt t (.pointer (some a))).run P u=(loadVar t a).run P u:=λu=>by
  simp [Instr.loadAt,Instr.sureAddr]
 rw [e] at h ⊢;exact Tt t a hc hw r w1 h
theorem Tu (t:TypeId) (x i:Value):E3 P w w' (Instr.indexAt t x i):=by
 unfold Instr.indexAt;refine AM (Tv i) λp=>?_;obtain ⟨k,i⟩:=p;dsimp only;refine AM (CE t) λd=>?_;have J:∀ q:Option Addr×Nat×TypeId,E3 P w w' (do
   let d <- underlying t
   match q.1 with
   | some a =>
    if 0 <= i∧i<(q.2.1:Int) then do
     let n <- sizeOf q.2.2
     pure (Value.pointer (some (a.add (i.toNat * n))))
    else if (decide (q.2.1 <= 1) && match d with
      | .array _ _=>true
      | _=>false)=true then unsupported (.noEntry "op/indexAddr.an index out of range at an array of length 0 or 1 (ledger 616)")
    else boundsPanic k i q.2.1 .index
   | none=>boundsPanic k i 0 .index):=λq=>by
  refine AM (CE t) λd=>?_;split
  ·split
   ·exact AM (FU _) λ_=>AV _
   ·have T:∀ b:Bool,E3 P w w' (if b=true then (unsupported (.noEntry "op/indexAddr.an index out of range at an array of length 0 or 1 (ledger 616)"):Sem Value) else boundsPanic k i q.2.1 .index):=λb=>by
     split
     ·exact Pq _
     ·exact NN _ _ _ _
    exact T _
  ·exact NN _ _ _ _
 split
 ·exact AM (Kz _) λa=>AM (AV _) λq=>J q
 ·exact AM (AV _) λq=>J q
 ·exact AM (Ck _) λq=>J q
theorem Aay (a:α):UJ P g (pure a):=by
 intro w r w1 hc h;simp only [Sem.run_pure,Result.ok.injEq] at h;obtain ⟨_,rfl⟩:=h;exact ⟨hc,λ_ _=>rfl⟩
theorem Xx (m:String):UJ P g (stuck m:Sem α):=by
 intro w r w1 hc h;simp [stuck,Sem.run] at h
theorem Nh {s:Sem α} {f:α->Sem β} (hs:UJ P g s) (hf:∀ r,UJ P g (f r)):UJ P g (s >>= f):=by
 intro w r w1 hc h;rw [Sem.run_bind] at h;cases hr:s.run P w with
 | halt x w2=>rw [hr] at h; simp [Result.andThen] at h
 | ok a w2 =>rw [hr] at h;obtain ⟨h1,h2⟩:=hs w a w2 hc hr;obtain ⟨h3,h4⟩:=hf a w2 r w1 h1 h;exact ⟨h3,λk hk=>by rw [h4 k hk,h2 k hk]⟩
theorem Vt (t:TypeId):UJ P g (sizeOf t):=by
 intro w r w1 hc h;obtain ⟨rfl,_⟩:=FU (P:=P) (w:=w) (w':=w) t r w1 h;exact ⟨hc,λ_ _=>rfl⟩
theorem Xy (a:Addr) (v:Value) (ha:a.block=g):UJ P g (store a v):=by
 intro w r w1 hc h;subst ha;obtain ⟨c,t,z,hc⟩:=hc;have set:IsC (w.setCell a v) a.block∧∀ k,k ≠ a.block->(w.setCell a v).heap[k]? = w.heap[k]?:=by
  refine ⟨⟨if a.spot.isSome then c else c.setIfInBounds a.off v,t,z,?_⟩,λk hk=>?_⟩
  ·unfold World.setCell
   simp [Array.getElem?_modify,hc]
  ·unfold World.setCell
   simp [Array.getElem?_modify,Ne.symm hk]
 have key:(match w.cell? a with
  | some _=>if w.frozen? a then (.halt (.unsupported (.unsafePointer "a write to bytes that a string shares")) w:Result Unit) else .ok () (w.setCell a v)
  | none=>match w.farStore P a v false with
   | .ok (w,_)=>.ok () w
   | .error h=>.halt h w) = .ok r w1->IsC w1 a.block∧∀ k,k ≠ a.block->w1.heap[k]? = w.heap[k]?:=by
  intro h;split at h
  ·split at h
   ·cases h
   ·simp only [Result.ok.injEq] at h
    obtain ⟨_,rfl⟩:=h;exact set
  ·simp [World.farStore,hc] at h
 unfold store at h;cases v <;> first
  | (simp only [Sem.run] at h; cases h; done)
  | exact key h
theorem Gk (a:Addr) (ha:a.block=g):∀ (vs:List Value) (i:Nat),UJ P g (storeCells a vs i)
 | [],_=>Aay _
 | v::vs,i=>by
  unfold storeCells;exact Nh (Xy (a.add i) v (by rw [NJ]; exact ha)) λ_=>Gk a ha vs (i+1)
theorem TL (t:TypeId) (a:Addr) (v:Value) (ha:a.block=g):UJ P g (Instr.storeAt t (.pointer (some a)) v):=by
 intro w r w1 hc h;have e:(Instr.storeAt t (.pointer (some a)) v).run P w=(storeVar t a v).run P w:=by
  simp [Instr.storeAt,Instr.sureAddr]
 rw [e] at h;unfold storeVar at h;refine Nh (g:=g) (Vt t) (λn=>?_) w r w1 hc h;dsimp only;split
 ·exact Nh (Xx _) λ_=>Gk a ha _ 0
 ·exact Gk a ha _ 0
end
end Go.Sy
