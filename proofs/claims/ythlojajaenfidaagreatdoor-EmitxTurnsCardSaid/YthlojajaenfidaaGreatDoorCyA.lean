/-
  The frame of this seat's laws: arguments read, a world for the witness. No conditions.
-/
import Derived.Test.YthlojajaenfidaaGreatDoorEdD
import Derived.Test.YthlojajaenfidaaGreatDoorCards
import Derived.Test.YthlojajaenfidaaGreatDoorTie
import Derived.ProofKit
import Derived.OpenShut
import Derived.Deep.DeepHandedRow
import Derived.Test.YthlojajaenfidaaGreatDoorSyS
namespace Go.Proofs.YthlojajaenfidaaGreatDoor.Ed
open Go.Sy
set_option maxRecDepth 100000
theorem own:ownKnob Tryz.prog.godebug = none:=by kernel_rfl
theorem Rr:laidOutB Tryz.prog = true:=by kernel_rfl
def RC (e:E6):List Value:=[.int .i64 e.kind,.bool e.ext,.bool e.same,.int .i64 e.src,.int .i64 e.dst,.int .i64 e.fence]
section
variable {H:Type} {enc:TypeId × Value->H} {W:World} {sp:Nat->Bool} {held:Bool} {r:Reach} {b0:Nat} {v:Value} {d:DataW H} {ps:List MemPlace}
theorem G7 {c d:Value} {cs:List Value} (h:cs = [d]) (hc:[c] = cs):c = d:=by
 subst h
 simpa using hc
theorem VG (fuel:Nat) (cs:List Value) (x:DataW H × List MemPlace) (h:DataW.trod enc Tryz.prog W 0 sp held fuel 57 cs = some x):∃ e:E6,cs = RC e:=by
 obtain ⟨xs,n,_,_,hl,hx,hf⟩:=DataW.trod_struct Tryz.underlying57 h
 have hl:cs.length = 6:=hl.trans (by kernel_rfl)
 have hx:xs.length = 6:=hx
 obtain ⟨c0,c1,c2,c3,c4,c5,rfl⟩:∃ a b c d e f,cs = [a,b,c,d,e,f]:=by
  match cs,hl with
  | [a,b,c,d,e,f],_=>exact ⟨a,b,c,d,e,f,rfl⟩
 have get:∀ (i:Nat) (f:Field),#[({ name := "Kind",type:=3,offset:=0,embedded:=false,tag := "",pkgPath := "",byteOffset:=0 }:Field),
    { name := "Ext",type:=4,offset:=1,embedded:=false,tag := "",pkgPath := "",byteOffset:=8 },
    { name := "Same",type:=4,offset:=2,embedded:=false,tag := "",pkgPath := "",byteOffset:=9 },
    { name := "Src",type:=3,offset:=3,embedded:=false,tag := "",pkgPath := "",byteOffset:=16 },
    { name := "Dst",type:=3,offset:=4,embedded:=false,tag := "",pkgPath := "",byteOffset:=24 },
    { name := "Fence",type:=3,offset:=5,embedded:=false,tag := "",pkgPath := "",byteOffset:=32 }][i]? = some f->i < 6 ->
   ∃ y,DataW.trod enc Tryz.prog W 0 sp held n f.type (([c0,c1,c2,c3,c4,c5].drop f.offset).take (Tryz.prog.cellsOf f.type)) = some y:=by
  intro i f hi hlt
  have:=hf i f hi
  rw [List.getElem?_eq_getElem (by omega)] at this
  exact ⟨_,this⟩
 have n3:Tryz.prog.cellsOf 3 = 1:=by kernel_rfl
 have n4:Tryz.prog.cellsOf 4 = 1:=by kernel_rfl
 obtain ⟨y0,g0⟩:=get 0 _ rfl (by omega)
 obtain ⟨y1,g1⟩:=get 1 _ rfl (by omega)
 obtain ⟨y2,g2⟩:=get 2 _ rfl (by omega)
 obtain ⟨y3,g3⟩:=get 3 _ rfl (by omega)
 obtain ⟨y4,g4⟩:=get 4 _ rfl (by omega)
 obtain ⟨y5,g5⟩:=get 5 _ rfl (by omega)
 have g0:DataW.trod enc Tryz.prog W 0 sp held n 3 (([c0,c1,c2,c3,c4,c5].drop 0).take (Tryz.prog.cellsOf 3)) = some y0:=g0
 rw [n3] at g0
 have g1:DataW.trod enc Tryz.prog W 0 sp held n 4 (([c0,c1,c2,c3,c4,c5].drop 1).take (Tryz.prog.cellsOf 4)) = some y1:=g1
 rw [n4] at g1
 have g2:DataW.trod enc Tryz.prog W 0 sp held n 4 (([c0,c1,c2,c3,c4,c5].drop 2).take (Tryz.prog.cellsOf 4)) = some y2:=g2
 rw [n4] at g2
 have g3:DataW.trod enc Tryz.prog W 0 sp held n 3 (([c0,c1,c2,c3,c4,c5].drop 3).take (Tryz.prog.cellsOf 3)) = some y3:=g3
 rw [n3] at g3
 have g4:DataW.trod enc Tryz.prog W 0 sp held n 3 (([c0,c1,c2,c3,c4,c5].drop 4).take (Tryz.prog.cellsOf 3)) = some y4:=g4
 rw [n3] at g4
 have g5:DataW.trod enc Tryz.prog W 0 sp held n 3 (([c0,c1,c2,c3,c4,c5].drop 5).take (Tryz.prog.cellsOf 3)) = some y5:=g5
 rw [n3] at g5
 obtain ⟨a0,e0,_⟩:=DataW.trod_int Tryz.underlying3 g0
 obtain ⟨a1,e1,_⟩:=DataW.trod_bool Tryz.underlying4 g1
 obtain ⟨a2,e2,_⟩:=DataW.trod_bool Tryz.underlying4 g2
 obtain ⟨a3,e3,_⟩:=DataW.trod_int Tryz.underlying3 g3
 obtain ⟨a4,e4,_⟩:=DataW.trod_int Tryz.underlying3 g4
 obtain ⟨a5,e5,_⟩:=DataW.trod_int Tryz.underlying3 g5
 have e0:c0 = .int .i64 a0:=G7 e0 rfl
 have e1:c1 = .bool a1:=G7 e1 rfl
 have e2:c2 = .bool a2:=G7 e2 rfl
 have e3:c3 = .int .i64 a3:=G7 e3 rfl
 have e4:c4 = .int .i64 a4:=G7 e4 rfl
 have e5:c5 = .int .i64 a5:=G7 e5 rfl
 exact ⟨⟨a0,a1,a2,a3,a4,a5⟩,by rw [e0,e1,e2,e3,e4,e5]; rfl⟩
theorem Aee (S:Nat->Prop) (w:World) (κ:Nat->Option Value) (e:E6):VR S w (eV e) κ (.agg (RC e).toArray) :=
 ⟨_,rfl,_,_,rfl,rfl,_,_,rfl,rfl,_,_,rfl,rfl,_,_,rfl,rfl,_,_,rfl,rfl,_,_,rfl,rfl,rfl⟩
def AbT (W:World) (v:Value) (u:V):Prop:=VR (Pf W) W u noK v
theorem XO (hval:Value.okWide Tryz.prog W r b0 3 v) (h:DataW.Trod enc Tryz.prog W 0 sp held 3 v d ps):∃ n:Int,AbT W v (iV n):=by
 obtain ⟨n,rfl,_⟩:=ChangeShapes.open_int Tryz.underlying3 hval h
 exact ⟨n,rfl⟩
theorem UH (hval:Value.okWide Tryz.prog W r b0 9 v) (h:DataW.Trod enc Tryz.prog W 0 sp held 9 v d ps):∃ s:List UInt8,AbT W v (.str s) ∧ s.length <= maxLen ∧ d = .lit (.string s):=by
 obtain ⟨s,rfl,hd,_,hs⟩:=ChangeMaps.open_string Tryz.underlying9 hval h
 exact ⟨s.data.toList,rfl,hs,hd⟩
instance:Inhabited E6:=⟨Ft⟩
theorem S5 (hval:Value.okWide Tryz.prog W r b0 22 v) (h:DataW.Trod enc Tryz.prog W 0 sp held 22 v d ps) :
  ∃ (n:Nat) (xs:Nat->E6),AbT W v (.sl 6 n λi=>eV (xs i)) ∧ (n = 0 ∨ ∃ els rest,d = .slice els rest ∧ els.length = n) :=
 UI (f:=RC) (g:=eV) (s:=6) Tryz.underlying22 (by kernel_rfl) (by omega) (λe u hu=>by simp [RC] at hu; rcases hu with rfl | rfl | rfl | rfl | rfl | rfl <;> rfl)
  (λS w e=>⟨_,Aee S w noK e,rfl⟩) VG hval h
end
noncomputable def LL (os:Os):World :=
 { World.holding Tryz.prog os ⟨#[],#[],[]⟩ with heap:=(World.holding Tryz.prog os ⟨#[],#[],[]⟩).heap.mapIdx λi o=>match o with
   | .cells cs t frozen=>.cells (match i with
    | 0=>(R9.map λz=>Value.string ⟨z.toArray⟩).toArray
    | 1=>(Xn.map λz=>Value.string ⟨z.toArray⟩).toArray
    | 2=>(Wk.map λz=>Value.string ⟨z.toArray⟩).toArray
    | 3=>(Xd.map λz=>Value.string ⟨z.toArray⟩).toArray
    | _=>cs) t frozen
   | o=>o }
end Go.Proofs.YthlojajaenfidaaGreatDoor.Ed
namespace Go.Proofs.YthlojajaenfidaaGreatDoor.Ed
open Go.Sy
set_option maxRecDepth 100000
theorem Anm {W:World} (hL:laidMetH Tryz.prog Rows.emitxTurnsRow.laid W):RO Gl (Pf W) W:=by
 have hL:laidMet Tryz.prog [("alembic/edge.comms",.agg (R9.map λz=>.lit (.string z))),("alembic/edge.ends",.agg (Xd.map λz=>.lit (.string z))),("alembic/edge.sets",.agg (Wk.map λz=>.lit (.string z))),("alembic/edge.deps",.agg (Xn.map λz=>.lit (.string z)))] W:=hL
 obtain ⟨ps,hv,_,_⟩:=hL
 obtain ⟨h0,q0,hv⟩:=JU (g:=0) (t:=142) (e:=9) (n:=6) (by kernel_rfl) (by kernel_rfl) (by kernel_rfl) (by kernel_rfl) (by kernel_rfl) (by kernel_rfl) hv
 obtain ⟨h3,q3,hv⟩:=JU (g:=3) (t:=145) (e:=9) (n:=4) (by kernel_rfl) (by kernel_rfl) (by kernel_rfl) (by kernel_rfl) (by kernel_rfl) (by kernel_rfl) hv
 obtain ⟨h2,q2,hv⟩:=JU (g:=2) (t:=144) (e:=9) (n:=9) (by kernel_rfl) (by kernel_rfl) (by kernel_rfl) (by kernel_rfl) (by kernel_rfl) (by kernel_rfl) hv
 obtain ⟨h1,q1,hv⟩:=JU (g:=1) (t:=143) (e:=9) (n:=10) (by kernel_rfl) (by kernel_rfl) (by kernel_rfl) (by kernel_rfl) (by kernel_rfl) (by kernel_rfl) hv
 intro g
 match g with
 | 0=>exact h0
 | 1=>exact h1
 | 2=>exact h2
 | 3=>exact h3
 | n+4=>trivial
end Go.Proofs.YthlojajaenfidaaGreatDoor.Ed
namespace Go.Proofs.YthlojajaenfidaaGreatDoor.Ed
open Go.Sy
def ap1 {α:Type} (d:V->Option α) (F:α->T (V × List Blk)):List V->T (V × List Blk)
 | [v]=>match d v with
  | some a=>F a
  | none=>.fail
 | _=>.fail
def ap2 {α β:Type} (d:V->Option α) (e:V->Option β) (F:α->β->T (V × List Blk)):List V->T (V × List Blk)
 | [v,u]=>match d v,e u with
  | some a,some b=>F a b
  | _,_=>.fail
 | _=>.fail
theorem TP {α:Type} {d:V->Option α} {c:α->V} (hd:∀ v a,d v = some a->v = c a) {F:α->T (V × List Blk)} {vs:List V} {r:V × List Blk} (h:(ap1 d F vs).sem = some r) :
  ∃ a,vs = [c a] ∧ (F a).sem = some r:=by
 unfold ap1 at h
 split at h
 ·split at h
  ·rename_i v _ a ha
   exact ⟨a,by rw [hd v a ha],h⟩
  ·cases h
 ·cases h
theorem Lj {α β:Type} {d:V->Option α} {e:V->Option β} {c:α->V} {c':β->V} (hd:∀ v a,d v = some a->v = c a) (he:∀ v b,e v = some b->v = c' b) {F:α->β->T (V × List Blk)}
  {vs:List V} {r:V × List Blk} (h:(ap2 d e F vs).sem = some r):∃ a b,vs = [c a,c' b] ∧ (F a b).sem = some r:=by
 unfold ap2 at h
 split at h
 ·split at h
  ·rename_i v u _ _ a b ha hb
   exact ⟨a,b,by rw [hd v a ha,he u b hb],h⟩
  ·cases h
 ·cases h
theorem On:∀ v a,gI v = some a->v = iV a:=λ_ _ h=>FS h
theorem Uc:∀ v a,toE v = some a->v = eV a:=λ_ _ h=>Nf h
def out (v:V):T (V × List Blk):=.leaf (v,[])
def Cp (a:Int):Bool:=bor (ieq a 1) (ieq a 2)
def Gh (a n:Int):Bool:=bor (ilt n 14) (JM (ilt n 22) (ieq a 1))
def Tk (a:Int) (e:E6):Bool :=
 bor (ieq e.kind 1) (bor (ieq e.kind 2) (bor (ieq e.kind 3) (bor (ieq e.kind 4) (sel (ieq e.kind 5) (JM (ieq e.fence 1) (ieq a 1)) (ieq a 2)))))
theorem Ad8 (a:Int):(Au (Ah tab cx6 Tryz.f77 [iV a] [])).sem = some (bV (Cp a),[]):=by
 have h1:(Au (Ah tab cx6 Tryz.f77 [iV a] [])).path [true,true,true] = some ([ieq a 1,ieq a 1,ieq a 1],(bV true,[])):=by kernel_rfl
 have h2:(Au (Ah tab cx6 Tryz.f77 [iV a] [])).path [false,false,false] = some ([ieq a 1,ieq a 1,ieq a 1],(bV (ieq a 2),[])):=by kernel_rfl
 unfold Cp
 cases h:ieq a 1 with
 | true=>exact AO h1 (by rw [h])
 | false=>exact AO h2 (by rw [h])
theorem Ad7 (a:Int):(Au (Ah tab cx6 Tryz.f89 [iV a] [])).sem = some (bV (Cp a),[]):=by
 have h1:(Au (Ah tab cx6 Tryz.f89 [iV a] [])).path [true,true,true] = some ([ieq a 1,ieq a 1,ieq a 1],(bV true,[])):=by kernel_rfl
 have h2:(Au (Ah tab cx6 Tryz.f89 [iV a] [])).path [false,false,false] = some ([ieq a 1,ieq a 1,ieq a 1],(bV (ieq a 2),[])):=by kernel_rfl
 unfold Cp
 cases h:ieq a 1 with
 | true=>exact AO h1 (by rw [h])
 | false=>exact AO h2 (by rw [h])
theorem Ad3 (a n:Int):(Au (Ah tab cx6 Tryz.f78 [iV a,iV n] [])).sem = some (bV (Gh a n),[]):=by
 have h1:(Au (Ah tab cx6 Tryz.f78 [iV a,iV n] [])).path [true] = some ([ilt n 14],(bV true,[])):=by kernel_rfl
 have h2:(Au (Ah tab cx6 Tryz.f78 [iV a,iV n] [])).path [false] = some ([ilt n 14],(bV (JM (ilt n 22) (ieq a 1)),[])):=by kernel_rfl
 unfold Gh
 cases h:ilt n 14 with
 | true=>exact AO h1 (by rw [h])
 | false=>exact AO h2 (by rw [h])
theorem Alu (a:Int) (e:E6):(Au (Ah tab cx6 Tryz.f90 [iV a,eV e] [])).sem = some (bV (Tk a e),[]):=by
 have h1:(Au (Ah tab cx6 Tryz.f90 [iV a,eV e] [])).path [true,true] = some ([ieq e.kind 1,ieq e.kind 1],(bV true,[])):=by kernel_rfl
 have h2:(Au (Ah tab cx6 Tryz.f90 [iV a,eV e] [])).path [false,true,true] = some ([ieq e.kind 1,ieq e.kind 2,ieq e.kind 2],(bV true,[])):=by kernel_rfl
 have h3:(Au (Ah tab cx6 Tryz.f90 [iV a,eV e] [])).path [false,false,true,true] = some ([ieq e.kind 1,ieq e.kind 2,ieq e.kind 3,ieq e.kind 3],(bV true,[])):=by kernel_rfl
 have h4:(Au (Ah tab cx6 Tryz.f90 [iV a,eV e] [])).path [false,false,false,true] = some ([ieq e.kind 1,ieq e.kind 2,ieq e.kind 3,ieq e.kind 4],(bV true,[])):=by kernel_rfl
 have h5:(Au (Ah tab cx6 Tryz.f90 [iV a,eV e] [])).path [false,false,false,false,true] = some ([ieq e.kind 1,ieq e.kind 2,ieq e.kind 3,ieq e.kind 4,ieq e.kind 5],(bV (JM (ieq e.fence 1) (ieq a 1)),[])):=by kernel_rfl
 have h6:(Au (Ah tab cx6 Tryz.f90 [iV a,eV e] [])).path [false,false,false,false,false] = some ([ieq e.kind 1,ieq e.kind 2,ieq e.kind 3,ieq e.kind 4,ieq e.kind 5],(bV (ieq a 2),[])):=by kernel_rfl
 unfold Tk
 cases c1:ieq e.kind 1 with
 | true=>exact AO h1 (by rw [c1])
 | false =>
 cases c2:ieq e.kind 2 with
 | true=>exact AO h2 (by rw [c1,c2])
 | false =>
 cases c3:ieq e.kind 3 with
 | true=>exact AO h3 (by rw [c1,c2,c3])
 | false =>
 cases c4:ieq e.kind 4 with
 | true=>exact AO h4 (by rw [c1,c2,c3,c4])
 | false =>
 cases c5:ieq e.kind 5 with
 | true=>exact AO h5 (by rw [c1,c2,c3,c4,c5])
 | false=>exact AO h6 (by rw [c1,c2,c3,c4,c5])
theorem p77:A6 Tryz.prog Gl 77 (ap1 gI λa=>out (bV (Cp a))):=by
 refine A6.congr (AL AI mixed Tryz.func77 (by kernel_rfl) (by kernel_rfl) (Γ:=cx6) (AK Nj _)) λvs r h=>?_
 obtain ⟨a,rfl,h⟩:=TP On h
 rw [Ac h]
 exact Ad8 a
theorem p79:A6 Tryz.prog Gl 89 (ap1 gI λa=>out (bV (Cp a))):=by
 refine A6.congr (AL AI mixed Tryz.func89 (by kernel_rfl) (by kernel_rfl) (Γ:=cx6) (AK Nj _)) λvs r h=>?_
 obtain ⟨a,rfl,h⟩:=TP On h
 rw [Ac h]
 exact Ad7 a
theorem p78:A6 Tryz.prog Gl 78 (ap2 gI gI λa n=>out (bV (Gh a n))):=by
 refine A6.congr (AL AI mixed Tryz.func78 (by kernel_rfl) (by kernel_rfl) (Γ:=cx6) (AK Nj _)) λvs r h=>?_
 obtain ⟨a,n,rfl,h⟩:=Lj On On h
 rw [Ac h]
 exact Ad3 a n
theorem p80:A6 Tryz.prog Gl 90 (ap2 gI toE λa e=>out (bV (Tk a e))):=by
 refine A6.congr (AL AI mixed Tryz.func90 (by kernel_rfl) (by kernel_rfl) (Γ:=cx6) (AK Nj _)) λvs r h=>?_
 obtain ⟨a,e,rfl,h⟩:=Lj On Uc h
 rw [Ac h]
 exact Alu a e
theorem Yk (k:Nat) (hk:k < 112) (a:Int) (ha:Cp a = true):Tk a (Dl k) = Gh a (Int.ofNat k):=by
 have h1:(List.range 112).map (λk:Nat=>Tk 1 (Dl k)) = (List.range 112).map λk:Nat=>Gh 1 (Int.ofNat k):=by kernel_rfl
 have h2:(List.range 112).map (λk:Nat=>Tk 2 (Dl k)) = (List.range 112).map λk:Nat=>Gh 2 (Int.ofNat k):=by kernel_rfl
 simp only [Cp,bor,ieq,Bool.or_eq_true,beq_iff_eq] at ha
 rcases ha with rfl | rfl
 ·exact Fs h1 k hk
 ·exact Fs h2 k hk
noncomputable def tb8:List (Nat × (List V->T (V × List Blk))):=(77,ap1 gI λa=>out (bV (Cp a))) :: (89,ap1 gI λa=>out (bV (Cp a))) :: (78,ap2 gI gI λa n=>out (bV (Gh a n))) :: (90,ap2 gI toE λa e=>out (bV (Tk a e))) :: tb7
theorem Uh:A8 Tryz.prog Gl tb8:=.cons p77 <| .cons p79 <| .cons p78 <| .cons p80 Agg
noncomputable def cx8:Cx:=AN Gl tb8 [(0,⟨[],2,[],2,113⟩)]
def Hj (a:Int) (e:E6):Bool:=sel (AG (Cp a)) false (sel (AG (ieq (AQ e) 0)) false (Gh a (B2 e)))
def DL (a:Int) (e:E6):Int:=sel (AG (Cp a)) 1 (AQ e)
def SR (a:Int) (e:E6):V:=.tup [bV (Hj a e),iV (DL a e)]
theorem Ad5 (a:Int) (e:E6):(Au (Ah tab cx8 Tryz.f54 [iV a,eV e] [])).sem = some (SR a e,[]):=by
 have h1:(Au (Ah tab cx8 Tryz.f54 [iV a,eV e] [])).path [true] = some ([AG (Cp a)],(.tup [bV false,iV 1],[])):=by kernel_rfl
 have h2:(Au (Ah tab cx8 Tryz.f54 [iV a,eV e] [])).path [false,true] = some ([AG (Cp a),AG (ieq (AQ e) 0)],(.tup [bV false,iV (AQ e)],[])):=by kernel_rfl
 have h3:(Au (Ah tab cx8 Tryz.f54 [iV a,eV e] [])).path [false,false] = some ([AG (Cp a),AG (ieq (AQ e) 0)],(.tup [bV (Gh a (B2 e)),iV 0],[])):=by kernel_rfl
 unfold SR Hj DL
 cases c1:AG (Cp a) with
 | true=>exact AO h1 (by rw [c1])
 | false =>
 cases c2:AG (ieq (AQ e) 0) with
 | true=>exact AO h2 (by rw [c1,c2])
 | false =>
  have:AQ e = 0:=by simpa [AG,ieq] using c2
  rw [this]
  exact AO h3 (by rw [c1,c2])
theorem E7 (e:E6):(∃ k:Nat,k < 112 ∧ AQ e = 0 ∧ B2 e = Int.ofNat k ∧ Dl k = e ∧ Dk e = HT k) ∨ (AQ e = 30 ∧ B2 e = 0 ∧ Dk e = [] ∧ ∀ k,k < 112->Dl k ≠ e):=by
 unfold AQ B2 Dk
 cases h:FV e 112 0 with
 | some k =>
  obtain ⟨_,h2,h3⟩:=Hu e 112 0 k h
  exact .inl ⟨k,by omega,rfl,rfl,h3,rfl⟩
 | none =>
  refine .inr ⟨rfl,rfl,rfl,?_⟩
  have:∀ m k,FV e m k = none->∀ j,k <= j->j < k+m->Dl j ≠ e:=by
   intro m
   induction m with
   | zero=>intro k _ j h1 h2; omega
   | succ m ih =>
    intro k hn j h1 h2
    simp only [FV] at hn
    split at hn
    ·cases hn
    ·rename_i hne
     by_cases hj:j = k
     ·subst hj
      intro he
      rw [(IO _ _).2 he] at hne
      cases hne
     ·exact ih _ hn j (by omega) (by omega)
  exact λk hk=>this 112 0 h k (by omega) (by omega)
theorem Ad4 (a:Int) (e:E6):(Au (Ah tab cx8 Tryz.f66 [iV a,eV e] [])).sem = some (SR a e,[]):=by
 have h1:(Au (Ah tab cx8 Tryz.f66 [iV a,eV e] [])).path [true] = some ([AG (Cp a)],(.tup [bV false,iV 1],[])):=by kernel_rfl
 have h2:(Au (Ah tab cx8 Tryz.f66 [iV a,eV e] [])).path [false,true] = some ([AG (Cp a),AG (ieq (AQ e) 0)],(.tup [bV false,iV 30],[])):=by kernel_rfl
 have h3:(Au (Ah tab cx8 Tryz.f66 [iV a,eV e] [])).path [false,false] = some ([AG (Cp a),AG (ieq (AQ e) 0)],(.tup [bV (Tk a e),iV 0],[])):=by kernel_rfl
 unfold SR Hj DL
 cases c1:AG (Cp a) with
 | true=>exact AO h1 (by rw [c1])
 | false =>
 rcases E7 e with ⟨k,hk,hf,hn,he,_⟩ | ⟨hf,_⟩
 ·have c2:AG (ieq (AQ e) 0) = false:=by rw [hf]; rfl
  have ha:Cp a = true:=by simpa [AG] using c1
  rw [c2,hf,hn,<- Yk k hk a ha,he]
  exact AO h3 (by rw [c1,c2])
 ·have c2:AG (ieq (AQ e) 0) = true:=by rw [hf]; rfl
  rw [c2,hf]
  exact AO h2 (by rw [c1,c2])
theorem p32:A6 Tryz.prog Gl 54 (ap2 gI toE λa e=>out (SR a e)):=by
 refine A6.congr (AL AI mixed Tryz.func54 (by kernel_rfl) (by kernel_rfl) (Γ:=cx8) (AK Uh _)) λvs r h=>?_
 obtain ⟨a,e,rfl,h⟩:=Lj On Uc h
 rw [Ac h]
 exact Ad5 a e
theorem p33:A6 Tryz.prog Gl 66 (ap2 gI toE λa e=>out (SR a e)):=by
 refine A6.congr (AL AI mixed Tryz.func66 (by kernel_rfl) (by kernel_rfl) (Γ:=cx8) (AK Uh _)) λvs r h=>?_
 obtain ⟨a,e,rfl,h⟩:=Lj On Uc h
 rw [Ac h]
 exact Ad4 a e
def Ano (a:Int):List E6:=((List.range 112).filter λk=>Gh a (Int.ofNat k)).map Dl
def AlC (a:Int) (i:Nat):E6:=(Ano a).getD i Ft
def allT:List V->T (V × List Blk):=ap1 gI λa =>
 .br (ieq a 1) (.leaf (.tup [.ref 0,iV 0],[.row 57 6 22 λi=>eV (AlC 1 i)])) <|
 .br (ieq a 2) (.leaf (.tup [.ref 0,iV 0],[.row 57 6 104 λi=>eV (AlC 2 i)])) (.leaf (.tup [.ref 0,iV 1],[.row 57 6 0 λ_=>.und]))
end Go.Proofs.YthlojajaenfidaaGreatDoor.Ed
namespace Go.Proofs.YthlojajaenfidaaGreatDoor.Ed
open Go.Sy
open Int (ofNat)
def okE (v:V):Bool:=match toE v with
 | some _=>true
 | none=>false
def edE (v:V):E6:=match toE v with
 | some e=>e
 | none=>Ft
def AJ (n:Nat) (p:Nat->Bool):Bool:=(List.range n).all p
theorem A4 {n:Nat} {p:Nat->Bool}:AJ n p = true ↔ ∀ i,i < n->p i = true:=by simp [AJ]
theorem NL {v:V} (h:okE v = true):v = eV (edE v):=by
 unfold okE at h
 unfold edE
 split at h
 ·rename_i e he
  exact Nf he
 ·cases h
def gSl:V->Option (Nat × (Nat->V))
 | .sl s n g=>match Nat.beq s 6 with
  | true=>some (n,g)
  | false=>match n with
   | 0=>some (0,g)
   | _=>none
 | .slr s n _ g=>match Nat.beq s 6 with
  | true=>some (n,g)
  | false=>none
 | _=>none
def apL {α:Type} (v:V) (F:Nat->(Nat->E6)->T α):T α :=
 match gSl v with
 | some (n,g)=>.br (AJ n λi=>okE (g i)) (F n λi=>edE (g i)) .fail
 | none=>.fail
def A5 (n:Nat) (f:Nat->E6):V:=.sl 6 n λi=>eV (f i)
theorem Cc {α:Type} {v:V} {F:Nat->(Nat->E6)->T α} {r:α} (h:(apL v F).sem = some r) :
  ∃ n f,(∀ (S:Nat->Prop) (w:World) (c:Value),VR S w v noK c->VR S w (A5 n f) noK c) ∧ (F n f).sem = some r:=by
 unfold apL at h
 split at h
 ·rename_i n g hg
  obtain ⟨h1,h2⟩:=Ad h
  have h1:=A4.1 h1
  refine ⟨n,_,λS w c hv=>?_,h2⟩
  unfold gSl at hg
  split at hg
  ·rename_i s n' g'
   split at hg
   ·rename_i hs
    simp only [Option.some.injEq,Prod.mk.injEq] at hg
    obtain ⟨rfl,rfl⟩:=hg
    have hs:s = 6:=Nat.eq_of_beq_eq_true hs
    subst hs
    obtain ⟨a,cap,e,hc,hb⟩:=hv
    refine ⟨a,cap,e,hc,hb.imp id ?_⟩
    rintro ⟨b,o,ea,hel⟩
    refine ⟨b,o,ea,λi hi=>?_⟩
    have:=hel i hi
    rw [NL (h1 i hi)] at this
    exact this
   ·split at hg
    ·simp only [Option.some.injEq,Prod.mk.injEq] at hg
     obtain ⟨rfl,rfl⟩:=hg
     obtain ⟨a,cap,e,hc,_⟩:=hv
     exact ⟨a,cap,e,hc,.inl rfl⟩
    ·cases hg
  ·rename_i s n' m' g'
   split at hg
   ·rename_i hs
    simp only [Option.some.injEq,Prod.mk.injEq] at hg
    obtain ⟨rfl,rfl⟩:=hg
    have hs:s = 6:=Nat.eq_of_beq_eq_true hs
    subst hs
    obtain ⟨a,cap,e,hc,hm,hb⟩:=hv
    refine ⟨a,cap,e,Nat.le_trans hc hm,?_⟩
    rcases hb with h0 | ⟨b,o,ea,hel⟩
    ·exact .inl (by omega)
    ·refine .inr ⟨b,o,ea,λi hi=>?_⟩
     have:=hel i (by omega)
     rw [NL (h1 i hi)] at this
     exact this
   ·cases hg
  ·cases hg
 ·cases h
def Gt (F:Nat->(Nat->E6)->T (V × List Blk)):List V->T (V × List Blk)
 | [v]=>apL v F
 | _=>.fail
theorem C2 {F:Nat->(Nat->E6)->T (V × List Blk)} {vs:List V} {r:V × List Blk} (h:(Gt F vs).sem = some r):∃ n f,Bm vs [A5 n f] ∧ (F n f).sem = some r:=by
 unfold Gt at h
 split at h
 ·obtain ⟨n,f,h1,h2⟩:=Cc h
  refine ⟨n,f,λS w cs hv=>?_,h2⟩
  obtain ⟨c,l,rfl,q1,q2⟩:=hv
  exact ⟨c,l,rfl,h1 S w c q1,q2⟩
 ·cases h
theorem An {i n:Nat} (h:i < n) (hn:n <= 4611686018427387904):wr .i64 (Af (ofNat i) 1) = ofNat (i+1):=by
 unfold wr Af IntKind.wrap
 simp [IntKind.bits,IntKind.signed]
 omega
theorem ofNat_lt {i n:Nat} (h:i < n):ilt (ofNat i) (ofNat n) = true:=by simp [ilt]; omega
theorem A9 {i n:Nat} (h:n <= i):ilt (ofNat i) (ofNat n) = false:=by simp [ilt]; omega
theorem Ap {i n:Nat} (h:i < n):Al (ile 0 (ofNat i)) (ilt (ofNat i) (ofNat n)) = true:=by rw [ofNat_lt h]; simp [Al,ile]
noncomputable def cx9 (l:List (Nat × Lp)):Cx:=AN Gl tb8 l
def JD (f g:Nat->E6):Nat->Nat->Bool
 | 0,_=>true
 | d+1,i=>match eqE (f i) (g i) with
  | true=>JD f g d (i+1)
  | false=>false
def DT (n:Nat) (f:Nat->E6) (m:Nat) (g:Nat->E6):Bool:=sel (ieq (ofNat n) (ofNat m)) (JD f g n 0) false
def Ao (n:Nat):Bool:=decide (n <= 4611686018427387904)
end Go.Proofs.YthlojajaenfidaaGreatDoor.Ed
namespace Go.Proofs.YthlojajaenfidaaGreatDoor.Ed
open Go.Sy
def Be (n:Nat):Bool:=decide (n * 40 <= 140737488355328)
section
variable (L:LT)
end
end Go.Proofs.YthlojajaenfidaaGreatDoor.Ed
namespace Go.Proofs.YthlojajaenfidaaGreatDoor.Ed
open Go.Sy
end Go.Proofs.YthlojajaenfidaaGreatDoor.Ed
namespace Go.Proofs.YthlojajaenfidaaGreatDoor.Ed
open Go.Sy
end Go.Proofs.YthlojajaenfidaaGreatDoor.Ed
namespace Go.Sy
def MC (l:Lp) (r:Ex × St):Ex × St :=
 match r.1 with
 | .nm=>(.nm,VH l.ks l.n r.2)
 | .ex i=>(.ex i,VH l.ke l.ne r.2)
 | .rt=>(.rt,VH l.ke l.ne r.2)
def Ag (f:St->T (Ex × St)) (l:Lp) (st:St):Option (Ex × St):=((f st).bind λr=>T.leaf (MC l r)).sem
def AdH (f:St->T (Ex × St)) (l:Lp) (m:Nat):Option (Ex × St)->Option (Ex × St)
 | some (.nm,st)=>(AA f l m st).sem
 | some (e,st)=>some (e,st)
 | none=>none
theorem Ab {f:St->T (Ex × St)} {l:Lp} {m:Nat} {st:St} {t:Option (Ex × St)} (h:Ag f l st = t):(AA f l (m+1) st).sem = AdH f l m t:=by
 subst h
 show ((f st).bind _).sem = _
 unfold Ag
 rw [Fw,Fw]
 cases (f st).sem with
 | none=>rfl
 | some r =>
  obtain ⟨e,s⟩:=r
  cases e <;> rfl
theorem Aq {f:St->T (Ex × St)} {l:Lp} {m:Nat} {st:St}:AdH f l m (some (.nm,st)) = (AA f l m st).sem:=rfl
theorem Ry {f:St->T (Ex × St)} {l:Lp} {m:Nat} {i:Nat} {st:St}:AdH f l m (some (.ex i,st)) = some (.ex i,st):=rfl
theorem Er {f:St->T (Ex × St)} {l:Lp} {m:Nat} {st:St}:AdH f l m (some (.rt,st)) = some (.rt,st):=rfl
theorem Zy {α:Type} (x y:α):sel true x y = x:=rfl
theorem XE {α:Type} (x y:α):sel false x y = y:=rfl
def TLe {α:Type} (t t':T α):Prop:=∀ r,t.sem = some r->t'.sem = some r
theorem TLe.refl {α:Type} (t:T α):TLe t t:=λ_ h=>h
theorem TLe.bind {α β:Type} {t t':T α} {f f':α->T β} (h:TLe t t') (hf:∀ a,TLe (f a) (f' a)):TLe (t.bind f) (t'.bind f'):=λr hr=>by
 obtain ⟨a,h1,h2⟩:=Am hr
 rw [Fw,h a h1]
 exact hf a r h2
def LLe (M L:Nat->(St->T (Ex × St))->St->T (Ex × St)):Prop:=∀ id f f' st,(∀ st,TLe (f st) (f' st))->TLe (M id f st) (L id f' st)
theorem SX {f f':St->T (Ex × St)} (h:∀ st,TLe (f st) (f' st)) (l:Lp):∀ (m:Nat) (st:St),TLe (AA f l m st) (AA f' l m st)
 | 0,_=>TLe.refl _
 | m+1,st=>by
  refine TLe.bind (h st) λr=>?_
  cases r.1 with
  | nm=>exact SX h l m _
  | ex i=>exact TLe.refl _
  | rt=>exact TLe.refl _
theorem AF (ls:List (Nat × Lp)):LLe (AP ls) (AP ls):=λid f f' st h=>by
 unfold AP
 split
 ·exact SX h _ _ _
 ·exact TLe.refl _
def onP (k:Nat) (p:(St->T (Ex × St))->St->Bool) (r:Ex × St) (L:Nat->(St->T (Ex × St))->St->T (Ex × St)):Nat->(St->T (Ex × St))->St->T (Ex × St) :=
 λid f st=>match Nat.beq id k with
  | true=>.br (p f st) (.leaf r) .fail
  | false=>L id f st
noncomputable def isP (L:Nat->(St->T (Ex × St))->St->T (Ex × St)) (k:Nat) (r:Ex × St):(St->T (Ex × St))->St->Bool :=
 λf st=>@decide ((L k f st).sem = some r) (Classical.propDecidable _)
theorem Ai {L:Nat->(St->T (Ex × St))->St->T (Ex × St)} {k:Nat} {r:Ex × St} {f:St->T (Ex × St)} {st:St} (h:(L k f st).sem = some r):isP L k r f st = true:=by
 unfold isP
 exact @decide_eq_true _ (Classical.propDecidable _) h
theorem Ar {M L:Nat->(St->T (Ex × St))->St->T (Ex × St)} {k:Nat} {r:Ex × St} (hM:LLe M L) (hL:LLe L L):LLe (onP k (isP L k r) r M) L:=λid f f' st hf r' hr=>by
 unfold onP at hr
 cases hk:Nat.beq id k with
 | true =>
  rw [hk] at hr
  obtain ⟨h1,h2⟩:=Ad hr
  rw [Ac h2]
  unfold isP at h1
  have h1:=@of_decide_eq_true _ (Classical.propDecidable _) h1
  rw [Nat.eq_of_beq_eq_true hk]
  exact hL k f f' st hf _ h1
 | false =>
  rw [hk] at hr
  exact hM id f f' st hf _ hr
theorem E5 {τ:List Ty} {Γ:Cx} {L L':Nat->(St->T (Ex × St))->St->T (Ex × St)} (h:LLe L L') :
  ∀ (c:Code) (id:Nat) (st:St),TLe (AD τ { Γ with loop:=L } c id st) (AD τ { Γ with loop:=L' } c id st):=by
 intro c
 induction c with
 | skip=>intro id st; exact TLe.refl _
 | region i ops draw=>intro id st; exact TLe.refl _
 | seq a b iha ihb =>
  intro id st
  refine TLe.bind (iha id st) λr=>?_
  cases r.1 with
  | nm=>exact ihb id r.2
  | ex j=>exact TLe.refl _
  | rt=>exact TLe.refl _
 | cond x a b iha ihb =>
  intro id st
  show TLe (match ev ⟨Γ.call,Γ.glob⟩ st x with | .val (.bool q)=>T.br q (AD τ { Γ with loop:=L } a id st) (AD τ { Γ with loop:=L } b id st) | _=>.fail) (match ev ⟨Γ.call,Γ.glob⟩ st x with | .val (.bool q)=>T.br q (AD τ { Γ with loop:=L' } a id st) (AD τ { Γ with loop:=L' } b id st) | _=>.fail)
  split
  ·rename_i q _
   cases q with
   | true=>exact iha id st
   | false=>exact ihb id st
  ·exact TLe.refl _
 | block i c ih =>
  intro id st
  refine TLe.bind (ih i st) λr=>?_
  cases r.1 with
  | nm=>exact TLe.refl _
  | ex j=>exact TLe.refl _
  | rt=>exact TLe.refl _
 | loop c ih =>
  intro id st
  exact h id _ _ st (ih id)
 | exit i=>intro id st; exact TLe.refl _
 | ret=>intro id st; exact TLe.refl _
 | _=>intro id st; exact TLe.refl _
theorem A1 {τ:List Ty} {call:FuncId->List V->St->T (V × Res)} {G:Nat->V} {fn:Func} {vs:List V} {L L':Nat->(St->T (Ex × St))->St->T (Ex × St)}
  (h:LLe L L'):TLe (Au (Ah τ ⟨call,L,G⟩ fn vs [])) (Au (Ah τ ⟨call,L',G⟩ fn vs [])):=by
 refine TLe.bind ?_ λ_=>TLe.refl _
 unfold Ah
 cases fn.body with
 | none=>exact TLe.refl _
 | some c=>exact TLe.bind (E5 (Γ:=⟨call,L,G⟩) h c 0 _) λ_=>TLe.refl _
theorem Db {f f':St->T (Ex × St)} {l:Lp} {st:St} {r:Ex × St} (h:TLe (f st) (f' st)) (hr:Ag f l st = some r):Ag f' l st = some r:=TLe.bind h (λ_=>TLe.refl _) r hr
def Al0 (v:V):Blk->Blk
 | .row e s 0 _=>.row e s 0 λ_=>v
 | .jag j=>.jag { j with mem:=λi k=>YL (Adg k (j.len i)) (j.mem i k) v }
 | b=>b
def AeS (h:List Blk) (id:Nat) (v:V):List Blk :=
 match h[id]? with
 | some b=>h.set id (Al0 v b)
 | none=>h
def Ck (st:St):List (Nat × V)->St
 | []=>st
 | (id,v) :: l=>Ck ⟨st.t,AeS st.h id v⟩ l
theorem RN {Γ:Cx0}:∀ (l:List (Nat × V)) (st:St),LE Γ st (Ck st l)
 | [],st=>LE.refl st
 | (id,v) :: l,st=>by
   refine LE.trans ?_ (RN l _)
   unfold AeS
   cases hb:st.h[id]? with
   | none=>exact LE.refl st
   | some b =>
    have same:st.h.set id b = st.h:=by
     have hl:=(List.getElem?_eq_some_iff.1 hb).1
     have:=(List.getElem?_eq_some_iff.1 hb).2
     rw [<- this,List.set_getElem_self]
    cases b with
    | row e s n g =>
     cases n with
     | zero=>exact HA hb λj hj=>by omega
     | succ n =>
      show LE Γ st ⟨st.t,st.h.set id (.row e s (n+1) g)⟩
      rw [same]
      exact LE.refl st
    | cells cs =>
     show LE Γ st ⟨st.t,st.h.set id (.cells cs)⟩
     rw [same]
     exact LE.refl st
    | imap t n get =>
     show LE Γ st ⟨st.t,st.h.set id (.imap t n get)⟩
     rw [same]
     exact LE.refl st
    | xrow lk e s n g =>
     show LE Γ st ⟨st.t,st.h.set id (.xrow lk e s n g)⟩
     rw [same]
     exact LE.refl st
    | jag j =>
     refine AiG hb (λ_ _=>rfl) (λ_ _=>rfl) (λ_ _=>rfl) λk _ q hq=>?_
     have:Adg q (j.len k) = true:=by
      unfold Adg
      simpa using hq
     rw [this,EY]
     rfl
    | saved vs =>
     show LE Γ st ⟨st.t,st.h.set id (.saved vs)⟩
     rw [same]
     exact LE.refl st
    | dead =>
     show LE Γ st ⟨st.t,st.h.set id .dead⟩
     rw [same]
     exact LE.refl st
def BK (zs:List (Nat × List (Nat × V))) (loops:List (Nat × Lp)) (id:Nat) (f:St->T (Ex × St)) (st:St):T (Ex × St) :=
 match Mx id zs with
 | some l=>AP loops id f (Ck st l)
 | none=>AP loops id f st
theorem CK (zs:List (Nat × List (Nat × V))) (ls:List (Nat × Lp)):LLe (BK zs ls) (BK zs ls):=λid f f' st h=>by
 unfold BK
 split
 ·exact AF ls id f f' _ h
 ·exact AF ls id f f' _ h
def cxZ (G:Nat->V) (tbl:List (Nat × (List V->T (V × List Blk)))) (zs:List (Nat × List (Nat × V))) (loops:List (Nat × Lp)):Cx:=⟨Ak tbl,BK zs loops,G⟩
theorem Hx {P:Program} {G:Nat->V} {tbl:List (Nat × (List V->T (V × List Blk)))} (h:A8 P G tbl) (zs:List (Nat × List (Nat × V))) (loops:List (Nat × Lp)):Bg P (cxZ G tbl zs loops).base ∧ BF (cxZ G tbl zs loops):=by
 refine ⟨DP rfl h,λid f st r hr=>?_⟩
 have hr:(BK zs loops id f st).sem = some r:=hr
 have by':∀ st,(AP loops id f st).sem = some r->LRun (cxZ G tbl zs loops).base f st r:=λst hr=>by
  unfold AP at hr
  split at hr
  ·exact Fl hr
  ·cases hr
 unfold BK at hr
 split at hr
 ·exact .weak (RN _ _) (by' _ hr)
 ·exact by' _ hr
noncomputable def isR (Γ:Cx0) (r:Ex × St):(St->T (Ex × St))->St->Bool:=λf st=>@decide (LRun Γ f st r) (Classical.propDecidable _)
theorem Oi {Γ:Cx0} {r:Ex × St} {f:St->T (Ex × St)} {st:St} (h:LRun Γ f st r):isR Γ r f st = true:=@decide_eq_true _ (Classical.propDecidable _) h
def noL:Nat->(St->T (Ex × St))->St->T (Ex × St):=λ_ _ _=>.fail
theorem HS {c:FuncId->List V->St->T (V × Res)} {G:Nat->V}:BF ⟨c,noL,G⟩:=λ_ _ _ _ h=>by cases h
theorem UT {c:FuncId->List V->St->T (V × Res)} {G:Nat->V} {M:Nat->(St->T (Ex × St))->St->T (Ex × St)} {k:Nat} {r:Ex × St} (h:BF ⟨c,M,G⟩):BF ⟨c,onP k (isR ⟨c,G⟩ r) r M,G⟩:=λid f st r' hr=>by
 have hr:(onP k (isR ⟨c,G⟩ r) r M id f st).sem = some r':=hr
 unfold onP at hr
 split at hr
 ·obtain ⟨h1,h2⟩:=Ad hr
  have:=Ac h2
  subst this
  exact @of_decide_eq_true _ (Classical.propDecidable _) h1
 ·exact h id f st r' hr
end Go.Sy
namespace Go.Proofs.YthlojajaenfidaaGreatDoor.Ed
open Go.Sy
def BR (n:Nat) (f:Nat->E6):Bool:=AJ n λi=>ieq (AQ (f i)) 0
theorem Ds {n:Nat} {f:Nat->E6}:BR n f = true ↔ ∀ i,i < n->AQ (f i) = 0:=by
 unfold BR
 rw [A4]
 simp [ieq]
theorem Ow (f g:Nat->E6):∀ d i,JD f g d i = true ↔ ∀ j,i <= j->j < i+d->f j = g j
 | 0,i=>by
  simp only [JD,true_iff]
  intro j h1 h2; omega
 | d+1,i=>by
  unfold JD
  cases h:eqE (f i) (g i) with
  | true =>
   have h0:=(IO _ _).1 h
   show JD f g d (i+1) = true ↔ _
   rw [Ow f g d (i+1)]
   constructor
   ·intro q j h1 h2
    by_cases hj:j = i
    ·subst hj; exact h0
    ·exact q j (by omega) (by omega)
   ·intro q j h1 h2; exact q j (by omega) (by omega)
  | false =>
   constructor
   ·intro q; cases q
   ·intro q
    have:=(IO _ _).2 (q i (Nat.le_refl _) (by omega))
    rw [this] at h; cases h
end Go.Proofs.YthlojajaenfidaaGreatDoor.Ed
namespace Go.Proofs.YthlojajaenfidaaGreatDoor.Ed
open Go.Sy
theorem YC {n:Nat}:AJ n (λ_=>true) = true:=A4.2 λ_ _=>rfl
def kL (n:Nat):Kn:=⟨AJ n λ_=>true,true,YC⟩
def BA (g:Nat->V):Nat->Nat->V
 | 0=>λ_=>.und
 | i+1=>A2 i (BA g i) (g i)
theorem G5 (g:Nat->V):∀ n j,j < n->BA g n j = g j
 | 0,j,h=>by omega
 | n+1,j,h=>by
  rw [show BA g (n+1) j = A2 n (BA g n) (g n) j from rfl,Bl]
  show (bif Nat.beq j n then g n else BA g n j) = _
  cases hb:Nat.beq j n with
  | true =>
   rw [Nat.eq_of_beq_eq_true hb]
   rfl
  | false =>
   have:=Nat.ne_of_beq_eq_false hb
   exact G5 g n j (by omega)
theorem RK {i n b c:Nat} (h:i < n) (hb:b <= c) (hn:n * c <= 140737488355328):Bx i 1 b = true:=by
 refine decide_eq_true ?_
 have h1:(i+1) * b <= n * b:=Nat.mul_le_mul_right b (by omega)
 have h2:n * b <= n * c:=Nat.mul_le_mul_left n hb
 omega
theorem IN {n:Nat} (hn:Be n = true):n <= 4611686018427387904:=by
 have hn:n * 40 <= 140737488355328:=of_decide_eq_true hn
 omega
def cdV (f:Nat->E6):Nat->V:=λi=>iV (B2 (f i))
theorem Tq (p:Nat->Bool):∀ n,AJ n p = false->∃ e,e < n ∧ p e = false ∧ ∀ t,t < e->p t = true
 | 0,h=>by cases h
 | n+1,h=>by
  cases hn:AJ n p with
  | false =>
   obtain ⟨e,h1,h2,h3⟩:=Tq p n hn
   exact ⟨e,by omega,h2,h3⟩
  | true =>
   refine ⟨n,by omega,?_,λt ht=>A4.1 hn t ht⟩
   cases hp:p n with
   | false=>rfl
   | true =>
    have:AJ (n+1) p = true:=A4.2 λi hi=>by
     by_cases hi':i = n
     ·rw [hi',hp]
     ·exact A4.1 hn i (by omega)
    rw [this] at h; cases h
theorem AbC {e:E6} (h:AQ e ≠ 0):AQ e = 30:=by
 rcases E7 e with ⟨_,_,h1,_⟩ | ⟨h1,_⟩
 ·exact absurd h1 h
 ·exact h1
theorem UZ {n:Nat} {f:Nat->E6} (h:BR n f = false):∃ e,e < n ∧ AQ (f e) = 30 ∧ ∀ t,t < e->AQ (f t) = 0:=by
 obtain ⟨e,h1,h2,h3⟩:=Tq _ n h
 refine ⟨e,h1,AbC λh0=>?_,λt ht=>by simpa [ieq] using h3 t ht⟩
 rw [h0] at h2
 cases h2
def AbB:List V->T (V × List Blk):=Gt λn f=>.br (Be n) (.br (BR n f) (.leaf (.tup [.ref 0,iV 0],[.row 3 1 n λi=>iV (B2 (f i))])) (.leaf (.tup [.ref 0,iV 30],[.row 3 1 0 λ_=>.und]))) .fail
end Go.Proofs.YthlojajaenfidaaGreatDoor.Ed
namespace Go.Proofs.YthlojajaenfidaaGreatDoor.Ed
open Go.Sy
end Go.Proofs.YthlojajaenfidaaGreatDoor.Ed
