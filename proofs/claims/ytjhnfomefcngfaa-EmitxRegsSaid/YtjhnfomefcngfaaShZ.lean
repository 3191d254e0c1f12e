/-
  Layer 7: the law ShapeOf, as a function: the program's shape of any edges is the document's. No conditions.
-/
import Derived.Test.YtjhnfomefcngfaaShH
import Derived.Test.YtjhnfomefcngfaaChecked
import Derived.ProofKit
import Derived.OpenShut
import Derived.Deep.DeepHandedRow
namespace Go.Proofs.Ytjhnfomefcngfaa.Sh
open Go.Sy Ed
set_option maxHeartbeats 1000000
set_option maxRecDepth 4000
theorem UP {n:Nat} {f l:Nat->E6} (hm:BM n f = true) (hl:∀ i,i < n->l i = f i) {i:Nat} (hi:i < n):Bk n l i = Bk n f i:=by
 rw [R3 hm hl i hi,R3 hm (λ_ _=>rfl) i hi]
theorem RS {k:Nat} (h:k <= 16):Ah k = true:=decide_eq_true (by omega)
theorem WK (n:Nat) (f:Nat->E6):CY n f n f = true:=Nv.2 ⟨rfl,λ_ _=>rfl⟩
theorem Pt (n:Nat) (f:Nat->Int):CF n f n f = true:=by
 unfold CF
 rw [B5 (Bv _)]
 exact AJ.2 λ_ _=>Bv _
theorem WJ (n:Nat) (ln:Nat->Nat) (co:Nat->Nat->Int):Gj n ln co n ln co = true:=by
 unfold Gj
 rw [B5 (Bv _)]
 exact AJ.2 λ_ _=>Pt _ _
theorem WG (e:Ev5):FK e e = true:=by
 unfold FK
 rw [B5 (Bv _),B5 (Bv _),B5 (Bv _),B5 (Bv _),B5 (Bv _)]
theorem Ajm (m w:Nat->Bool) (n k:Nat) (h:Cn m n (stN m n k) <= n+1):lnN m w n k <= n+1:=Nat.le_trans (AX _ _) h
theorem Agx (m:Nat->Bool) (n b:Nat):Cn m n b <= n+1:=by
 unfold Cn
 have:=AbE (λt=>m (rnd n b t)) n
 omega
theorem Yk {m w:Nat->Bool} {n k:Nat} (h:n <= 16):Ah (lnN m w n k) = true:=decide_eq_true (by
 have:=Ajm m w n k (Agx m n _)
 omega)
end Go.Proofs.Ytjhnfomefcngfaa.Sh
namespace Go.Proofs.Ytjhnfomefcngfaa.Sh
open Go.Sy Ed
set_option maxRecDepth 100000
theorem own:ownKnob Try.prog.godebug = none:=by kernel_rfl
theorem AbU:laidOutB Try.prog = true:=by kernel_rfl
def R1 (e:E6):List Value:=[.int .i64 e.kind,.bool e.ext,.bool e.same,.int .i64 e.src,.int .i64 e.dst,.int .i64 e.fence]
section
variable {H:Type} {enc:TypeId × Value->H} {W:World} {sp:Nat->Bool} {held:Bool} {r:Reach} {b0:Nat} {v:Value} {d:DataW H} {ps:List MemPlace}
theorem GR {c d:Value} {cs:List Value} (h:cs = [d]) (hc:[c] = cs):c = d:=by
 subst h
 simpa using hc
theorem UL (fuel:Nat) (cs:List Value) (x:DataW H × List MemPlace) (h:DataW.trod enc Try.prog W 0 sp held fuel 44 cs = some x):∃ e:E6,cs = R1 e:=by
 obtain ⟨xs,n,_,_,hl,hx,hf⟩:=DataW.trod_struct Try.underlying44 h
 have hl:cs.length = 6:=hl.trans (by kernel_rfl)
 have hx:xs.length = 6:=hx
 obtain ⟨c0,c1,c2,c3,c4,c5,rfl⟩:∃ a b c d e f,cs = [a,b,c,d,e,f]:=by
  match cs,hl with
  | [a,b,c,d,e,f],_=>exact ⟨a,b,c,d,e,f,rfl⟩
 have get:∀ (i:Nat) (f:Field),#[({ name := "Kind",type:=3,offset:=0,embedded:=false,tag := "",pkgPath := "",byteOffset:=0 }:Field),
    { name := "Ext",type:=4,offset:=1,embedded:=false,tag := "",pkgPath := "",byteOffset:=8 },
    { name := "Same",type:=4,offset:=2,embedded:=false,tag := "",pkgPath := "",byteOffset:=9 },
    { name := "Src",type:=3,offset:=3,embedded:=false,tag := "",pkgPath := "",byteOffset:=16 },
    { name := "Dst",type:=3,offset:=4,embedded:=false,tag := "",pkgPath := "",byteOffset:=24 },
    { name := "Fence",type:=3,offset:=5,embedded:=false,tag := "",pkgPath := "",byteOffset:=32 }][i]? = some f->i < 6 ->
   ∃ y,DataW.trod enc Try.prog W 0 sp held n f.type (([c0,c1,c2,c3,c4,c5].drop f.offset).take (Try.prog.cellsOf f.type)) = some y:=by
  intro i f hi hlt
  have:=hf i f hi
  rw [List.getElem?_eq_getElem (by omega)] at this
  exact ⟨_,this⟩
 have n3:Try.prog.cellsOf 3 = 1:=by kernel_rfl
 have n4:Try.prog.cellsOf 4 = 1:=by kernel_rfl
 obtain ⟨y0,g0⟩:=get 0 _ rfl (by omega)
 obtain ⟨y1,g1⟩:=get 1 _ rfl (by omega)
 obtain ⟨y2,g2⟩:=get 2 _ rfl (by omega)
 obtain ⟨y3,g3⟩:=get 3 _ rfl (by omega)
 obtain ⟨y4,g4⟩:=get 4 _ rfl (by omega)
 obtain ⟨y5,g5⟩:=get 5 _ rfl (by omega)
 have g0:DataW.trod enc Try.prog W 0 sp held n 3 (([c0,c1,c2,c3,c4,c5].drop 0).take (Try.prog.cellsOf 3)) = some y0:=g0
 rw [n3] at g0
 have g1:DataW.trod enc Try.prog W 0 sp held n 4 (([c0,c1,c2,c3,c4,c5].drop 1).take (Try.prog.cellsOf 4)) = some y1:=g1
 rw [n4] at g1
 have g2:DataW.trod enc Try.prog W 0 sp held n 4 (([c0,c1,c2,c3,c4,c5].drop 2).take (Try.prog.cellsOf 4)) = some y2:=g2
 rw [n4] at g2
 have g3:DataW.trod enc Try.prog W 0 sp held n 3 (([c0,c1,c2,c3,c4,c5].drop 3).take (Try.prog.cellsOf 3)) = some y3:=g3
 rw [n3] at g3
 have g4:DataW.trod enc Try.prog W 0 sp held n 3 (([c0,c1,c2,c3,c4,c5].drop 4).take (Try.prog.cellsOf 3)) = some y4:=g4
 rw [n3] at g4
 have g5:DataW.trod enc Try.prog W 0 sp held n 3 (([c0,c1,c2,c3,c4,c5].drop 5).take (Try.prog.cellsOf 3)) = some y5:=g5
 rw [n3] at g5
 obtain ⟨a0,e0,_⟩:=DataW.trod_int Try.underlying3 g0
 obtain ⟨a1,e1,_⟩:=DataW.trod_bool Try.underlying4 g1
 obtain ⟨a2,e2,_⟩:=DataW.trod_bool Try.underlying4 g2
 obtain ⟨a3,e3,_⟩:=DataW.trod_int Try.underlying3 g3
 obtain ⟨a4,e4,_⟩:=DataW.trod_int Try.underlying3 g4
 obtain ⟨a5,e5,_⟩:=DataW.trod_int Try.underlying3 g5
 have e0:c0 = .int .i64 a0:=GR e0 rfl
 have e1:c1 = .bool a1:=GR e1 rfl
 have e2:c2 = .bool a2:=GR e2 rfl
 have e3:c3 = .int .i64 a3:=GR e3 rfl
 have e4:c4 = .int .i64 a4:=GR e4 rfl
 have e5:c5 = .int .i64 a5:=GR e5 rfl
 exact ⟨⟨a0,a1,a2,a3,a4,a5⟩,by rw [e0,e1,e2,e3,e4,e5]; rfl⟩
theorem Acy (S:Nat->Prop) (w:World) (κ:Nat->Option Value) (e:E6):VR S w (eV e) κ (.agg (R1 e).toArray) :=
 ⟨_,rfl,_,_,rfl,rfl,_,_,rfl,rfl,_,_,rfl,rfl,_,_,rfl,rfl,_,_,rfl,rfl,_,_,rfl,rfl,rfl⟩
def AjE (W:World) (v:Value) (u:V):Prop:=VR (Pd W) W u noK v
instance:Inhabited E6:=⟨Gc⟩
theorem Sf (hval:Value.okWide Try.prog W r b0 22 v) (h:DataW.Trod enc Try.prog W 0 sp held 22 v d ps) :
  ∃ (n:Nat) (xs:Nat->E6),AjE W v (.sl 6 n λi=>eV (xs i)) ∧ (n = 0 ∨ ∃ els rest,d = .slice els rest ∧ els.length = n) :=
 Uo (f:=R1) (g:=eV) (s:=6) Try.underlying22 (by kernel_rfl) (by omega) (λe u hu=>by simp [R1] at hu; rcases hu with rfl | rfl | rfl | rfl | rfl | rfl <;> rfl)
  (λS w e=>⟨_,Acy S w noK e,rfl⟩) UL hval h
end
noncomputable def L2 (os:Os):World:=World.holding Try.prog os ⟨#[],#[],[]⟩
end Go.Proofs.Ytjhnfomefcngfaa.Sh
