/-
  Layer 7: a location's name; what must come, whatever the arguments are. No conditions.
-/
import Derived.Test.YtjhnfomefcngfaaShG
import Derived.Test.YtjhnfomefcngfaaCyZp
import Derived.Test.YtjhnfomefcngfaaChecked
import Derived.ProofKit
import Derived.OpenShut
import Derived.Deep.DeepHandedRow
namespace Go.Proofs.Ytjhnfomefcngfaa.Sh
open Go.Sy Ed
open Int (ofNat)
set_option maxRecDepth 4000
def Anw:List UInt8:=[120,121,122,97,98,99,100,101,102,103,104,105,106,107,108,109]
def Cv (x:Int):Int:=bif bor (ilt x 0) (ile 16 x) then 4 else 0
def BQ (x:Int):List UInt8:=bif bor (ilt x 0) (ile 16 x) then [] else [Anw.getD x.toNat 0]
def XD:List V->T (V × List Blk)
 | [.val (.int .i64 x)]=>.leaf (.tup [.str (BQ x),iV (Cv x)],[])
 | _=>.fail
section
variable (L:LT) (x:Int)
include L x
theorem AmE (h0:ilt x 0 = true):(Ar (Ai tab ⟨Am tb0,L,Gl⟩ Try.f37 [iV x] [])).sem = some ((.tup [(.str []),(iV 4)]),[]):=by
 exact Aa (ks:=[kn h0,kn h0,kn h0,kT]) (by kernel_rfl)
theorem AmF (h0:ilt x 0 = false) (h1:ile 16 x = true):(Ar (Ai tab ⟨Am tb0,L,Gl⟩ Try.f37 [iV x] [])).sem = some ((.tup [(.str []),(iV 4)]),[]):=by
 exact Aa (ks:=[kn h0,kn h0,kn h0,kn h1]) (by kernel_rfl)
theorem AmC (h0:ilt x 0 = true):(Ar (Ai tab ⟨Am tb0,L,Gl⟩ Try.f38 [iV x] [])).sem = some ((.tup [(.str []),(iV 4)]),[]):=by
 exact Aa (ks:=[kn h0,kn h0,kn h0,kn h0,kn h0,kT]) (by kernel_rfl)
theorem AmD (h0:ilt x 0 = false) (h1:ile (ofNat (Cq [120,121,122,97,98,99,100,101,102,103,104,105,106,107,108,109])) x = true):(Ar (Ai tab ⟨Am tb0,L,Gl⟩ Try.f38 [iV x] [])).sem = some ((.tup [(.str []),(iV 4)]),[]):=by
 exact Aa (ks:=[kn h0,kn h0,kn h0,kn h0,kn h0,kn h1]) (by kernel_rfl)
end
theorem Adi:(Ar (Ai tab (AI Gl tb0 []) Try.f37 [nV 0] [])).sem = some (.tup [.str (BQ (ofNat 0)),iV (Cv (ofNat 0))],[]):=by kernel_rfl
theorem Adh:(Ar (Ai tab (AI Gl tb0 []) Try.f37 [nV 1] [])).sem = some (.tup [.str (BQ (ofNat 1)),iV (Cv (ofNat 1))],[]):=by kernel_rfl
theorem Adg:(Ar (Ai tab (AI Gl tb0 []) Try.f37 [nV 2] [])).sem = some (.tup [.str (BQ (ofNat 2)),iV (Cv (ofNat 2))],[]):=by kernel_rfl
theorem Adf:(Ar (Ai tab (AI Gl tb0 []) Try.f37 [nV 3] [])).sem = some (.tup [.str (BQ (ofNat 3)),iV (Cv (ofNat 3))],[]):=by kernel_rfl
theorem Ade:(Ar (Ai tab (AI Gl tb0 []) Try.f37 [nV 4] [])).sem = some (.tup [.str (BQ (ofNat 4)),iV (Cv (ofNat 4))],[]):=by kernel_rfl
theorem Add:(Ar (Ai tab (AI Gl tb0 []) Try.f37 [nV 5] [])).sem = some (.tup [.str (BQ (ofNat 5)),iV (Cv (ofNat 5))],[]):=by kernel_rfl
theorem Adc:(Ar (Ai tab (AI Gl tb0 []) Try.f37 [nV 6] [])).sem = some (.tup [.str (BQ (ofNat 6)),iV (Cv (ofNat 6))],[]):=by kernel_rfl
theorem Adb:(Ar (Ai tab (AI Gl tb0 []) Try.f37 [nV 7] [])).sem = some (.tup [.str (BQ (ofNat 7)),iV (Cv (ofNat 7))],[]):=by kernel_rfl
theorem Ada:(Ar (Ai tab (AI Gl tb0 []) Try.f37 [nV 8] [])).sem = some (.tup [.str (BQ (ofNat 8)),iV (Cv (ofNat 8))],[]):=by kernel_rfl
theorem AcZ:(Ar (Ai tab (AI Gl tb0 []) Try.f37 [nV 9] [])).sem = some (.tup [.str (BQ (ofNat 9)),iV (Cv (ofNat 9))],[]):=by kernel_rfl
theorem ZY:(Ar (Ai tab (AI Gl tb0 []) Try.f37 [nV 10] [])).sem = some (.tup [.str (BQ (ofNat 10)),iV (Cv (ofNat 10))],[]):=by kernel_rfl
theorem ZX:(Ar (Ai tab (AI Gl tb0 []) Try.f37 [nV 11] [])).sem = some (.tup [.str (BQ (ofNat 11)),iV (Cv (ofNat 11))],[]):=by kernel_rfl
theorem ZW:(Ar (Ai tab (AI Gl tb0 []) Try.f37 [nV 12] [])).sem = some (.tup [.str (BQ (ofNat 12)),iV (Cv (ofNat 12))],[]):=by kernel_rfl
theorem ZV:(Ar (Ai tab (AI Gl tb0 []) Try.f37 [nV 13] [])).sem = some (.tup [.str (BQ (ofNat 13)),iV (Cv (ofNat 13))],[]):=by kernel_rfl
theorem ZU:(Ar (Ai tab (AI Gl tb0 []) Try.f37 [nV 14] [])).sem = some (.tup [.str (BQ (ofNat 14)),iV (Cv (ofNat 14))],[]):=by kernel_rfl
theorem ZT:(Ar (Ai tab (AI Gl tb0 []) Try.f37 [nV 15] [])).sem = some (.tup [.str (BQ (ofNat 15)),iV (Cv (ofNat 15))],[]):=by kernel_rfl
theorem Alq (k:Nat) (hk:k < 16):(Ar (Ai tab (AI Gl tb0 []) Try.f37 [nV k] [])).sem = some (.tup [.str (BQ (ofNat k)),iV (Cv (ofNat k))],[]):=by
 have:k = 0 ∨ k = 1 ∨ k = 2 ∨ k = 3 ∨ k = 4 ∨ k = 5 ∨ k = 6 ∨ k = 7 ∨ k = 8 ∨ k = 9 ∨ k = 10 ∨ k = 11 ∨ k = 12 ∨ k = 13 ∨ k = 14 ∨ k = 15:=by omega
 rcases this with rfl | rfl | rfl | rfl | rfl | rfl | rfl | rfl | rfl | rfl | rfl | rfl | rfl | rfl | rfl | rfl
 ·exact Adi
 ·exact Adh
 ·exact Adg
 ·exact Adf
 ·exact Ade
 ·exact Add
 ·exact Adc
 ·exact Adb
 ·exact Ada
 ·exact AcZ
 ·exact ZY
 ·exact ZX
 ·exact ZW
 ·exact ZV
 ·exact ZU
 ·exact ZT
theorem p37:A7 Try.prog Gl 37 XD:=by
 refine A7.congr (AP AL AN Try.func37 (by kernel_rfl) (by kernel_rfl) (Γ:=AI Gl tb0 []) (AO C9 [])) λvs r h=>?_
 unfold XD at h
 split at h
 ·rename_i x
  rw [Ac h]
  show (Ar (Ai tab (AI Gl tb0 []) Try.f37 [iV x] [])).sem = _
  cases c0:ilt x 0 with
  | true =>
   rw [show BQ x = [] by unfold BQ bor; rw [c0]; rfl,show Cv x = 4 by unfold Cv bor; rw [c0]; rfl]
   exact AmE _ x c0
  | false =>
   cases c1:ile 16 x with
   | true =>
    rw [show BQ x = [] by unfold BQ bor; rw [c0,c1]; rfl,show Cv x = 4 by unfold Cv bor; rw [c0,c1]; rfl]
    exact AmF _ x c0 c1
   | false =>
    have h1:¬ x < 0:=of_decide_eq_false c0
    have h2:¬ (16:Int) <= x:=of_decide_eq_false c1
    obtain ⟨k,rfl⟩:∃ k:Nat,x = ofNat k:=⟨x.toNat,by simp only [Int.ofNat_eq_natCast]; omega⟩
    exact Alq k (by simp only [Int.ofNat_eq_natCast] at h2; omega)
 ·cases h
theorem AcY:(Ar (Ai tab (AI Gl tb0 []) Try.f38 [nV 0] [])).sem = some (.tup [.str (BQ (ofNat 0)),iV (Cv (ofNat 0))],[]):=by kernel_rfl
theorem AcX:(Ar (Ai tab (AI Gl tb0 []) Try.f38 [nV 1] [])).sem = some (.tup [.str (BQ (ofNat 1)),iV (Cv (ofNat 1))],[]):=by kernel_rfl
theorem AcW:(Ar (Ai tab (AI Gl tb0 []) Try.f38 [nV 2] [])).sem = some (.tup [.str (BQ (ofNat 2)),iV (Cv (ofNat 2))],[]):=by kernel_rfl
theorem AcV:(Ar (Ai tab (AI Gl tb0 []) Try.f38 [nV 3] [])).sem = some (.tup [.str (BQ (ofNat 3)),iV (Cv (ofNat 3))],[]):=by kernel_rfl
theorem AcU:(Ar (Ai tab (AI Gl tb0 []) Try.f38 [nV 4] [])).sem = some (.tup [.str (BQ (ofNat 4)),iV (Cv (ofNat 4))],[]):=by kernel_rfl
theorem AcT:(Ar (Ai tab (AI Gl tb0 []) Try.f38 [nV 5] [])).sem = some (.tup [.str (BQ (ofNat 5)),iV (Cv (ofNat 5))],[]):=by kernel_rfl
theorem AcS:(Ar (Ai tab (AI Gl tb0 []) Try.f38 [nV 6] [])).sem = some (.tup [.str (BQ (ofNat 6)),iV (Cv (ofNat 6))],[]):=by kernel_rfl
theorem AcR:(Ar (Ai tab (AI Gl tb0 []) Try.f38 [nV 7] [])).sem = some (.tup [.str (BQ (ofNat 7)),iV (Cv (ofNat 7))],[]):=by kernel_rfl
theorem AcQ:(Ar (Ai tab (AI Gl tb0 []) Try.f38 [nV 8] [])).sem = some (.tup [.str (BQ (ofNat 8)),iV (Cv (ofNat 8))],[]):=by kernel_rfl
theorem AcP:(Ar (Ai tab (AI Gl tb0 []) Try.f38 [nV 9] [])).sem = some (.tup [.str (BQ (ofNat 9)),iV (Cv (ofNat 9))],[]):=by kernel_rfl
theorem ZS:(Ar (Ai tab (AI Gl tb0 []) Try.f38 [nV 10] [])).sem = some (.tup [.str (BQ (ofNat 10)),iV (Cv (ofNat 10))],[]):=by kernel_rfl
theorem ZR:(Ar (Ai tab (AI Gl tb0 []) Try.f38 [nV 11] [])).sem = some (.tup [.str (BQ (ofNat 11)),iV (Cv (ofNat 11))],[]):=by kernel_rfl
theorem ZQ:(Ar (Ai tab (AI Gl tb0 []) Try.f38 [nV 12] [])).sem = some (.tup [.str (BQ (ofNat 12)),iV (Cv (ofNat 12))],[]):=by kernel_rfl
theorem ZP:(Ar (Ai tab (AI Gl tb0 []) Try.f38 [nV 13] [])).sem = some (.tup [.str (BQ (ofNat 13)),iV (Cv (ofNat 13))],[]):=by kernel_rfl
theorem ZO:(Ar (Ai tab (AI Gl tb0 []) Try.f38 [nV 14] [])).sem = some (.tup [.str (BQ (ofNat 14)),iV (Cv (ofNat 14))],[]):=by kernel_rfl
theorem ZN:(Ar (Ai tab (AI Gl tb0 []) Try.f38 [nV 15] [])).sem = some (.tup [.str (BQ (ofNat 15)),iV (Cv (ofNat 15))],[]):=by kernel_rfl
theorem Alp (k:Nat) (hk:k < 16):(Ar (Ai tab (AI Gl tb0 []) Try.f38 [nV k] [])).sem = some (.tup [.str (BQ (ofNat k)),iV (Cv (ofNat k))],[]):=by
 have:k = 0 ∨ k = 1 ∨ k = 2 ∨ k = 3 ∨ k = 4 ∨ k = 5 ∨ k = 6 ∨ k = 7 ∨ k = 8 ∨ k = 9 ∨ k = 10 ∨ k = 11 ∨ k = 12 ∨ k = 13 ∨ k = 14 ∨ k = 15:=by omega
 rcases this with rfl | rfl | rfl | rfl | rfl | rfl | rfl | rfl | rfl | rfl | rfl | rfl | rfl | rfl | rfl | rfl
 ·exact AcY
 ·exact AcX
 ·exact AcW
 ·exact AcV
 ·exact AcU
 ·exact AcT
 ·exact AcS
 ·exact AcR
 ·exact AcQ
 ·exact AcP
 ·exact ZS
 ·exact ZR
 ·exact ZQ
 ·exact ZP
 ·exact ZO
 ·exact ZN
theorem p38:A7 Try.prog Gl 38 XD:=by
 refine A7.congr (AP AL AN Try.func38 (by kernel_rfl) (by kernel_rfl) (Γ:=AI Gl tb0 []) (AO C9 [])) λvs r h=>?_
 unfold XD at h
 split at h
 ·rename_i x
  rw [Ac h]
  show (Ar (Ai tab (AI Gl tb0 []) Try.f38 [iV x] [])).sem = _
  cases c0:ilt x 0 with
  | true =>
   rw [show BQ x = [] by unfold BQ bor; rw [c0]; rfl,show Cv x = 4 by unfold Cv bor; rw [c0]; rfl]
   exact AmC _ x c0
  | false =>
   cases c1:ile 16 x with
   | true =>
    rw [show BQ x = [] by unfold BQ bor; rw [c0,c1]; rfl,show Cv x = 4 by unfold Cv bor; rw [c0,c1]; rfl]
    exact AmD _ x c0 c1
   | false =>
    have h1:¬ x < 0:=of_decide_eq_false c0
    have h2:¬ (16:Int) <= x:=of_decide_eq_false c1
    obtain ⟨k,rfl⟩:∃ k:Nat,x = ofNat k:=⟨x.toNat,by simp only [Int.ofNat_eq_natCast]; omega⟩
    exact Alp k (by simp only [Int.ofNat_eq_natCast] at h2; omega)
 ·cases h
end Go.Proofs.Ytjhnfomefcngfaa.Sh
namespace Go.Proofs.Ytjhnfomefcngfaa.Sh
open Go.Sy Ed
set_option maxHeartbeats 1000000
set_option maxRecDepth 4000
theorem YS {k:Nat} (h:k <= 16):Ag k = true:=decide_eq_true (by omega)
theorem Xu (n:Nat) (f:Nat->E6):BG n f n f = true:=Ka.2 ⟨rfl,λ_ _=>rfl⟩
theorem P0 (n:Nat) (f:Nat->Int):B3 n f n f = true:=by
 unfold B3
 rw [Bg (EB _)]
 exact A3.2 λ_ _=>EB _
theorem Xt (n:Nat) (ln:Nat->Nat) (co:Nat->Nat->Int):CA n ln co n ln co = true:=by
 unfold CA
 rw [Bg (EB _)]
 exact A3.2 λ_ _=>P0 _ _
theorem Xr (e:Ev5):CR e e = true:=by
 unfold CR
 rw [Bg (EB _),Bg (EB _),Bg (EB _),Bg (EB _),Bg (EB _)]
end Go.Proofs.Ytjhnfomefcngfaa.Sh
namespace Go.Proofs.Ytjhnfomefcngfaa.Sh
open Go.Sy Ed
set_option maxRecDepth 100000
theorem own:ownKnob Try.prog.godebug = none:=by kernel_rfl
theorem Adn:laidOutB Try.prog = true:=by kernel_rfl
def V3 (e:E6):List Value:=[.int .i64 e.kind,.bool e.ext,.bool e.same,.int .i64 e.src,.int .i64 e.dst,.int .i64 e.fence]
section
variable {H:Type} {enc:TypeId × Value->H} {W:World} {sp:Nat->Bool} {held:Bool} {r:Reach} {b0:Nat} {v:Value} {d:DataW H} {ps:List MemPlace}
theorem G4 {c d:Value} {cs:List Value} (h:cs = [d]) (hc:[c] = cs):c = d:=by
 subst h
 simpa using hc
theorem Vz (fuel:Nat) (cs:List Value) (x:DataW H × List MemPlace) (h:DataW.trod enc Try.prog W 0 sp held fuel 44 cs = some x):∃ e:E6,cs = V3 e:=by
 obtain ⟨xs,n,_,_,hl,hx,hf⟩:=DataW.trod_struct Try.underlying44 h
 have hl:cs.length = 6:=hl.trans (by kernel_rfl)
 have hx:xs.length = 6:=hx
 obtain ⟨c0,c1,c2,c3,c4,c5,rfl⟩:∃ a b c d e f,cs = [a,b,c,d,e,f]:=by
  match cs,hl with
  | [a,b,c,d,e,f],_=>exact ⟨a,b,c,d,e,f,rfl⟩
 have get:∀ (i:Nat) (f:Field),#[({ name := "Kind",type:=3,offset:=0,embedded:=false,tag := "",pkgPath := "",byteOffset:=0 }:Field),
    { name := "Ext",type:=4,offset:=1,embedded:=false,tag := "",pkgPath := "",byteOffset:=8 },
    { name := "Same",type:=4,offset:=2,embedded:=false,tag := "",pkgPath := "",byteOffset:=9 },
    { name := "Src",type:=3,offset:=3,embedded:=false,tag := "",pkgPath := "",byteOffset:=16 },
    { name := "Dst",type:=3,offset:=4,embedded:=false,tag := "",pkgPath := "",byteOffset:=24 },
    { name := "Fence",type:=3,offset:=5,embedded:=false,tag := "",pkgPath := "",byteOffset:=32 }][i]? = some f->i < 6 ->
   ∃ y,DataW.trod enc Try.prog W 0 sp held n f.type (([c0,c1,c2,c3,c4,c5].drop f.offset).take (Try.prog.cellsOf f.type)) = some y:=by
  intro i f hi hlt
  have:=hf i f hi
  rw [List.getElem?_eq_getElem (by omega)] at this
  exact ⟨_,this⟩
 have n3:Try.prog.cellsOf 3 = 1:=by kernel_rfl
 have n4:Try.prog.cellsOf 4 = 1:=by kernel_rfl
 obtain ⟨y0,g0⟩:=get 0 _ rfl (by omega)
 obtain ⟨y1,g1⟩:=get 1 _ rfl (by omega)
 obtain ⟨y2,g2⟩:=get 2 _ rfl (by omega)
 obtain ⟨y3,g3⟩:=get 3 _ rfl (by omega)
 obtain ⟨y4,g4⟩:=get 4 _ rfl (by omega)
 obtain ⟨y5,g5⟩:=get 5 _ rfl (by omega)
 have g0:DataW.trod enc Try.prog W 0 sp held n 3 (([c0,c1,c2,c3,c4,c5].drop 0).take (Try.prog.cellsOf 3)) = some y0:=g0
 rw [n3] at g0
 have g1:DataW.trod enc Try.prog W 0 sp held n 4 (([c0,c1,c2,c3,c4,c5].drop 1).take (Try.prog.cellsOf 4)) = some y1:=g1
 rw [n4] at g1
 have g2:DataW.trod enc Try.prog W 0 sp held n 4 (([c0,c1,c2,c3,c4,c5].drop 2).take (Try.prog.cellsOf 4)) = some y2:=g2
 rw [n4] at g2
 have g3:DataW.trod enc Try.prog W 0 sp held n 3 (([c0,c1,c2,c3,c4,c5].drop 3).take (Try.prog.cellsOf 3)) = some y3:=g3
 rw [n3] at g3
 have g4:DataW.trod enc Try.prog W 0 sp held n 3 (([c0,c1,c2,c3,c4,c5].drop 4).take (Try.prog.cellsOf 3)) = some y4:=g4
 rw [n3] at g4
 have g5:DataW.trod enc Try.prog W 0 sp held n 3 (([c0,c1,c2,c3,c4,c5].drop 5).take (Try.prog.cellsOf 3)) = some y5:=g5
 rw [n3] at g5
 obtain ⟨a0,e0,_⟩:=DataW.trod_int Try.underlying3 g0
 obtain ⟨a1,e1,_⟩:=DataW.trod_bool Try.underlying4 g1
 obtain ⟨a2,e2,_⟩:=DataW.trod_bool Try.underlying4 g2
 obtain ⟨a3,e3,_⟩:=DataW.trod_int Try.underlying3 g3
 obtain ⟨a4,e4,_⟩:=DataW.trod_int Try.underlying3 g4
 obtain ⟨a5,e5,_⟩:=DataW.trod_int Try.underlying3 g5
 have e0:c0 = .int .i64 a0:=G4 e0 rfl
 have e1:c1 = .bool a1:=G4 e1 rfl
 have e2:c2 = .bool a2:=G4 e2 rfl
 have e3:c3 = .int .i64 a3:=G4 e3 rfl
 have e4:c4 = .int .i64 a4:=G4 e4 rfl
 have e5:c5 = .int .i64 a5:=G4 e5 rfl
 exact ⟨⟨a0,a1,a2,a3,a4,a5⟩,by rw [e0,e1,e2,e3,e4,e5]; rfl⟩
theorem AdL (S:Nat->Prop) (w:World) (κ:Nat->Option Value) (e:E6):VR S w (eV e) κ (.agg (V3 e).toArray) :=
 ⟨_,rfl,_,_,rfl,rfl,_,_,rfl,rfl,_,_,rfl,rfl,_,_,rfl,rfl,_,_,rfl,rfl,_,_,rfl,rfl,rfl⟩
def AlT (W:World) (v:Value) (u:V):Prop:=VR (Lh W) W u noK v
instance:Inhabited E6:=⟨FK⟩
end
noncomputable def LB (os:Os):World:=World.holding Try.prog os ⟨#[],#[],[]⟩
end Go.Proofs.Ytjhnfomefcngfaa.Sh
namespace Go.Proofs.Ytjhnfomefcngfaa.Sh
open Go.Sy Ed
set_option maxRecDepth 100000
def AdN {H:Type} (t:TypeId) (d:DataW H):Prop:=(d.weights Try.prog t).all (· <= reachBytes) = true
def Jt {H:Type} {α:Type} (enc:TypeId × Value->H) (W:World) (sp:Nat->Bool) (held:Bool) (t:TypeId) (g:α->V) (B:α->Prop):Prop :=
 ∀ fuel cs d ps,DataW.trod enc Try.prog W 0 sp held fuel t cs = some (d,ps) ->
  ∃ a ci,VR (Lh W) W (g a) noK ci ∧ ci.cells.toList = cs ∧ (∀ u ∈ cs,u.oneCell' = true) ∧ (AdN t d->B a)
def Aiv {α:Type} (g:α->V):Prop:=∀ (S:Nat->Prop) (w:World) (a:α) (c:Value),VR S w (g a) noK c->c.cells.toList = [c]
def TO {H:Type} (enc:TypeId × Value->H) (W:World) (sp:Nat->Bool) (held:Bool) (fuel:Nat):List TypeId->List Value->List (DataW H)->Prop
 | [],[],[]=>True
 | t :: ts,c :: cs,d :: ds=>(∃ ps,DataW.trod enc Try.prog W 0 sp held fuel t [c] = some (d,ps)) ∧ TO enc W sp held fuel ts cs ds
 | _,_,_=>False
def RH {H:Type} {α:Type} (enc:TypeId × Value->H) (W:World) (sp:Nat->Bool) (held:Bool) (ts:List TypeId) (g:α->List V) (B:α->Prop):Prop :=
 ∀ fuel cs ds,TO enc W sp held fuel ts cs ds ->
  ∃ a,VRs (Lh W) W (g a) noK cs ∧ (∀ u ∈ cs,u.oneCell' = true) ∧ ((DataW.weightsEach Try.prog ts ds).all (· <= reachBytes) = true->B a)
section
variable {H:Type} {enc:TypeId × Value->H} {W:World} {sp:Nat->Bool} {held:Bool} {r:Reach} {b0:Nat}
theorem RP {fuel:Nat}:∀ (ts:List TypeId) (cs:List Value) (xs:List (DataW H × List MemPlace)),cs.length = ts.length->xs.length = ts.length ->
  (∀ (i:Nat) t c,ts[i]? = some t->cs[i]? = some c->DataW.trod enc Try.prog W 0 sp held fuel t [c] = xs[i]?)->TO enc W sp held fuel ts cs (xs.map (·.1))
 | [],[],[],_,_,_=>trivial
 | t :: ts,c :: cs,x :: xs,h1,h2,h=>by
  refine ⟨⟨x.2,?_⟩,RP ts cs xs (by simpa using h1) (by simpa using h2) λi t' c' ht hc=>?_⟩
  ·have:=h 0 t c rfl rfl
   simpa using this
  ·have:=h (i+1) t' c' (by simpa using ht) (by simpa using hc)
   simpa using this
theorem Nn:RH enc W sp held [] (λ_:Unit=>[]) (λ_=>True):=by
 intro fuel cs ds h
 cases cs with
 | nil=>exact ⟨(),rfl,(λu hu=>absurd hu (by simp)),λ_=>trivial⟩
 | cons c cs=>exact absurd h (by simp [TO])
theorem BF {α β:Type} {t:TypeId} {ts:List TypeId} {g:α->V} {B:α->Prop} {g':β->List V} {B':β->Prop} (h:Jt enc W sp held t g B) (h1:Aiv g) (ht:RH enc W sp held ts g' B') :
  RH enc W sp held (t :: ts) (λp:α × β=>g p.1 :: g' p.2) (λp=>B p.1 ∧ B' p.2):=by
 intro fuel cs ds hh
 cases cs with
 | nil=>cases hh
 | cons c cs =>
  cases ds with
  | nil=>cases hh
  | cons d ds =>
   obtain ⟨⟨ps,hp⟩,hr⟩:=hh
   obtain ⟨a,ci,q1,q2,q3,q4⟩:=h fuel [c] d ps hp
   obtain ⟨b,p1,p2,p3⟩:=ht fuel cs ds hr
   have e:=h1 _ _ _ _ q1
   rw [e] at q2
   simp only [List.cons.injEq,and_true] at q2
   subst q2
   refine ⟨(a,b),⟨_,_,rfl,q1,p1⟩,λu hu=>?_,λhf=>?_⟩
   ·rcases List.mem_cons.1 hu with rfl | hu
    ·exact q3 _ (List.mem_cons_self ..)
    ·exact p2 u hu
   ·have hf:(d.weights Try.prog t ++ DataW.weightsEach Try.prog ts ds).all (· <= reachBytes) = true:=by
     simpa only [DataW.weightsEach] using hf
    rw [List.all_append,Bool.and_eq_true] at hf
    exact ⟨q4 hf.1,p3 hf.2⟩
theorem RZ {α:Type}:∀ {i:Nat} {l:List α} {c:α},l[i]? = some c->(l.drop i).take 1 = [c]
 | 0,c :: l,c',h=>by simp at h; simp [h]
 | i+1,c :: l,c',h=>by
  have h:l[i]? = some c':=by simpa using h
  simpa using RZ h
theorem JT {α:Type} {g:α->List V} {B:α->Prop} {t:TypeId} {fs:Array Field} (ht:Try.prog.underlying t = some (.struct fs)) (hn:Try.prog.cellsOf t = fs.size)
  (hf:∀ (i:Nat) (f:Field),fs[i]? = some f->f.offset = i ∧ Try.prog.cellsOf f.type = 1) (h:RH enc W sp held (fs.toList.map (·.type)) g B):Jt enc W sp held t (λa=>.agg (g a)) B:=by
 intro fuel cs d ps hx
 obtain ⟨xs,n,_,hd,hl,hlx,hi⟩:=DataW.trod_struct ht hx
 simp only [Prod.mk.injEq] at hd
 have hT:TO enc W sp held n (fs.toList.map (·.type)) cs (xs.map (·.1)):=by
  refine RP _ _ _ (by simp [hl,hn]) (by simp [hlx]) λi t' c ht' hc=>?_
  rw [List.getElem?_map,Option.map_eq_some_iff] at ht'
  obtain ⟨f,hfi,rfl⟩:=ht'
  have hfi:fs[i]? = some f:=by simpa using hfi
  have h2:=hi i f hfi
  rw [(hf i f hfi).1,(hf i f hfi).2,RZ hc] at h2
  exact h2
 obtain ⟨a,q1,q2,q3⟩:=h n cs _ hT
 refine ⟨a,.agg cs.toArray,⟨cs,rfl,q1⟩,rfl,q2,λhh=>q3 ?_⟩
 have hh:(d.weights Try.prog t).all (· <= reachBytes) = true:=hh
 rw [hd.1] at hh
 unfold DataW.weights at hh
 rw [ht] at hh
 exact hh
theorem CW:Jt enc W sp held 3 iV (λ_=>True):=by
 intro fuel cs d ps h
 obtain ⟨n,rfl,_⟩:=DataW.trod_int Try.underlying3 h
 exact ⟨n,_,rfl,rfl,λu hu=>by simp at hu; subst hu; rfl,λ_=>trivial⟩
theorem FT:Aiv iV:=by
 rintro S w a c h
 have h:c = .int .i64 a:=h
 subst h
 rfl
theorem Mc {e:TypeId} {p:Nat->Bool}:∀ {ds:List (DataW H)},(DataW.weightsAll Try.prog e ds).all p = true->∀ d ∈ ds,(d.weights Try.prog e).all p = true
 | d :: ds,h,d',hd=>by
  have h:(d.weights Try.prog e ++ DataW.weightsAll Try.prog e ds).all p = true:=by simpa only [DataW.weightsAll] using h
  rw [List.all_append,Bool.and_eq_true] at h
  rcases List.mem_cons.1 hd with rfl | hd
  ·exact h.1
  ·exact Mc h.2 d' hd
theorem E1 {α:Type} [Inhabited α] {g:α->V} {B:α->Prop} {t e:TypeId} {s:Nat} (ht:Try.prog.underlying t = some (.slice e)) (hs:Try.prog.cellsOf e = s) (hs0:0 < s) (h:Jt enc W sp held e g B) :
  Jt enc W sp held t (λp:Nat × (Nat->α)=>.sl s p.1 λi=>g (p.2 i)) (λp=>p.1 * Try.prog.bytesOf e <= reachBytes ∧ ∀ i,i < p.1->B (p.2 i)):=by
 intro fuel cs d ps hf
 rcases DataW.trod_slice ht hf with ⟨rfl,hx⟩ | ⟨a',len,cap,elems,rest,n,_,rfl,hx,_,hl,_,hlen,hE,_,_⟩
 ·refine ⟨(0,λ_=>default),_,⟨none,0,rfl,Nat.le_refl _,.inl rfl⟩,rfl,λu hu=>by simp at hu; subst hu; rfl,λ_=>⟨by simp,λi hi=>by omega⟩⟩
 ·simp only [Prod.mk.injEq] at hx
  have hex:∀ i,i < len->∃ x:α,∃ ci,VR (Lh W) W (g x) noK ci ∧ (∀ u ∈ ci.cells.toList,u.oneCell' = true) ∧ W.cells? 0 (a'.add (i * s)) s = some ci.cells.toList ∧ (∀ di,(elems.map (·.1))[i]? = some di->AdN e di->B x):=by
   intro i hi
   have:=hE i hi
   have hi':i < elems.length:=by omega
   rw [List.getElem?_eq_getElem hi',Option.bind_eq_some_iff,hs] at this
   obtain ⟨cs,h1,h2⟩:=this
   obtain ⟨x,ci,q1,q2,q3,q4⟩:=h _ _ _ _ h2
   subst q2
   refine ⟨x,ci,q1,q3,h1,λdi hdi hF=>q4 ?_⟩
   rw [List.getElem?_map,List.getElem?_eq_getElem hi'] at hdi
   simp only [Option.map_some,Option.some.injEq] at hdi
   have hdi:(elems.get ⟨i,hi'⟩).1 = di:=hdi
   rw [hdi]
   exact hF
  refine ⟨(len,λi=>if h:i < len then (hex i h).choose else default),_,⟨some a',cap,rfl,hl,?_⟩,rfl,λu hu=>by simp at hu; subst hu; rfl,λhF=>?_⟩
  ·by_cases hz:len = 0
   ·exact .inl hz
   right
   obtain ⟨b,off,spot⟩:=a'
   have hspot:spot = none:=by
    obtain ⟨ci,_,_,q3,_⟩:=(hex 0 (by omega)).choose_spec
    have:=(World.cells?_some q3)
    have h2:=this.2.2 0 (by omega)
    have hl:0 < ci.cells.toList.length:=by omega
    rw [List.getElem?_eq_getElem hl] at h2
    simpa [Addr.add] using World.cell?_spot h2
   subst hspot
   refine ⟨b,off,rfl,λi hi=>?_⟩
   obtain ⟨ci,q1,q2,q3,_⟩:=(hex i hi).choose_spec
   have hc:=World.cells?_some q3
   refine ⟨ci,by simp only [hi,dif_pos]; exact q1,?_,q2,?_⟩
   ·rw [<- Array.length_toList]; exact hc.2.1
   ·intro j u hj
    have hjs:j < s:=by
     have:=(List.getElem?_eq_some_iff.1 hj).1
     have h3:=hc.2.1
     omega
    have:=hc.2.2 j hjs
    rw [hj] at this
    have e1:((⟨b,off,none⟩:Addr).add (i * s)).add j = ⟨b,off+i * s+j,none⟩:=by
     rw [Cj,Cj]
    rw [e1] at this
    exact ⟨Na this,this⟩
  ·have hF:(d.weights Try.prog t).all (· <= reachBytes) = true:=hF
   rw [hx.1] at hF
   unfold DataW.weights at hF
   rw [ht] at hF
   simp only [List.all_cons,Bool.and_eq_true,List.all_append,decide_eq_true_eq] at hF
   refine ⟨?_,λi hi=>?_⟩
   ·have h1:=hF.1
    simp only [List.length_map] at h1
    rw [hlen] at h1
    exact Nat.le_trans (Nat.mul_le_mul_right _ (Nat.le_add_right _ _)) h1
   ·obtain ⟨ci,_,_,_,q4⟩:=(hex i hi).choose_spec
    simp only [hi,dif_pos]
    have hi':i < (elems.map (·.1)).length:=by simp [hlen,hi]
    exact q4 _ (List.getElem?_eq_getElem hi') (Mc hF.2.1 _ (List.getElem_mem hi'))
theorem QN {α:Type} {g:α->V} {s:Nat}:Aiv (λp:Nat × (Nat->α)=>.sl s p.1 λi=>g (p.2 i)):=by
 rintro S w a c ⟨b,cap,rfl,_⟩
 rfl
theorem Ua:Jt enc W sp held 44 eV (λ_=>True):=by
 intro fuel cs d ps h
 obtain ⟨e,rfl⟩:=Vz fuel cs _ h
 exact ⟨e,_,AdL _ _ _ e,rfl,λu hu=>by simp [V3] at hu; rcases hu with rfl | rfl | rfl | rfl | rfl | rfl <;> rfl,λ_=>trivial⟩
theorem Pk {α β:Type} {t:TypeId} {g:α->V} {B:α->Prop} {g':β->V} {B':β->Prop} (k:α->β) (hg:∀ a,g a = g' (k a)) (hB:∀ a,B a->B' (k a)) (h:Jt enc W sp held t g B):Jt enc W sp held t g' B':=by
 intro fuel cs d ps hx
 obtain ⟨a,ci,q1,q2,q3,q4⟩:=h fuel cs d ps hx
 exact ⟨k a,ci,by rw [<- hg]; exact q1,q2,q3,λhF=>hB a (q4 hF)⟩
theorem RT:Jt enc W sp held 40 evV (λ_=>True) :=
 Pk (λp:Int × Int × Int × Int × Int × Unit=>⟨p.1,p.2.1,p.2.2.1,p.2.2.2.1,p.2.2.2.2.1⟩) (λ_=>rfl) (λ_ _=>trivial)
  (JT Try.underlying40 (by kernel_rfl) (λi f hi=>by
   match i,hi with
   | 0,hi=>cases hi; exact ⟨rfl,by kernel_rfl⟩
   | 1,hi=>cases hi; exact ⟨rfl,by kernel_rfl⟩
   | 2,hi=>cases hi; exact ⟨rfl,by kernel_rfl⟩
   | 3,hi=>cases hi; exact ⟨rfl,by kernel_rfl⟩
   | 4,hi=>cases hi; exact ⟨rfl,by kernel_rfl⟩
   | _+5,hi=>simp at hi)
   (BF CW FT (BF CW FT (BF CW FT (BF CW FT (BF CW FT Nn))))))
instance:Inhabited Ev5:=⟨⟨0,0,0,0,0⟩⟩
structure FitS (s:Sh7):Prop where
 ne:s.ne * 40 <= reachBytes
 nx:s.nx * 40 <= reachBytes
 nr:s.nr * 8 <= reachBytes
 nc:s.nc * 24 <= reachBytes
 ln:∀ i,i < s.nc->(s.C i).1 * 8 <= reachBytes
theorem RS:Jt enc W sp held 28 Q5 FitS :=
 Pk (λp:Int × (Nat × (Nat->E6)) × (Nat × (Nat->Ev5)) × Int × Int × (Nat × (Nat->Int)) × (Nat × (Nat->Nat × (Nat->Int))) × Unit =>
     ⟨p.1,p.2.1.1,p.2.1.2,p.2.2.1.1,p.2.2.1.2,p.2.2.2.1,p.2.2.2.2.1,p.2.2.2.2.2.1.1,p.2.2.2.2.2.1.2,p.2.2.2.2.2.2.1.1,p.2.2.2.2.2.2.1.2⟩) (λ_=>rfl)
  (λp h=>⟨by have h0:=h.2.1.1; rwa [show Try.prog.bytesOf 44 = 40 by kernel_rfl] at h0,by have h0:=h.2.2.1.1; rwa [show Try.prog.bytesOf 40 = 40 by kernel_rfl] at h0,by have h0:=h.2.2.2.2.2.1.1; rwa [show Try.prog.bytesOf 3 = 8 by kernel_rfl] at h0,by have h0:=h.2.2.2.2.2.2.1.1; rwa [show Try.prog.bytesOf 25 = 24 by kernel_rfl] at h0,λi hi=>by have h0:=(h.2.2.2.2.2.2.1.2 i hi).1; rwa [show Try.prog.bytesOf 3 = 8 by kernel_rfl] at h0⟩)
  (JT Try.underlying28 (by kernel_rfl) (λi f hi=>by
   match i,hi with
   | 0,hi=>cases hi; exact ⟨rfl,by kernel_rfl⟩
   | 1,hi=>cases hi; exact ⟨rfl,by kernel_rfl⟩
   | 2,hi=>cases hi; exact ⟨rfl,by kernel_rfl⟩
   | 3,hi=>cases hi; exact ⟨rfl,by kernel_rfl⟩
   | 4,hi=>cases hi; exact ⟨rfl,by kernel_rfl⟩
   | 5,hi=>cases hi; exact ⟨rfl,by kernel_rfl⟩
   | 6,hi=>cases hi; exact ⟨rfl,by kernel_rfl⟩
   | _+7,hi=>simp at hi)
   (BF CW FT <| BF (E1 Try.underlying22 (by kernel_rfl) (by decide) Ua) QN <| BF (E1 Try.underlying24 (by kernel_rfl) (by decide) RT) QN <|
    BF CW FT <| BF CW FT <| BF (E1 Try.underlying25 (by kernel_rfl) (by decide) CW) QN <|
    BF (E1 Try.underlying26 (by kernel_rfl) (by decide) (E1 Try.underlying25 (by kernel_rfl) (by decide) CW)) (QN (g:=λp:Nat × (Nat->Int)=>V.sl 1 p.1 λi=>iV (p.2 i)) (s:=1)) Nn))
theorem Sz {v:Value} {d:DataW H} {ps:List MemPlace} (hval:Value.okWide Try.prog W r b0 28 v) (h:DataW.Trod enc Try.prog W 0 sp held 28 v d ps):∃ s:Sh7,AlT W v (Q5 s) ∧ (AdN 28 d->FitS s):=by
 obtain ⟨fuel,hf⟩:=h
 obtain ⟨cs,rfl,_⟩:=WideShapes.okWide_struct Try.underlying28 hval
 obtain ⟨s,ci,q1,q2,_,q4⟩:=RS _ _ _ _ hf
 refine ⟨s,?_,q4⟩
 obtain ⟨ca,rfl,q1⟩:=q1
 have e:cs = ca.toArray:=by
  have:ca = cs.toList:=q2
  rw [this]
 show VR (Lh W) W (Q5 s) noK (.agg cs)
 rw [e]
 exact ⟨ca,rfl,q1⟩
theorem Ad3 {ts:List TypeId} {ds:List (DataW H)} (h:(DataW.weightsEach Try.prog ts ds).all (· <= reachBytes) = true):∀ {j:Nat} {t:TypeId} {d:DataW H},ts[j]? = some t->ds[j]? = some d->AdN t d:=by
 induction ts generalizing ds with
 | nil=>intro j t d ht; simp at ht
 | cons t0 ts ih =>
  intro j t d ht hd
  cases ds with
  | nil=>simp at hd
  | cons d0 ds =>
   have h:(d0.weights Try.prog t0 ++ DataW.weightsEach Try.prog ts ds).all (· <= reachBytes) = true:=by simpa only [DataW.weightsEach] using h
   rw [List.all_append,Bool.and_eq_true] at h
   cases j with
   | zero =>
    simp at ht hd
    subst ht hd
    exact h.1
   | succ j=>exact ih h.2 (by simpa using ht) (by simpa using hd)
end
end Go.Proofs.Ytjhnfomefcngfaa.Sh
