/-
  Layer 7: a location's name; what must come, whatever the arguments are. No conditions.
-/
import Derived.Test.YtjhnfomefcngfaaShG
import Derived.Test.YtjhnfomefcngfaaCyZp
import Derived.Test.YtjhnfomefcngfaaChecked
import Derived.ProofKit
import Derived.OpenShut
import Derived.Deep.DeepHandedRow
namespace Go.Proofs.Ytjhnfomefcngfaa.Sh
open Go.Sy Ed
open Int (ofNat)
set_option maxRecDepth 4000
def Ak3:List UInt8:=[120,121,122,97,98,99,100,101,102,103,104,105,106,107,108,109]
def Ca (x:Int):Int:=bif bor (ilt x 0) (ile 16 x) then 4 else 0
def BK (x:Int):List UInt8:=bif bor (ilt x 0) (ile 16 x) then [] else [Ak3.getD x.toNat 0]
def TL:List V->T (V × List Blk)
  | [.val (.int .i64 x)]=>.leaf (.tup [.str (BK x),iV (Ca x)],[])
  | _=>.fail
section
variable (L:LT) (x:Int)
include L x
theorem Ajw (h0:ilt x 0 = true):(As (Aj tab ⟨Ao tb0,L,Gl⟩ Try.f37 [iV x] [])).sem = some ((.tup [.str [],iV 4]),[]):=Aa [true,true,true,true] [ilt x 0,ilt x 0,ilt x 0,true] (by kernel_rfl) (by simp only [h0] <;> rfl)
theorem Ajx (h0:ilt x 0 = false) (h1:ile 16 x = true):(As (Aj tab ⟨Ao tb0,L,Gl⟩ Try.f37 [iV x] [])).sem = some ((.tup [.str [],iV 4]),[]):=Aa [false,false,false,true] [ilt x 0,ilt x 0,ilt x 0,ile 16 x] (by kernel_rfl) (by simp only [h0,h1] <;> rfl)
theorem Aju (h0:ilt x 0 = true):(As (Aj tab ⟨Ao tb0,L,Gl⟩ Try.f38 [iV x] [])).sem = some ((.tup [.str [],iV 4]),[]):=Aa (bbK 6 63) [ilt x 0,ilt x 0,ilt x 0,ilt x 0,ilt x 0,true] (by kernel_rfl) (by simp only [h0] <;> rfl)
theorem Ajv (h0:ilt x 0 = false) (h1:ile (ofNat (B6 [120,121,122,97,98,99,100,101,102,103,104,105,106,107,108,109])) x = true):(As (Aj tab ⟨Ao tb0,L,Gl⟩ Try.f38 [iV x] [])).sem = some ((.tup [.str [],iV 4]),[]):=Aa (bbK 6 32) [ilt x 0,ilt x 0,ilt x 0,ilt x 0,ilt x 0,ile (ofNat (B6 [120,121,122,97,98,99,100,101,102,103,104,105,106,107,108,109])) x] (by kernel_rfl) (by simp only [h0,h1] <;> rfl)
end
theorem Abk:(As (Aj tab (AI Gl tb0 []) Try.f37 [nV 0] [])).sem = some (.tup [.str (BK (ofNat 0)),iV (Ca (ofNat 0))],[]):=by kernel_rfl
theorem Abj:(As (Aj tab (AI Gl tb0 []) Try.f37 [nV 1] [])).sem = some (.tup [.str (BK (ofNat 1)),iV (Ca (ofNat 1))],[]):=by kernel_rfl
theorem Abi:(As (Aj tab (AI Gl tb0 []) Try.f37 [nV 2] [])).sem = some (.tup [.str (BK (ofNat 2)),iV (Ca (ofNat 2))],[]):=by kernel_rfl
theorem Abh:(As (Aj tab (AI Gl tb0 []) Try.f37 [nV 3] [])).sem = some (.tup [.str (BK (ofNat 3)),iV (Ca (ofNat 3))],[]):=by kernel_rfl
theorem Abg:(As (Aj tab (AI Gl tb0 []) Try.f37 [nV 4] [])).sem = some (.tup [.str (BK (ofNat 4)),iV (Ca (ofNat 4))],[]):=by kernel_rfl
theorem Abf:(As (Aj tab (AI Gl tb0 []) Try.f37 [nV 5] [])).sem = some (.tup [.str (BK (ofNat 5)),iV (Ca (ofNat 5))],[]):=by kernel_rfl
theorem Abe:(As (Aj tab (AI Gl tb0 []) Try.f37 [nV 6] [])).sem = some (.tup [.str (BK (ofNat 6)),iV (Ca (ofNat 6))],[]):=by kernel_rfl
theorem Abd:(As (Aj tab (AI Gl tb0 []) Try.f37 [nV 7] [])).sem = some (.tup [.str (BK (ofNat 7)),iV (Ca (ofNat 7))],[]):=by kernel_rfl
theorem Abc:(As (Aj tab (AI Gl tb0 []) Try.f37 [nV 8] [])).sem = some (.tup [.str (BK (ofNat 8)),iV (Ca (ofNat 8))],[]):=by kernel_rfl
theorem Abb:(As (Aj tab (AI Gl tb0 []) Try.f37 [nV 9] [])).sem = some (.tup [.str (BK (ofNat 9)),iV (Ca (ofNat 9))],[]):=by kernel_rfl
theorem Y2:(As (Aj tab (AI Gl tb0 []) Try.f37 [nV 10] [])).sem = some (.tup [.str (BK (ofNat 10)),iV (Ca (ofNat 10))],[]):=by kernel_rfl
theorem Y1:(As (Aj tab (AI Gl tb0 []) Try.f37 [nV 11] [])).sem = some (.tup [.str (BK (ofNat 11)),iV (Ca (ofNat 11))],[]):=by kernel_rfl
theorem Y0:(As (Aj tab (AI Gl tb0 []) Try.f37 [nV 12] [])).sem = some (.tup [.str (BK (ofNat 12)),iV (Ca (ofNat 12))],[]):=by kernel_rfl
theorem Yz:(As (Aj tab (AI Gl tb0 []) Try.f37 [nV 13] [])).sem = some (.tup [.str (BK (ofNat 13)),iV (Ca (ofNat 13))],[]):=by kernel_rfl
theorem Yy:(As (Aj tab (AI Gl tb0 []) Try.f37 [nV 14] [])).sem = some (.tup [.str (BK (ofNat 14)),iV (Ca (ofNat 14))],[]):=by kernel_rfl
theorem Yx:(As (Aj tab (AI Gl tb0 []) Try.f37 [nV 15] [])).sem = some (.tup [.str (BK (ofNat 15)),iV (Ca (ofNat 15))],[]):=by kernel_rfl
theorem Aix (k:Nat) (hk:k < 16):(As (Aj tab (AI Gl tb0 []) Try.f37 [nV k] [])).sem = some (.tup [.str (BK (ofNat k)),iV (Ca (ofNat k))],[]):=by
  have:k = 0 ∨ k = 1 ∨ k = 2 ∨ k = 3 ∨ k = 4 ∨ k = 5 ∨ k = 6 ∨ k = 7 ∨ k = 8 ∨ k = 9 ∨ k = 10 ∨ k = 11 ∨ k = 12 ∨ k = 13 ∨ k = 14 ∨ k = 15:=by omega
  rcases this with rfl | rfl | rfl | rfl | rfl | rfl | rfl | rfl | rfl | rfl | rfl | rfl | rfl | rfl | rfl | rfl
  · exact Abk
  · exact Abj
  · exact Abi
  · exact Abh
  · exact Abg
  · exact Abf
  · exact Abe
  · exact Abd
  · exact Abc
  · exact Abb
  · exact Y2
  · exact Y1
  · exact Y0
  · exact Yz
  · exact Yy
  · exact Yx
theorem p37:AB Try.prog Gl 37 TL:=by
  refine AB.congr (AS AQ AR Try.func37 (by kernel_rfl) (by kernel_rfl) (Γ:=AI Gl tb0 []) (AP CW [])) fun vs r h=>?_
  unfold TL at h
  split at h
  · rename_i x
    rw [Ad h]
    show (As (Aj tab (AI Gl tb0 []) Try.f37 [iV x] [])).sem = _
    cases c0:ilt x 0 with
    | true =>
      rw [show BK x = [] by unfold BK bor; rw [c0]; rfl,show Ca x = 4 by unfold Ca bor; rw [c0]; rfl]
      exact Ajw _ x c0
    | false =>
      cases c1:ile 16 x with
      | true =>
        rw [show BK x = [] by unfold BK bor; rw [c0,c1]; rfl,show Ca x = 4 by unfold Ca bor; rw [c0,c1]; rfl]
        exact Ajx _ x c0 c1
      | false =>
        have h1:¬ x < 0:=of_decide_eq_false c0
        have h2:¬ (16:Int) <= x:=of_decide_eq_false c1
        obtain ⟨k,rfl⟩:∃ k:Nat,x = ofNat k:=⟨x.toNat,by simp only [Int.ofNat_eq_natCast]; omega⟩
        exact Aix k (by simp only [Int.ofNat_eq_natCast] at h2; omega)
  · cases h
theorem Aba:(As (Aj tab (AI Gl tb0 []) Try.f38 [nV 0] [])).sem = some (.tup [.str (BK (ofNat 0)),iV (Ca (ofNat 0))],[]):=by kernel_rfl
theorem AaZ:(As (Aj tab (AI Gl tb0 []) Try.f38 [nV 1] [])).sem = some (.tup [.str (BK (ofNat 1)),iV (Ca (ofNat 1))],[]):=by kernel_rfl
theorem AaY:(As (Aj tab (AI Gl tb0 []) Try.f38 [nV 2] [])).sem = some (.tup [.str (BK (ofNat 2)),iV (Ca (ofNat 2))],[]):=by kernel_rfl
theorem AaX:(As (Aj tab (AI Gl tb0 []) Try.f38 [nV 3] [])).sem = some (.tup [.str (BK (ofNat 3)),iV (Ca (ofNat 3))],[]):=by kernel_rfl
theorem AaW:(As (Aj tab (AI Gl tb0 []) Try.f38 [nV 4] [])).sem = some (.tup [.str (BK (ofNat 4)),iV (Ca (ofNat 4))],[]):=by kernel_rfl
theorem AaV:(As (Aj tab (AI Gl tb0 []) Try.f38 [nV 5] [])).sem = some (.tup [.str (BK (ofNat 5)),iV (Ca (ofNat 5))],[]):=by kernel_rfl
theorem AaU:(As (Aj tab (AI Gl tb0 []) Try.f38 [nV 6] [])).sem = some (.tup [.str (BK (ofNat 6)),iV (Ca (ofNat 6))],[]):=by kernel_rfl
theorem AaT:(As (Aj tab (AI Gl tb0 []) Try.f38 [nV 7] [])).sem = some (.tup [.str (BK (ofNat 7)),iV (Ca (ofNat 7))],[]):=by kernel_rfl
theorem AaS:(As (Aj tab (AI Gl tb0 []) Try.f38 [nV 8] [])).sem = some (.tup [.str (BK (ofNat 8)),iV (Ca (ofNat 8))],[]):=by kernel_rfl
theorem AaR:(As (Aj tab (AI Gl tb0 []) Try.f38 [nV 9] [])).sem = some (.tup [.str (BK (ofNat 9)),iV (Ca (ofNat 9))],[]):=by kernel_rfl
theorem Yw:(As (Aj tab (AI Gl tb0 []) Try.f38 [nV 10] [])).sem = some (.tup [.str (BK (ofNat 10)),iV (Ca (ofNat 10))],[]):=by kernel_rfl
theorem Yv:(As (Aj tab (AI Gl tb0 []) Try.f38 [nV 11] [])).sem = some (.tup [.str (BK (ofNat 11)),iV (Ca (ofNat 11))],[]):=by kernel_rfl
theorem Yu:(As (Aj tab (AI Gl tb0 []) Try.f38 [nV 12] [])).sem = some (.tup [.str (BK (ofNat 12)),iV (Ca (ofNat 12))],[]):=by kernel_rfl
theorem Yt:(As (Aj tab (AI Gl tb0 []) Try.f38 [nV 13] [])).sem = some (.tup [.str (BK (ofNat 13)),iV (Ca (ofNat 13))],[]):=by kernel_rfl
theorem Ys:(As (Aj tab (AI Gl tb0 []) Try.f38 [nV 14] [])).sem = some (.tup [.str (BK (ofNat 14)),iV (Ca (ofNat 14))],[]):=by kernel_rfl
theorem Yr:(As (Aj tab (AI Gl tb0 []) Try.f38 [nV 15] [])).sem = some (.tup [.str (BK (ofNat 15)),iV (Ca (ofNat 15))],[]):=by kernel_rfl
theorem Aiw (k:Nat) (hk:k < 16):(As (Aj tab (AI Gl tb0 []) Try.f38 [nV k] [])).sem = some (.tup [.str (BK (ofNat k)),iV (Ca (ofNat k))],[]):=by
  have:k = 0 ∨ k = 1 ∨ k = 2 ∨ k = 3 ∨ k = 4 ∨ k = 5 ∨ k = 6 ∨ k = 7 ∨ k = 8 ∨ k = 9 ∨ k = 10 ∨ k = 11 ∨ k = 12 ∨ k = 13 ∨ k = 14 ∨ k = 15:=by omega
  rcases this with rfl | rfl | rfl | rfl | rfl | rfl | rfl | rfl | rfl | rfl | rfl | rfl | rfl | rfl | rfl | rfl
  · exact Aba
  · exact AaZ
  · exact AaY
  · exact AaX
  · exact AaW
  · exact AaV
  · exact AaU
  · exact AaT
  · exact AaS
  · exact AaR
  · exact Yw
  · exact Yv
  · exact Yu
  · exact Yt
  · exact Ys
  · exact Yr
theorem p38:AB Try.prog Gl 38 TL:=by
  refine AB.congr (AS AQ AR Try.func38 (by kernel_rfl) (by kernel_rfl) (Γ:=AI Gl tb0 []) (AP CW [])) fun vs r h=>?_
  unfold TL at h
  split at h
  · rename_i x
    rw [Ad h]
    show (As (Aj tab (AI Gl tb0 []) Try.f38 [iV x] [])).sem = _
    cases c0:ilt x 0 with
    | true =>
      rw [show BK x = [] by unfold BK bor; rw [c0]; rfl,show Ca x = 4 by unfold Ca bor; rw [c0]; rfl]
      exact Aju _ x c0
    | false =>
      cases c1:ile 16 x with
      | true =>
        rw [show BK x = [] by unfold BK bor; rw [c0,c1]; rfl,show Ca x = 4 by unfold Ca bor; rw [c0,c1]; rfl]
        exact Ajv _ x c0 c1
      | false =>
        have h1:¬ x < 0:=of_decide_eq_false c0
        have h2:¬ (16:Int) <= x:=of_decide_eq_false c1
        obtain ⟨k,rfl⟩:∃ k:Nat,x = ofNat k:=⟨x.toNat,by simp only [Int.ofNat_eq_natCast]; omega⟩
        exact Aiw k (by simp only [Int.ofNat_eq_natCast] at h2; omega)
  · cases h
noncomputable def AdD:List (Nat × (List V->T (V × List Blk))):=[(63,psT),(14,ofT),(37,TL)]
theorem Aaj:AC Try.prog Gl AdD:=.cons p41 <| .cons p14 <| .cons p37 .nil
theorem AiR:(As (Aj tab (AI Gl AdD []) Try.f18 [] [])).sem = some (bV true,[]):=by kernel_rfl
theorem p18:AB Try.prog Gl 18 (WZ (bV true)):=by
  refine AB.congr (AS AQ AR Try.func18 (by kernel_rfl) (by kernel_rfl) (Γ:=AI Gl AdD []) (AP Aaj [])) fun vs r h=>?_
  unfold WZ at h
  split at h
  · rw [Ad h]
    exact AiR
  · cases h
end Go.Proofs.Ytjhnfomefcngfaa.Sh
namespace Go.Proofs.Ytjhnfomefcngfaa.Sh
open Go.Sy Ed
set_option maxHeartbeats 1000000
set_option maxRecDepth 4000
theorem KW (n:Nat) (f:Nat->E6):Bm n f n f = true:=MY.2 ⟨rfl,fun _ _=>rfl⟩
theorem IN (n:Nat) (f:Nat->Int):Bh n f n f = true:=by
  unfold Bh
  rw [B5 (BQ _)]
  exact A4.2 fun _ _=>BQ _
theorem KV (n:Nat) (ln:Nat->Nat) (co:Nat->Nat->Int):BJ n ln co n ln co = true:=by
  unfold BJ
  rw [B5 (BQ _)]
  exact A4.2 fun _ _=>IN _ _
theorem KT (e:Ev5):Cf e e = true:=by
  unfold Cf
  rw [B5 (BQ _),B5 (BQ _),B5 (BQ _),B5 (BQ _),B5 (BQ _)]
end Go.Proofs.Ytjhnfomefcngfaa.Sh
namespace Go.Proofs.Ytjhnfomefcngfaa.Sh
open Go.Sy Ed
set_option maxRecDepth 100000
theorem own:ownKnob Try.prog.godebug = none:=by kernel_rfl
theorem UY:laidOutB Try.prog = true:=by kernel_rfl
def Ui (e:E6):List Value:=[.int .i64 e.kind,.bool e.ext,.bool e.same,.int .i64 e.src,.int .i64 e.dst,.int .i64 e.fence]
section
variable {H:Type} {enc:TypeId × Value->H} {W:World} {sp:Nat->Bool} {held:Bool} {r:Reach} {b0:Nat} {v:Value} {d:DataW H} {ps:List MemPlace}
theorem GD {c d:Value} {cs:List Value} (h:cs = [d]) (hc:[c] = cs):c = d:=by
  subst h
  simpa using hc
theorem Ue (fuel:Nat) (cs:List Value) (x:DataW H × List MemPlace) (h:DataW.trod enc Try.prog W 0 sp held fuel 44 cs = some x):∃ e:E6,cs = Ui e:=by
  obtain ⟨xs,n,_,_,hl,hx,hf⟩:=DataW.trod_struct Try.underlying44 h
  have hl:cs.length = 6:=hl.trans (by kernel_rfl)
  have hx:xs.length = 6:=hx
  obtain ⟨c0,c1,c2,c3,c4,c5,rfl⟩:∃ a b c d e f,cs = [a,b,c,d,e,f]:=by
    match cs,hl with
    | [a,b,c,d,e,f],_=>exact ⟨a,b,c,d,e,f,rfl⟩
  have get:∀ (i:Nat) (f:Field),#[({ name := "Kind",type:=3,offset:=0,embedded:=false,tag := "",pkgPath := "",byteOffset:=0 }:Field),
        { name := "Ext",type:=4,offset:=1,embedded:=false,tag := "",pkgPath := "",byteOffset:=8 },
        { name := "Same",type:=4,offset:=2,embedded:=false,tag := "",pkgPath := "",byteOffset:=9 },
        { name := "Src",type:=3,offset:=3,embedded:=false,tag := "",pkgPath := "",byteOffset:=16 },
        { name := "Dst",type:=3,offset:=4,embedded:=false,tag := "",pkgPath := "",byteOffset:=24 },
        { name := "Fence",type:=3,offset:=5,embedded:=false,tag := "",pkgPath := "",byteOffset:=32 }][i]? = some f->i < 6 ->
      ∃ y,DataW.trod enc Try.prog W 0 sp held n f.type (([c0,c1,c2,c3,c4,c5].drop f.offset).take (Try.prog.cellsOf f.type)) = some y:=by
    intro i f hi hlt
    have:=hf i f hi
    rw [List.getElem?_eq_getElem (by omega)] at this
    exact ⟨_,this⟩
  have n3:Try.prog.cellsOf 3 = 1:=by kernel_rfl
  have n4:Try.prog.cellsOf 4 = 1:=by kernel_rfl
  obtain ⟨y0,g0⟩:=get 0 _ rfl (by omega)
  obtain ⟨y1,g1⟩:=get 1 _ rfl (by omega)
  obtain ⟨y2,g2⟩:=get 2 _ rfl (by omega)
  obtain ⟨y3,g3⟩:=get 3 _ rfl (by omega)
  obtain ⟨y4,g4⟩:=get 4 _ rfl (by omega)
  obtain ⟨y5,g5⟩:=get 5 _ rfl (by omega)
  have g0:DataW.trod enc Try.prog W 0 sp held n 3 (([c0,c1,c2,c3,c4,c5].drop 0).take (Try.prog.cellsOf 3)) = some y0:=g0
  rw [n3] at g0
  have g1:DataW.trod enc Try.prog W 0 sp held n 4 (([c0,c1,c2,c3,c4,c5].drop 1).take (Try.prog.cellsOf 4)) = some y1:=g1
  rw [n4] at g1
  have g2:DataW.trod enc Try.prog W 0 sp held n 4 (([c0,c1,c2,c3,c4,c5].drop 2).take (Try.prog.cellsOf 4)) = some y2:=g2
  rw [n4] at g2
  have g3:DataW.trod enc Try.prog W 0 sp held n 3 (([c0,c1,c2,c3,c4,c5].drop 3).take (Try.prog.cellsOf 3)) = some y3:=g3
  rw [n3] at g3
  have g4:DataW.trod enc Try.prog W 0 sp held n 3 (([c0,c1,c2,c3,c4,c5].drop 4).take (Try.prog.cellsOf 3)) = some y4:=g4
  rw [n3] at g4
  have g5:DataW.trod enc Try.prog W 0 sp held n 3 (([c0,c1,c2,c3,c4,c5].drop 5).take (Try.prog.cellsOf 3)) = some y5:=g5
  rw [n3] at g5
  obtain ⟨a0,e0,_⟩:=DataW.trod_int Try.underlying3 g0
  obtain ⟨a1,e1,_⟩:=DataW.trod_bool Try.underlying4 g1
  obtain ⟨a2,e2,_⟩:=DataW.trod_bool Try.underlying4 g2
  obtain ⟨a3,e3,_⟩:=DataW.trod_int Try.underlying3 g3
  obtain ⟨a4,e4,_⟩:=DataW.trod_int Try.underlying3 g4
  obtain ⟨a5,e5,_⟩:=DataW.trod_int Try.underlying3 g5
  have e0:c0 = .int .i64 a0:=GD e0 rfl
  have e1:c1 = .bool a1:=GD e1 rfl
  have e2:c2 = .bool a2:=GD e2 rfl
  have e3:c3 = .int .i64 a3:=GD e3 rfl
  have e4:c4 = .int .i64 a4:=GD e4 rfl
  have e5:c5 = .int .i64 a5:=GD e5 rfl
  exact ⟨⟨a0,a1,a2,a3,a4,a5⟩,by rw [e0,e1,e2,e3,e4,e5]; rfl⟩
theorem AbH (S:Nat->Prop) (w:World) (κ:Nat->Option Value) (e:E6):VR S w (eV e) κ (.agg (Ui e).toArray) :=
  ⟨_,rfl,_,_,rfl,rfl,_,_,rfl,rfl,_,_,rfl,rfl,_,_,rfl,rfl,_,_,rfl,rfl,_,_,rfl,rfl,rfl⟩
def Ac4 (W:World) (v:Value) (u:V):Prop:=VR (KE W) W u noK v
theorem Wn (hval:Value.okWide Try.prog W r b0 3 v) (h:DataW.Trod enc Try.prog W 0 sp held 3 v d ps):∃ n:Int,Ac4 W v (iV n):=by
  obtain ⟨n,rfl,_⟩:=ChangeShapes.open_int Try.underlying3 hval h
  exact ⟨n,rfl⟩
instance:Inhabited E6:=⟨FK⟩
end
noncomputable def Ln (os:Os):World:=World.holding Try.prog os ⟨#[],#[],[]⟩
end Go.Proofs.Ytjhnfomefcngfaa.Sh
namespace Go.Proofs.Ytjhnfomefcngfaa.Sh
open Go.Sy Ed
set_option maxRecDepth 100000
def AbJ {H:Type} (t:TypeId) (d:DataW H):Prop:=(d.weights Try.prog t).all (· <= reachBytes) = true
def J5 {H:Type} {α:Type} (enc:TypeId × Value->H) (W:World) (sp:Nat->Bool) (held:Bool) (t:TypeId) (g:α->V) (B:α->Prop):Prop :=
  ∀ fuel cs d ps,DataW.trod enc Try.prog W 0 sp held fuel t cs = some (d,ps) ->
    ∃ a ci,VR (KE W) W (g a) noK ci ∧ ci.cells.toList = cs ∧ (∀ u ∈ cs,u.oneCell' = true) ∧ (AbJ t d->B a)
def AfV {α:Type} (g:α->V):Prop:=∀ (S:Nat->Prop) (w:World) (a:α) (c:Value),VR S w (g a) noK c->c.cells.toList = [c]
def SW {H:Type} (enc:TypeId × Value->H) (W:World) (sp:Nat->Bool) (held:Bool) (fuel:Nat):List TypeId->List Value->List (DataW H)->Prop
  | [],[],[]=>True
  | t :: ts,c :: cs,d :: ds=>(∃ ps,DataW.trod enc Try.prog W 0 sp held fuel t [c] = some (d,ps)) ∧ SW enc W sp held fuel ts cs ds
  | _,_,_=>False
def Re {H:Type} {α:Type} (enc:TypeId × Value->H) (W:World) (sp:Nat->Bool) (held:Bool) (ts:List TypeId) (g:α->List V) (B:α->Prop):Prop :=
  ∀ fuel cs ds,SW enc W sp held fuel ts cs ds ->
    ∃ a,VRs (KE W) W (g a) noK cs ∧ (∀ u ∈ cs,u.oneCell' = true) ∧ ((DataW.weightsEach Try.prog ts ds).all (· <= reachBytes) = true->B a)
section
variable {H:Type} {enc:TypeId × Value->H} {W:World} {sp:Nat->Bool} {held:Bool} {r:Reach} {b0:Nat}
theorem Rl {fuel:Nat}:∀ (ts:List TypeId) (cs:List Value) (xs:List (DataW H × List MemPlace)),cs.length = ts.length->xs.length = ts.length ->
    (∀ (i:Nat) t c,ts[i]? = some t->cs[i]? = some c->DataW.trod enc Try.prog W 0 sp held fuel t [c] = xs[i]?)->SW enc W sp held fuel ts cs (xs.map (·.1))
  | [],[],[],_,_,_=>trivial
  | t :: ts,c :: cs,x :: xs,h1,h2,h=>by
    refine ⟨⟨x.2,?_⟩,Rl ts cs xs (by simpa using h1) (by simpa using h2) fun i t' c' ht hc=>?_⟩
    · have:=h 0 t c rfl rfl
      simpa using this
    · have:=h (i+1) t' c' (by simpa using ht) (by simpa using hc)
      simpa using this
theorem MH:Re enc W sp held [] (fun _:Unit=>[]) (fun _=>True):=by
  intro fuel cs ds h
  cases cs with
  | nil=>exact ⟨(),rfl,(fun u hu=>absurd hu (by simp)),fun _=>trivial⟩
  | cons c cs=>exact absurd h (by simp [SW])
theorem BI {α β:Type} {t:TypeId} {ts:List TypeId} {g:α->V} {B:α->Prop} {g':β->List V} {B':β->Prop} (h:J5 enc W sp held t g B) (h1:AfV g) (ht:Re enc W sp held ts g' B') :
    Re enc W sp held (t :: ts) (fun p:α × β=>g p.1 :: g' p.2) (fun p=>B p.1 ∧ B' p.2):=by
  intro fuel cs ds hh
  cases cs with
  | nil=>cases hh
  | cons c cs =>
    cases ds with
    | nil=>cases hh
    | cons d ds =>
      obtain ⟨⟨ps,hp⟩,hr⟩:=hh
      obtain ⟨a,ci,q1,q2,q3,q4⟩:=h fuel [c] d ps hp
      obtain ⟨b,p1,p2,p3⟩:=ht fuel cs ds hr
      have e:=h1 _ _ _ _ q1
      rw [e] at q2
      simp only [List.cons.injEq,and_true] at q2
      subst q2
      refine ⟨(a,b),⟨_,_,rfl,q1,p1⟩,fun u hu=>?_,fun hf=>?_⟩
      · rcases List.mem_cons.1 hu with rfl | hu
        · exact q3 _ (List.mem_cons_self ..)
        · exact p2 u hu
      · have hf:(d.weights Try.prog t ++ DataW.weightsEach Try.prog ts ds).all (· <= reachBytes) = true:=by
          simpa only [DataW.weightsEach] using hf
        rw [List.all_append,Bool.and_eq_true] at hf
        exact ⟨q4 hf.1,p3 hf.2⟩
theorem Rr {α:Type}:∀ {i:Nat} {l:List α} {c:α},l[i]? = some c->(l.drop i).take 1 = [c]
  | 0,c :: l,c',h=>by simp at h; simp [h]
  | i+1,c :: l,c',h=>by
    have h:l[i]? = some c':=by simpa using h
    simpa using Rr h
theorem JW {α:Type} {g:α->List V} {B:α->Prop} {t:TypeId} {fs:Array Field} (ht:Try.prog.underlying t = some (.struct fs)) (hn:Try.prog.cellsOf t = fs.size)
    (hf:∀ (i:Nat) (f:Field),fs[i]? = some f->f.offset = i ∧ Try.prog.cellsOf f.type = 1) (h:Re enc W sp held (fs.toList.map (·.type)) g B):J5 enc W sp held t (fun a=>.agg (g a)) B:=by
  intro fuel cs d ps hx
  obtain ⟨xs,n,_,hd,hl,hlx,hi⟩:=DataW.trod_struct ht hx
  simp only [Prod.mk.injEq] at hd
  have hT:SW enc W sp held n (fs.toList.map (·.type)) cs (xs.map (·.1)):=by
    refine Rl _ _ _ (by simp [hl,hn]) (by simp [hlx]) fun i t' c ht' hc=>?_
    rw [List.getElem?_map,Option.map_eq_some_iff] at ht'
    obtain ⟨f,hfi,rfl⟩:=ht'
    have hfi:fs[i]? = some f:=by simpa using hfi
    have h2:=hi i f hfi
    rw [(hf i f hfi).1,(hf i f hfi).2,Rr hc] at h2
    exact h2
  obtain ⟨a,q1,q2,q3⟩:=h n cs _ hT
  refine ⟨a,.agg cs.toArray,⟨cs,rfl,q1⟩,rfl,q2,fun hh=>q3 ?_⟩
  have hh:(d.weights Try.prog t).all (· <= reachBytes) = true:=hh
  rw [hd.1] at hh
  unfold DataW.weights at hh
  rw [ht] at hh
  exact hh
theorem CU:J5 enc W sp held 3 iV (fun _=>True):=by
  intro fuel cs d ps h
  obtain ⟨n,rfl,_⟩:=DataW.trod_int Try.underlying3 h
  exact ⟨n,_,rfl,rfl,fun u hu=>by simp at hu; subst hu; rfl,fun _=>trivial⟩
theorem FV:AfV iV:=by
  rintro S w a c h
  have h:c = .int .i64 a:=h
  subst h
  rfl
theorem LD {e:TypeId} {p:Nat->Bool}:∀ {ds:List (DataW H)},(DataW.weightsAll Try.prog e ds).all p = true->∀ d ∈ ds,(d.weights Try.prog e).all p = true
  | d :: ds,h,d',hd=>by
    have h:(d.weights Try.prog e ++ DataW.weightsAll Try.prog e ds).all p = true:=by simpa only [DataW.weightsAll] using h
    rw [List.all_append,Bool.and_eq_true] at h
    rcases List.mem_cons.1 hd with rfl | hd
    · exact h.1
    · exact LD h.2 d' hd
theorem EB {α:Type} [Inhabited α] {g:α->V} {B:α->Prop} {t e:TypeId} {s:Nat} (ht:Try.prog.underlying t = some (.slice e)) (hs:Try.prog.cellsOf e = s) (hs0:0 < s) (h:J5 enc W sp held e g B) :
    J5 enc W sp held t (fun p:Nat × (Nat->α)=>.sl s p.1 fun i=>g (p.2 i)) (fun p=>p.1 * Try.prog.bytesOf e <= reachBytes ∧ ∀ i,i < p.1->B (p.2 i)):=by
  intro fuel cs d ps hf
  rcases DataW.trod_slice ht hf with ⟨rfl,hx⟩ | ⟨a',len,cap,elems,rest,n,_,rfl,hx,_,hl,_,hlen,hE,_,_⟩
  · refine ⟨(0,fun _=>default),_,⟨none,0,rfl,Nat.le_refl _,.inl rfl⟩,rfl,fun u hu=>by simp at hu; subst hu; rfl,fun _=>⟨by simp,fun i hi=>by omega⟩⟩
  · simp only [Prod.mk.injEq] at hx
    have hex:∀ i,i < len->∃ x:α,∃ ci,VR (KE W) W (g x) noK ci ∧ (∀ u ∈ ci.cells.toList,u.oneCell' = true) ∧ W.cells? 0 (a'.add (i * s)) s = some ci.cells.toList ∧ (∀ di,(elems.map (·.1))[i]? = some di->AbJ e di->B x):=by
      intro i hi
      have:=hE i hi
      have hi':i < elems.length:=by omega
      rw [List.getElem?_eq_getElem hi',Option.bind_eq_some_iff,hs] at this
      obtain ⟨cs,h1,h2⟩:=this
      obtain ⟨x,ci,q1,q2,q3,q4⟩:=h _ _ _ _ h2
      subst q2
      refine ⟨x,ci,q1,q3,h1,fun di hdi hF=>q4 ?_⟩
      rw [List.getElem?_map,List.getElem?_eq_getElem hi'] at hdi
      simp only [Option.map_some,Option.some.injEq] at hdi
      have hdi:(elems.get ⟨i,hi'⟩).1 = di:=hdi
      rw [hdi]
      exact hF
    refine ⟨(len,fun i=>if h:i < len then (hex i h).choose else default),_,⟨some a',cap,rfl,hl,?_⟩,rfl,fun u hu=>by simp at hu; subst hu; rfl,fun hF=>?_⟩
    · by_cases hz:len = 0
      · exact .inl hz
      right
      obtain ⟨b,off,spot⟩:=a'
      have hspot:spot = none:=by
        obtain ⟨ci,_,_,q3,_⟩:=(hex 0 (by omega)).choose_spec
        have:=(World.cells?_some q3)
        have h2:=this.2.2 0 (by omega)
        have hl:0 < ci.cells.toList.length:=by omega
        rw [List.getElem?_eq_getElem hl] at h2
        simpa [Addr.add] using World.cell?_spot h2
      subst hspot
      refine ⟨b,off,rfl,fun i hi=>?_⟩
      obtain ⟨ci,q1,q2,q3,_⟩:=(hex i hi).choose_spec
      have hc:=World.cells?_some q3
      refine ⟨ci,by simp only [hi,dif_pos]; exact q1,?_,q2,?_⟩
      · rw [<- Array.length_toList]; exact hc.2.1
      · intro j u hj
        have hjs:j < s:=by
          have:=(List.getElem?_eq_some_iff.1 hj).1
          have h3:=hc.2.1
          omega
        have:=hc.2.2 j hjs
        rw [hj] at this
        have e1:((⟨b,off,none⟩:Addr).add (i * s)).add j = ⟨b,off+i * s+j,none⟩:=by
          rw [Ck,Ck]
        rw [e1] at this
        exact ⟨M7 this,this⟩
    · have hF:(d.weights Try.prog t).all (· <= reachBytes) = true:=hF
      rw [hx.1] at hF
      unfold DataW.weights at hF
      rw [ht] at hF
      simp only [List.all_cons,Bool.and_eq_true,List.all_append,decide_eq_true_eq] at hF
      refine ⟨?_,fun i hi=>?_⟩
      · have h1:=hF.1
        simp only [List.length_map] at h1
        rw [hlen] at h1
        exact Nat.le_trans (Nat.mul_le_mul_right _ (Nat.le_add_right _ _)) h1
      · obtain ⟨ci,_,_,_,q4⟩:=(hex i hi).choose_spec
        simp only [hi,dif_pos]
        have hi':i < (elems.map (·.1)).length:=by simp [hlen,hi]
        exact q4 _ (List.getElem?_eq_getElem hi') (LD hF.2.1 _ (List.getElem_mem hi'))
theorem Qc {α:Type} {g:α->V} {s:Nat}:AfV (fun p:Nat × (Nat->α)=>.sl s p.1 fun i=>g (p.2 i)):=by
  rintro S w a c ⟨b,cap,rfl,_⟩
  rfl
theorem Th:J5 enc W sp held 44 eV (fun _=>True):=by
  intro fuel cs d ps h
  obtain ⟨e,rfl⟩:=Ue fuel cs _ h
  exact ⟨e,_,AbH _ _ _ e,rfl,fun u hu=>by simp [Ui] at hu; rcases hu with rfl | rfl | rfl | rfl | rfl | rfl <;> rfl,fun _=>trivial⟩
theorem OF {α β:Type} {t:TypeId} {g:α->V} {B:α->Prop} {g':β->V} {B':β->Prop} (k:α->β) (hg:∀ a,g a = g' (k a)) (hB:∀ a,B a->B' (k a)) (h:J5 enc W sp held t g B):J5 enc W sp held t g' B':=by
  intro fuel cs d ps hx
  obtain ⟨a,ci,q1,q2,q3,q4⟩:=h fuel cs d ps hx
  exact ⟨k a,ci,by rw [<- hg]; exact q1,q2,q3,fun hF=>hB a (q4 hF)⟩
theorem Rp:J5 enc W sp held 40 evV (fun _=>True) :=
  OF (fun p:Int × Int × Int × Int × Int × Unit=>⟨p.1,p.2.1,p.2.2.1,p.2.2.2.1,p.2.2.2.2.1⟩) (fun _=>rfl) (fun _ _=>trivial)
    (JW Try.underlying40 (by kernel_rfl) (fun i f hi=>by
      match i,hi with
      | 0,hi=>cases hi; exact ⟨rfl,by kernel_rfl⟩
      | 1,hi=>cases hi; exact ⟨rfl,by kernel_rfl⟩
      | 2,hi=>cases hi; exact ⟨rfl,by kernel_rfl⟩
      | 3,hi=>cases hi; exact ⟨rfl,by kernel_rfl⟩
      | 4,hi=>cases hi; exact ⟨rfl,by kernel_rfl⟩
      | _+5,hi=>simp at hi)
      (BI CU FV (BI CU FV (BI CU FV (BI CU FV (BI CU FV MH))))))
instance:Inhabited Ev5:=⟨⟨0,0,0,0,0⟩⟩
structure FitS (s:Sh7):Prop where
  ne:s.ne * 40 <= reachBytes
  nx:s.nx * 40 <= reachBytes
  nr:s.nr * 8 <= reachBytes
  nc:s.nc * 24 <= reachBytes
  ln:∀ i,i < s.nc->(s.C i).1 * 8 <= reachBytes
theorem Ro:J5 enc W sp held 28 PN FitS :=
  OF (fun p:Int × (Nat × (Nat->E6)) × (Nat × (Nat->Ev5)) × Int × Int × (Nat × (Nat->Int)) × (Nat × (Nat->Nat × (Nat->Int))) × Unit =>
      ⟨p.1,p.2.1.1,p.2.1.2,p.2.2.1.1,p.2.2.1.2,p.2.2.2.1,p.2.2.2.2.1,p.2.2.2.2.2.1.1,p.2.2.2.2.2.1.2,p.2.2.2.2.2.2.1.1,p.2.2.2.2.2.2.1.2⟩) (fun _=>rfl)
    (fun p h=>⟨by have h0:=h.2.1.1; rwa [show Try.prog.bytesOf 44 = 40 by kernel_rfl] at h0,by have h0:=h.2.2.1.1; rwa [show Try.prog.bytesOf 40 = 40 by kernel_rfl] at h0,by have h0:=h.2.2.2.2.2.1.1; rwa [show Try.prog.bytesOf 3 = 8 by kernel_rfl] at h0,by have h0:=h.2.2.2.2.2.2.1.1; rwa [show Try.prog.bytesOf 25 = 24 by kernel_rfl] at h0,fun i hi=>by have h0:=(h.2.2.2.2.2.2.1.2 i hi).1; rwa [show Try.prog.bytesOf 3 = 8 by kernel_rfl] at h0⟩)
    (JW Try.underlying28 (by kernel_rfl) (fun i f hi=>by
      match i,hi with
      | 0,hi=>cases hi; exact ⟨rfl,by kernel_rfl⟩
      | 1,hi=>cases hi; exact ⟨rfl,by kernel_rfl⟩
      | 2,hi=>cases hi; exact ⟨rfl,by kernel_rfl⟩
      | 3,hi=>cases hi; exact ⟨rfl,by kernel_rfl⟩
      | 4,hi=>cases hi; exact ⟨rfl,by kernel_rfl⟩
      | 5,hi=>cases hi; exact ⟨rfl,by kernel_rfl⟩
      | 6,hi=>cases hi; exact ⟨rfl,by kernel_rfl⟩
      | _+7,hi=>simp at hi)
      (BI CU FV <| BI (EB Try.underlying22 (by kernel_rfl) (by decide) Th) Qc <| BI (EB Try.underlying24 (by kernel_rfl) (by decide) Rp) Qc <|
        BI CU FV <| BI CU FV <| BI (EB Try.underlying25 (by kernel_rfl) (by decide) CU) Qc <|
        BI (EB Try.underlying26 (by kernel_rfl) (by decide) (EB Try.underlying25 (by kernel_rfl) (by decide) CU)) (Qc (g:=fun p:Nat × (Nat->Int)=>V.sl 1 p.1 fun i=>iV (p.2 i)) (s:=1)) MH))
theorem R4 {v:Value} {d:DataW H} {ps:List MemPlace} (hval:Value.okWide Try.prog W r b0 28 v) (h:DataW.Trod enc Try.prog W 0 sp held 28 v d ps):∃ s:Sh7,Ac4 W v (PN s) ∧ (AbJ 28 d->FitS s):=by
  obtain ⟨fuel,hf⟩:=h
  obtain ⟨cs,rfl,_⟩:=WideShapes.okWide_struct Try.underlying28 hval
  obtain ⟨s,ci,q1,q2,_,q4⟩:=Ro _ _ _ _ hf
  refine ⟨s,?_,q4⟩
  obtain ⟨ca,rfl,q1⟩:=q1
  have e:cs = ca.toArray:=by
    have:ca = cs.toList:=q2
    rw [this]
  show VR (KE W) W (PN s) noK (.agg cs)
  rw [e]
  exact ⟨ca,rfl,q1⟩
theorem Ab3 {ts:List TypeId} {ds:List (DataW H)} (h:(DataW.weightsEach Try.prog ts ds).all (· <= reachBytes) = true):∀ {j:Nat} {t:TypeId} {d:DataW H},ts[j]? = some t->ds[j]? = some d->AbJ t d:=by
  induction ts generalizing ds with
  | nil=>intro j t d ht; simp at ht
  | cons t0 ts ih =>
    intro j t d ht hd
    cases ds with
    | nil=>simp at hd
    | cons d0 ds =>
      have h:(d0.weights Try.prog t0 ++ DataW.weightsEach Try.prog ts ds).all (· <= reachBytes) = true:=by simpa only [DataW.weightsEach] using h
      rw [List.all_append,Bool.and_eq_true] at h
      cases j with
      | zero =>
        simp at ht hd
        subst ht hd
        exact h.1
      | succ j=>exact ih h.2 (by simpa using ht) (by simpa using hd)
end
end Go.Proofs.Ytjhnfomefcngfaa.Sh
