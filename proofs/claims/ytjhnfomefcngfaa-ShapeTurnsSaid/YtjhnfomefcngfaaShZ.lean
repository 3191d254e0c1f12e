/-
  Layer 7: a location's name; what must come, whatever the arguments are. No conditions.
-/
import Derived.Test.YtjhnfomefcngfaaShG
import Derived.Test.YtjhnfomefcngfaaCyZp
import Derived.Test.YtjhnfomefcngfaaChecked
import Derived.ProofKit
import Derived.OpenShut
import Derived.Deep.DeepHandedRow
namespace Go.Proofs.Ytjhnfomefcngfaa.Sh
open Go.Sy Ed
open Int (ofNat)
set_option maxRecDepth 4000
def locL:List UInt8:=[120,121,122,97,98,99,100,101,102,103,104,105,106,107,108,109]
def locE (x:Int):Int:=bif bor (ilt x 0) (ile 16 x) then 4 else 0
def locS (x:Int):List UInt8:=bif bor (ilt x 0) (ile 16 x) then [] else [locL.getD x.toNat 0]
def locT:List V->T (V × List Blk)
  | [.val (.int .i64 x)]=>.leaf (.tup [.str (locS x),iV (locE x)],[])
  | _=>.fail
section
variable (L:LT) (x:Int)
include L x
theorem w37n (h0:ilt x 0 = true):(finF (evalF tab ⟨callT tb0,L,Gl⟩ Try.f37 [iV x] [])).sem = some ((.tup [(.str []),(iV 4)]),[]):=by
  exact sem_of_path (ds:=[true,true,true,true]) (cs:=[(ilt x 0),(ilt x 0),(ilt x 0),true]) (by kernel_rfl) (by simp only [h0] <;> rfl)
theorem w37g (h0:ilt x 0 = false) (h1:ile 16 x = true):(finF (evalF tab ⟨callT tb0,L,Gl⟩ Try.f37 [iV x] [])).sem = some ((.tup [(.str []),(iV 4)]),[]):=by
  exact sem_of_path (ds:=[false,false,false,true]) (cs:=[(ilt x 0),(ilt x 0),(ilt x 0),(ile 16 x)]) (by kernel_rfl) (by simp only [h0,h1] <;> rfl)
end
theorem loc37_0:(finF (evalF tab (cxOf Gl tb0 []) Try.f37 [nV 0] [])).sem = some (.tup [.str (locS (ofNat 0)),iV (locE (ofNat 0))],[]):=by kernel_rfl
theorem loc37_1:(finF (evalF tab (cxOf Gl tb0 []) Try.f37 [nV 1] [])).sem = some (.tup [.str (locS (ofNat 1)),iV (locE (ofNat 1))],[]):=by kernel_rfl
theorem loc37_2:(finF (evalF tab (cxOf Gl tb0 []) Try.f37 [nV 2] [])).sem = some (.tup [.str (locS (ofNat 2)),iV (locE (ofNat 2))],[]):=by kernel_rfl
theorem loc37_3:(finF (evalF tab (cxOf Gl tb0 []) Try.f37 [nV 3] [])).sem = some (.tup [.str (locS (ofNat 3)),iV (locE (ofNat 3))],[]):=by kernel_rfl
theorem loc37_4:(finF (evalF tab (cxOf Gl tb0 []) Try.f37 [nV 4] [])).sem = some (.tup [.str (locS (ofNat 4)),iV (locE (ofNat 4))],[]):=by kernel_rfl
theorem loc37_5:(finF (evalF tab (cxOf Gl tb0 []) Try.f37 [nV 5] [])).sem = some (.tup [.str (locS (ofNat 5)),iV (locE (ofNat 5))],[]):=by kernel_rfl
theorem loc37_6:(finF (evalF tab (cxOf Gl tb0 []) Try.f37 [nV 6] [])).sem = some (.tup [.str (locS (ofNat 6)),iV (locE (ofNat 6))],[]):=by kernel_rfl
theorem loc37_7:(finF (evalF tab (cxOf Gl tb0 []) Try.f37 [nV 7] [])).sem = some (.tup [.str (locS (ofNat 7)),iV (locE (ofNat 7))],[]):=by kernel_rfl
theorem loc37_8:(finF (evalF tab (cxOf Gl tb0 []) Try.f37 [nV 8] [])).sem = some (.tup [.str (locS (ofNat 8)),iV (locE (ofNat 8))],[]):=by kernel_rfl
theorem loc37_9:(finF (evalF tab (cxOf Gl tb0 []) Try.f37 [nV 9] [])).sem = some (.tup [.str (locS (ofNat 9)),iV (locE (ofNat 9))],[]):=by kernel_rfl
theorem loc37_10:(finF (evalF tab (cxOf Gl tb0 []) Try.f37 [nV 10] [])).sem = some (.tup [.str (locS (ofNat 10)),iV (locE (ofNat 10))],[]):=by kernel_rfl
theorem loc37_11:(finF (evalF tab (cxOf Gl tb0 []) Try.f37 [nV 11] [])).sem = some (.tup [.str (locS (ofNat 11)),iV (locE (ofNat 11))],[]):=by kernel_rfl
theorem loc37_12:(finF (evalF tab (cxOf Gl tb0 []) Try.f37 [nV 12] [])).sem = some (.tup [.str (locS (ofNat 12)),iV (locE (ofNat 12))],[]):=by kernel_rfl
theorem loc37_13:(finF (evalF tab (cxOf Gl tb0 []) Try.f37 [nV 13] [])).sem = some (.tup [.str (locS (ofNat 13)),iV (locE (ofNat 13))],[]):=by kernel_rfl
theorem loc37_14:(finF (evalF tab (cxOf Gl tb0 []) Try.f37 [nV 14] [])).sem = some (.tup [.str (locS (ofNat 14)),iV (locE (ofNat 14))],[]):=by kernel_rfl
theorem loc37_15:(finF (evalF tab (cxOf Gl tb0 []) Try.f37 [nV 15] [])).sem = some (.tup [.str (locS (ofNat 15)),iV (locE (ofNat 15))],[]):=by kernel_rfl
theorem loc37 (k:Nat) (hk:k < 16):(finF (evalF tab (cxOf Gl tb0 []) Try.f37 [nV k] [])).sem = some (.tup [.str (locS (ofNat k)),iV (locE (ofNat k))],[]):=by
  have:k = 0 ∨ k = 1 ∨ k = 2 ∨ k = 3 ∨ k = 4 ∨ k = 5 ∨ k = 6 ∨ k = 7 ∨ k = 8 ∨ k = 9 ∨ k = 10 ∨ k = 11 ∨ k = 12 ∨ k = 13 ∨ k = 14 ∨ k = 15:=by omega
  rcases this with rfl | rfl | rfl | rfl | rfl | rfl | rfl | rfl | rfl | rfl | rfl | rfl | rfl | rfl | rfl | rfl
  · exact loc37_0
  · exact loc37_1
  · exact loc37_2
  · exact loc37_3
  · exact loc37_4
  · exact loc37_5
  · exact loc37_6
  · exact loc37_7
  · exact loc37_8
  · exact loc37_9
  · exact loc37_10
  · exact loc37_11
  · exact loc37_12
  · exact loc37_13
  · exact loc37_14
  · exact loc37_15
theorem p37:PureC Try.prog Gl 37 locT:=by
  refine PureC.congr (pureC_body tabOK mixed Try.func37 (by kernel_rfl) (by kernel_rfl) (Γ:=cxOf Gl tb0 []) (cx_ok tb0_ok [])) fun vs r h=>?_
  unfold locT at h
  split at h
  · rename_i x
    rw [sem_leaf h]
    show (finF (evalF tab (cxOf Gl tb0 []) Try.f37 [iV x] [])).sem = _
    cases c0:ilt x 0 with
    | true =>
      rw [show locS x = [] by unfold locS bor; rw [c0]; rfl,show locE x = 4 by unfold locE bor; rw [c0]; rfl]
      exact w37n _ x c0
    | false =>
      cases c1:ile 16 x with
      | true =>
        rw [show locS x = [] by unfold locS bor; rw [c0,c1]; rfl,show locE x = 4 by unfold locE bor; rw [c0,c1]; rfl]
        exact w37g _ x c0 c1
      | false =>
        have h1:¬ x < 0:=of_decide_eq_false c0
        have h2:¬ (16:Int) <= x:=of_decide_eq_false c1
        obtain ⟨k,rfl⟩:∃ k:Nat,x = ofNat k:=⟨x.toNat,by simp only [Int.ofNat_eq_natCast]; omega⟩
        exact loc37 k (by simp only [Int.ofNat_eq_natCast] at h2; omega)
  · cases h
noncomputable def tb18:List (Nat × (List V->T (V × List Blk))):=[(63,psT),(14,ofT),(37,locT)]
theorem tb18_ok:AllPure Try.prog Gl tb18:=.cons p41 <| .cons p14 <| .cons p37 .nil
theorem awk18:(finF (evalF tab (cxOf Gl tb18 []) Try.f18 [] [])).sem = some (bV true,[]):=by kernel_rfl
theorem p18:PureC Try.prog Gl 18 (unitT (bV true)):=by
  refine PureC.congr (pureC_body tabOK mixed Try.func18 (by kernel_rfl) (by kernel_rfl) (Γ:=cxOf Gl tb18 []) (cx_ok tb18_ok [])) fun vs r h=>?_
  unfold unitT at h
  split at h
  · rw [sem_leaf h]
    exact awk18
  · cases h
end Go.Proofs.Ytjhnfomefcngfaa.Sh
namespace Go.Proofs.Ytjhnfomefcngfaa.Sh
open Go.Sy Ed
set_option maxHeartbeats 1000000
set_option maxRecDepth 4000
theorem canF_congr {n:Nat} {f l:Nat->E6} (hm:mayN n f = true) (hl:∀ i,i < n->l i = f i) {i:Nat} (hi:i < n):canF n l i = canF n f i:=by
  rw [can_ref hm hl i hi,can_ref hm (fun _ _=>rfl) i hi]
theorem small_16 {k:Nat} (h:k <= 16):smallN k = true:=decide_eq_true (by omega)
theorem sameB_rfl (n:Nat) (f:Nat->E6):sameB n f n f = true:=sameB_at.2 ⟨rfl,fun _ _=>rfl⟩
theorem sameI_rfl (n:Nat) (f:Nat->Int):sameI n f n f = true:=by
  unfold sameI
  rw [band_t (ieq_self _)]
  exact allN_iff.2 fun _ _=>ieq_self _
theorem sameJ_rfl (n:Nat) (ln:Nat->Nat) (co:Nat->Nat->Int):sameJ n ln co n ln co = true:=by
  unfold sameJ
  rw [band_t (ieq_self _)]
  exact allN_iff.2 fun _ _=>sameI_rfl _ _
theorem sameX_rfl (e:Ev5):sameX e e = true:=by
  unfold sameX
  rw [band_t (ieq_self _),band_t (ieq_self _),band_t (ieq_self _),band_t (ieq_self _),band_t (ieq_self _)]
theorem ln_le (m w:Nat->Bool) (n k:Nat) (h:lenN m n (stN m n k) <= n+1):lnN m w n k <= n+1:=Nat.le_trans (cntB_le _ _) h
theorem len_le (m:Nat->Bool) (n b:Nat):lenN m n b <= n+1:=by
  unfold lenN
  have:=lstN_le (fun t=>m (rnd n b t)) n
  omega
theorem small_ln {m w:Nat->Bool} {n k:Nat} (h:n <= 16):smallN (lnN m w n k) = true:=decide_eq_true (by
  have:=ln_le m w n k (len_le m n _)
  omega)
end Go.Proofs.Ytjhnfomefcngfaa.Sh
namespace Go.Proofs.Ytjhnfomefcngfaa.Sh
open Go.Sy Ed
set_option maxRecDepth 100000
theorem own:ownKnob Try.prog.godebug = none:=by kernel_rfl
theorem laidOut:laidOutB Try.prog = true:=by kernel_rfl
def cellsE (e:E6):List Value:=[.int .i64 e.kind,.bool e.ext,.bool e.same,.int .i64 e.src,.int .i64 e.dst,.int .i64 e.fence]
section
variable {H:Type} {enc:TypeId × Value->H} {W:World} {sp:Nat->Bool} {held:Bool} {r:Reach} {b0:Nat} {v:Value} {d:DataW H} {ps:List MemPlace}
theorem one_cell {c d:Value} {cs:List Value} (h:cs = [d]) (hc:[c] = cs):c = d:=by
  subst h
  simpa using hc
theorem edge_cells (fuel:Nat) (cs:List Value) (x:DataW H × List MemPlace) (h:DataW.trod enc Try.prog W 0 sp held fuel 44 cs = some x):∃ e:E6,cs = cellsE e:=by
  obtain ⟨xs,n,_,_,hl,hx,hf⟩:=DataW.trod_struct Try.underlying44 h
  have hl:cs.length = 6:=hl.trans (by kernel_rfl)
  have hx:xs.length = 6:=hx
  obtain ⟨c0,c1,c2,c3,c4,c5,rfl⟩:∃ a b c d e f,cs = [a,b,c,d,e,f]:=by
    match cs,hl with
    | [a,b,c,d,e,f],_=>exact ⟨a,b,c,d,e,f,rfl⟩
  have get:∀ (i:Nat) (f:Field),#[({ name := "Kind",type:=3,offset:=0,embedded:=false,tag := "",pkgPath := "",byteOffset:=0 }:Field),
        { name := "Ext",type:=4,offset:=1,embedded:=false,tag := "",pkgPath := "",byteOffset:=8 },
        { name := "Same",type:=4,offset:=2,embedded:=false,tag := "",pkgPath := "",byteOffset:=9 },
        { name := "Src",type:=3,offset:=3,embedded:=false,tag := "",pkgPath := "",byteOffset:=16 },
        { name := "Dst",type:=3,offset:=4,embedded:=false,tag := "",pkgPath := "",byteOffset:=24 },
        { name := "Fence",type:=3,offset:=5,embedded:=false,tag := "",pkgPath := "",byteOffset:=32 }][i]? = some f->i < 6 ->
      ∃ y,DataW.trod enc Try.prog W 0 sp held n f.type (([c0,c1,c2,c3,c4,c5].drop f.offset).take (Try.prog.cellsOf f.type)) = some y:=by
    intro i f hi hlt
    have:=hf i f hi
    rw [List.getElem?_eq_getElem (by omega)] at this
    exact ⟨_,this⟩
  have n3:Try.prog.cellsOf 3 = 1:=by kernel_rfl
  have n4:Try.prog.cellsOf 4 = 1:=by kernel_rfl
  obtain ⟨y0,g0⟩:=get 0 _ rfl (by omega)
  obtain ⟨y1,g1⟩:=get 1 _ rfl (by omega)
  obtain ⟨y2,g2⟩:=get 2 _ rfl (by omega)
  obtain ⟨y3,g3⟩:=get 3 _ rfl (by omega)
  obtain ⟨y4,g4⟩:=get 4 _ rfl (by omega)
  obtain ⟨y5,g5⟩:=get 5 _ rfl (by omega)
  have g0:DataW.trod enc Try.prog W 0 sp held n 3 (([c0,c1,c2,c3,c4,c5].drop 0).take (Try.prog.cellsOf 3)) = some y0:=g0
  rw [n3] at g0
  have g1:DataW.trod enc Try.prog W 0 sp held n 4 (([c0,c1,c2,c3,c4,c5].drop 1).take (Try.prog.cellsOf 4)) = some y1:=g1
  rw [n4] at g1
  have g2:DataW.trod enc Try.prog W 0 sp held n 4 (([c0,c1,c2,c3,c4,c5].drop 2).take (Try.prog.cellsOf 4)) = some y2:=g2
  rw [n4] at g2
  have g3:DataW.trod enc Try.prog W 0 sp held n 3 (([c0,c1,c2,c3,c4,c5].drop 3).take (Try.prog.cellsOf 3)) = some y3:=g3
  rw [n3] at g3
  have g4:DataW.trod enc Try.prog W 0 sp held n 3 (([c0,c1,c2,c3,c4,c5].drop 4).take (Try.prog.cellsOf 3)) = some y4:=g4
  rw [n3] at g4
  have g5:DataW.trod enc Try.prog W 0 sp held n 3 (([c0,c1,c2,c3,c4,c5].drop 5).take (Try.prog.cellsOf 3)) = some y5:=g5
  rw [n3] at g5
  obtain ⟨a0,e0,_⟩:=DataW.trod_int Try.underlying3 g0
  obtain ⟨a1,e1,_⟩:=DataW.trod_bool Try.underlying4 g1
  obtain ⟨a2,e2,_⟩:=DataW.trod_bool Try.underlying4 g2
  obtain ⟨a3,e3,_⟩:=DataW.trod_int Try.underlying3 g3
  obtain ⟨a4,e4,_⟩:=DataW.trod_int Try.underlying3 g4
  obtain ⟨a5,e5,_⟩:=DataW.trod_int Try.underlying3 g5
  have e0:c0 = .int .i64 a0:=one_cell e0 rfl
  have e1:c1 = .bool a1:=one_cell e1 rfl
  have e2:c2 = .bool a2:=one_cell e2 rfl
  have e3:c3 = .int .i64 a3:=one_cell e3 rfl
  have e4:c4 = .int .i64 a4:=one_cell e4 rfl
  have e5:c5 = .int .i64 a5:=one_cell e5 rfl
  exact ⟨⟨a0,a1,a2,a3,a4,a5⟩,by rw [e0,e1,e2,e3,e4,e5]; rfl⟩
theorem VR_edge (S:Nat->Prop) (w:World) (κ:Nat->Option Value) (e:E6):VR S w (eV e) κ (.agg (cellsE e).toArray) :=
  ⟨_,rfl,_,_,rfl,rfl,_,_,rfl,rfl,_,_,rfl,rfl,_,_,rfl,rfl,_,_,rfl,rfl,_,_,rfl,rfl,rfl⟩
def Reads (W:World) (v:Value) (u:V):Prop:=VR (Live W) W u noK v
theorem reads_int (hval:Value.okWide Try.prog W r b0 3 v) (h:DataW.Trod enc Try.prog W 0 sp held 3 v d ps):∃ n:Int,Reads W v (iV n):=by
  obtain ⟨n,rfl,_⟩:=ChangeShapes.open_int Try.underlying3 hval h
  exact ⟨n,rfl⟩
instance:Inhabited E6:=⟨zeroE⟩
theorem reads_edges (hval:Value.okWide Try.prog W r b0 22 v) (h:DataW.Trod enc Try.prog W 0 sp held 22 v d ps) :
    ∃ (n:Nat) (xs:Nat->E6),Reads W v (.sl 6 n fun i=>eV (xs i)) ∧ (n = 0 ∨ ∃ els rest,d = .slice els rest ∧ els.length = n) :=
  read_slice (f:=cellsE) (g:=eV) (s:=6) Try.underlying22 (by kernel_rfl) (by omega) (fun e u hu=>by simp [cellsE] at hu; rcases hu with rfl | rfl | rfl | rfl | rfl | rfl <;> rfl)
    (fun S w e=>⟨_,VR_edge S w noK e,rfl⟩) edge_cells hval h
end
noncomputable def laidWorld (os:Os):World:=World.holding Try.prog os ⟨#[],#[],[]⟩
end Go.Proofs.Ytjhnfomefcngfaa.Sh
