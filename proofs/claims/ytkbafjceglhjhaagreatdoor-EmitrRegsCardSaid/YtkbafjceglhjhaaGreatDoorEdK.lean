/-
  Layer 3: texts, architectures, what must come. No conditions.
-/
import Derived.Test.YtkbafjceglhjhaaGreatDoorEdC
import Derived.Test.YtkbafjceglhjhaaGreatDoorCards
import Derived.Test.YtkbafjceglhjhaaGreatDoorTie
import Derived.ProofKit
import Derived.OpenShut
import Derived.Deep.DeepHandedRow
namespace Go.Proofs.YtkbafjceglhjhaaGreatDoor.Ed
open Go.Sy
noncomputable def tb5:AM:=(80,BN L1)::tb3
theorem tb5_ok:Ar Tryz.prog Gl tb5:=.cons p27<|tb3_ok
noncomputable def cx5:Cx:=Bd Gl tb5 [(0,⟨[],1,[],1,113⟩)]
def Pa (s:List UInt8):Nat->Nat->Option Nat
 | 0,_=>none
 | m+1,k=>match seq (IN k) s with
  | true=>some k
  | false=>Pa s m (Nat.succ k)
def Ug (s:List UInt8):E6:=match Pa s 112 0 with
 | some k=>Df k
 | none=>H2
def Uf (s:List UInt8):Int:=match Pa s 112 0 with
 | some _=>0
 | none=>30
def MK (s:List UInt8):Nat->Nat->Option (V×List Blk)
 | 0,_=>some (.tup [eV H2,iV 30],[])
 | m+1,k=>sel (seq (IN k) s) (some (.tup [eV (Df k),iV 0],[])) (MK s m (Nat.succ k))
theorem OL (s:List UInt8):∀ m k,MK s m k=match Pa s m k with
  | some j=>some (.tup [eV (Df j),iV 0],[])
  | none=>some (.tup [eV H2,iV 30],[])
 | 0,k=>rfl
 | m+1,k=>by
  simp only [MK,Pa];cases h:seq (IN k) s with
  | true=>rfl
  | false=>exact OL s m (Nat.succ k)
theorem Ue (s:List UInt8):MK s 112 0=some (.tup [eV (Ug s),iV (Uf s)],[]):=by
 rw [OL];unfold Ug Uf;cases Pa s 112 0 <;> rfl
theorem AbW (s:List UInt8):(Ax (Ak tab cx5 Tryz.f106 [.str s] [])).sem=MK s 112 0:=by kernel_rfl
def Ox (f:List UInt8->V):List V->A9
 | [v]=>match gS v with
  | some e=>.leaf (f e,[])
  | none=>.fail
 | _=>.fail
theorem Tw {f:List UInt8->V} {vs:List V} {r:V×List Blk} (h:(Ox f vs).sem=some r):∃ e,vs=[.str e]∧r=(f e,[]):=by
 unfold Ox at h;split at h
 ·split at h
  ·rename_i v e hn
   exact ⟨e,by rw [Wa hn],Aa h⟩
  ·cases h
 ·cases h
def PX (s:List UInt8):V:=.tup [eV (Ug s),iV (Uf s)]
theorem p22:As Tryz.prog Gl 106 (Ox PX):=by
 refine As.congr (AG A8 mixed Tryz.func106 (by kernel_rfl) (by kernel_rfl) (Γ:=cx5) (Bi tb5_ok _)) λvs r h=>?_;obtain ⟨e,rfl,rfl⟩:=Tw h;exact (AbW e).trans (Ue e)
noncomputable def tb6:AM:=(106,Ox PX)::tb5
theorem tb6_ok:Ar Tryz.prog Gl tb6:=.cons p22 tb5_ok
noncomputable def cx6:Cx:=Bd Gl tb6 []
noncomputable def tb7:AM:=tb6
theorem AfO:Ar Tryz.prog Gl tb7:=tb6_ok
end Go.Proofs.YtkbafjceglhjhaaGreatDoor.Ed
namespace Go.Proofs.YtkbafjceglhjhaaGreatDoor.Ed
open Go.Sy
set_option maxRecDepth 100000
theorem own:ownKnob Tryz.prog.godebug=none:=by kernel_rfl
theorem AcL:laidOutB Tryz.prog=true:=by kernel_rfl
def UQ (e:E6):List Value:=[.int .i64 e.kind,.bool e.ext,.bool e.same,.int .i64 e.src,.int .i64 e.dst,.int .i64 e.fence]
section
variable {H:Type} {enc:TypeId×Value->H} {W:World} {sp:Nat->Bool} {held:Bool} {r:Reach} {b0:Nat} {v:Value} {d:DataW H} {ps:List MemPlace}
theorem G5 {c d:Value} {cs:List Value} (h:cs=[d]) (hc:[c]=cs):c=d:=by
 subst h;simpa using hc
theorem UK (fuel:Nat) (cs:List Value) (x:DataW H×List MemPlace) (h:DataW.trod enc Tryz.prog W 0 sp held fuel 76 cs=some x):∃ e:E6,cs=UQ e:=by
 obtain ⟨xs,n,_,_,hl,hx,hf⟩:=DataW.trod_struct Tryz.underlying76 h;have hl:cs.length=6:=hl.trans (by kernel_rfl);have hx:xs.length=6:=hx;obtain ⟨c0,c1,c2,c3,c4,c5,rfl⟩:∃ a b c d e f,cs=[a,b,c,d,e,f]:=by
  match cs,hl with
  | [a,b,c,d,e,f],_=>exact ⟨a,b,c,d,e,f,rfl⟩
 have get:∀ (i:Nat) (f:Field),#[({ name := "Kind",type:=3,offset:=0,embedded:=false,tag := "",pkgPath := "",byteOffset:=0 }:Field),
    { name := "Ext",type:=4,offset:=1,embedded:=false,tag := "",pkgPath := "",byteOffset:=8 },
    { name := "Same",type:=4,offset:=2,embedded:=false,tag := "",pkgPath := "",byteOffset:=9 },
    { name := "Src",type:=3,offset:=3,embedded:=false,tag := "",pkgPath := "",byteOffset:=16 },
    { name := "Dst",type:=3,offset:=4,embedded:=false,tag := "",pkgPath := "",byteOffset:=24 },
    { name := "Fence",type:=3,offset:=5,embedded:=false,tag := "",pkgPath := "",byteOffset:=32 }][i]? = some f->i<6 ->
   ∃ y,DataW.trod enc Tryz.prog W 0 sp held n f.type (([c0,c1,c2,c3,c4,c5].drop f.offset).take (Tryz.prog.cellsOf f.type))=some y:=by
  intro i f hi hlt;have:=hf i f hi;rw [List.getElem?_eq_getElem (by omega)] at this;exact ⟨_,this⟩
 have n3:Tryz.prog.cellsOf 3=1:=by kernel_rfl
 have n4:Tryz.prog.cellsOf 4=1:=by kernel_rfl
 obtain ⟨y0,g0⟩:=get 0 _ rfl (by omega);obtain ⟨y1,g1⟩:=get 1 _ rfl (by omega);obtain ⟨y2,g2⟩:=get 2 _ rfl (by omega);obtain ⟨y3,g3⟩:=get 3 _ rfl (by omega);obtain ⟨y4,g4⟩:=get 4 _ rfl (by omega);obtain ⟨y5,g5⟩:=get 5 _ rfl (by omega);have g0:DataW.trod enc Tryz.prog W 0 sp held n 3 (([c0,c1,c2,c3,c4,c5].drop 0).take (Tryz.prog.cellsOf 3))=some y0:=g0;rw [n3] at g0;have g1:DataW.trod enc Tryz.prog W 0 sp held n 4 (([c0,c1,c2,c3,c4,c5].drop 1).take (Tryz.prog.cellsOf 4))=some y1:=g1;rw [n4] at g1;have g2:DataW.trod enc Tryz.prog W 0 sp held n 4 (([c0,c1,c2,c3,c4,c5].drop 2).take (Tryz.prog.cellsOf 4))=some y2:=g2;rw [n4] at g2;have g3:DataW.trod enc Tryz.prog W 0 sp held n 3 (([c0,c1,c2,c3,c4,c5].drop 3).take (Tryz.prog.cellsOf 3))=some y3:=g3;rw [n3] at g3;have g4:DataW.trod enc Tryz.prog W 0 sp held n 3 (([c0,c1,c2,c3,c4,c5].drop 4).take (Tryz.prog.cellsOf 3))=some y4:=g4;rw [n3] at g4;have g5:DataW.trod enc Tryz.prog W 0 sp held n 3 (([c0,c1,c2,c3,c4,c5].drop 5).take (Tryz.prog.cellsOf 3))=some y5:=g5;rw [n3] at g5;obtain ⟨a0,e0,_⟩:=DataW.trod_int Tryz.underlying3 g0;obtain ⟨a1,e1,_⟩:=DataW.trod_bool Tryz.underlying4 g1;obtain ⟨a2,e2,_⟩:=DataW.trod_bool Tryz.underlying4 g2;obtain ⟨a3,e3,_⟩:=DataW.trod_int Tryz.underlying3 g3;obtain ⟨a4,e4,_⟩:=DataW.trod_int Tryz.underlying3 g4;obtain ⟨a5,e5,_⟩:=DataW.trod_int Tryz.underlying3 g5;have e0:c0 = .int .i64 a0:=G5 e0 rfl;have e1:c1 = .bool a1:=G5 e1 rfl;have e2:c2 = .bool a2:=G5 e2 rfl;have e3:c3 = .int .i64 a3:=G5 e3 rfl;have e4:c4 = .int .i64 a4:=G5 e4 rfl;have e5:c5 = .int .i64 a5:=G5 e5 rfl;exact ⟨⟨a0,a1,a2,a3,a4,a5⟩,by rw [e0,e1,e2,e3,e4,e5]; rfl⟩
theorem Ad0 (S:Nat->Prop) (w:World) (κ:Aq) (e:E6):VR S w (eV e) κ (.agg (UQ e).toArray) :=
 ⟨_,rfl,_,_,rfl,rfl,_,_,rfl,rfl,_,_,rfl,rfl,_,_,rfl,rfl,_,_,rfl,rfl,_,_,rfl,rfl,rfl⟩
def AkP (W:World) (v:Value) (u:V):Prop:=VR (LX W) W u noK v
instance:Inhabited E6:=⟨H2⟩
end
noncomputable def KX (os:Os):World :=
 { World.holding Tryz.prog os ⟨#[],#[],[]⟩ with heap:=(World.holding Tryz.prog os ⟨#[],#[],[]⟩).heap.mapIdx λi o=>match o with
   | .cells cs t frozen=>.cells (match i with
    | 0=>(QI.map λz=>Value.string ⟨z.toArray⟩).toArray
    | 1=>(Wt.map λz=>Value.string ⟨z.toArray⟩).toArray
    | 2=>(Vp.map λz=>Value.string ⟨z.toArray⟩).toArray
    | 3=>(Wm.map λz=>Value.string ⟨z.toArray⟩).toArray
    | 5=>((List.range 20).map λk=>Value.int .u64 ((10 ^ k:Nat):Int)).toArray
    | 6=>([0,1,28,2,29,14,24,3,30,22,20,15,25,17,4,8,31,27,13,23,21,19,16,7,26,12,18,6,11,5,10,9].map λz:Nat=>Value.int .u8 (z:Int)).toArray
    | 7=>([0,1,56,2,57,49,28,3,61,58,42,50,38,29,17,4,62,47,59,36,45,43,51,22,53,39,33,30,24,18,12,5,63,55,48,27,60,41,37,16,46,35,44,21,52,32,23,11,54,26,40,15,34,20,31,10,25,14,19,9,13,8,7,6].map λz:Nat=>Value.int .u8 (z:Int)).toArray
    | _=>cs) t frozen
   | o=>o }
end Go.Proofs.YtkbafjceglhjhaaGreatDoor.Ed
namespace Go.Proofs.YtkbafjceglhjhaaGreatDoor.Ed
open Go.Sy
set_option maxRecDepth 100000
theorem AlM {W:World} (hL:laidMetH Tryz.prog Rows.emitrHangsRow.laid W):Ra Gl (LX W) W:=by
 have hL:laidMet Tryz.prog [("alembic/edge.comms",.agg (QI.map λz=>.lit (.string z))),("alembic/edge.ends",.agg (Wm.map λz=>.lit (.string z))),("alembic/edge.sets",.agg (Vp.map λz=>.lit (.string z))),("alembic/edge.deps",.agg (Wt.map λz=>.lit (.string z))),("math/bits.deBruijn32tab",Rows.laid_math_bits_deBruijn32tab),("math/bits.deBruijn64tab",Rows.laid_math_bits_deBruijn64tab),("internal/strconv.uint64pow10",Rows.laid_internal_strconv_uint64pow10)] W:=hL;obtain ⟨ps,hv,_,_⟩:=hL;obtain ⟨h0,q0,hv⟩:=J2 (g:=0) (t:=197) (e:=9) (n:=6) (by kernel_rfl) (by kernel_rfl) (by kernel_rfl) (by kernel_rfl) (by kernel_rfl) (by kernel_rfl) hv;obtain ⟨h3,q3,hv⟩:=J2 (g:=3) (t:=200) (e:=9) (n:=4) (by kernel_rfl) (by kernel_rfl) (by kernel_rfl) (by kernel_rfl) (by kernel_rfl) (by kernel_rfl) hv;obtain ⟨h2,q2,hv⟩:=J2 (g:=2) (t:=199) (e:=9) (n:=9) (by kernel_rfl) (by kernel_rfl) (by kernel_rfl) (by kernel_rfl) (by kernel_rfl) (by kernel_rfl) hv;obtain ⟨h1,q1,hv⟩:=J2 (g:=1) (t:=198) (e:=9) (n:=10) (by kernel_rfl) (by kernel_rfl) (by kernel_rfl) (by kernel_rfl) (by kernel_rfl) (by kernel_rfl) hv;intro g
 match g with
 | 0=>exact h0
 | 1=>exact h1
 | 2=>exact h2
 | 3=>exact h3
 | n+4=>trivial
end Go.Proofs.YtkbafjceglhjhaaGreatDoor.Ed
namespace Go.Proofs.YtkbafjceglhjhaaGreatDoor.Ed
open Go.Sy
def ap1 {α:Type} (d:V->Option α) (F:α->A9):List V->A9
 | [v]=>match d v with
  | some a=>F a
  | none=>.fail
 | _=>.fail
def ap2 {α β:Type} (d:V->Option α) (e:V->Option β) (F:α->β->A9):List V->A9
 | [v,u]=>match d v,e u with
  | some a,some b=>F a b
  | _,_=>.fail
 | _=>.fail
theorem NV {α:Type} {d:V->Option α} {c:α->V} (hd:∀ v a,d v=some a->v=c a) {F:α->A9} {vs:List V} {r:V×List Blk} (h:(ap1 d F vs).sem=some r) :
  ∃ a,vs=[c a]∧(F a).sem=some r:=by
 unfold ap1 at h;split at h
 ·split at h
  ·rename_i v _ a ha
   exact ⟨a,by rw [hd v a ha],h⟩
  ·cases h
 ·cases h
theorem Kz {α β:Type} {d:V->Option α} {e:V->Option β} {c:α->V} {c':β->V} (hd:∀ v a,d v=some a->v=c a) (he:∀ v b,e v=some b->v=c' b) {F:α->β->A9}
  {vs:List V} {r:V×List Blk} (h:(ap2 d e F vs).sem=some r):∃ a b,vs=[c a,c' b]∧(F a b).sem=some r:=by
 unfold ap2 at h;split at h
 ·split at h
  ·rename_i v u _ _ a b ha hb
   exact ⟨a,b,by rw [hd v a ha,he u b hb],h⟩
  ·cases h
 ·cases h
theorem LJ:∀ v a,gI v=some a->v=iV a:=λ_ _ h=>FV h
theorem Tu:∀ v a,toE v=some a->v=eV a:=λ_ _ h=>Mw h
def out (v:V):A9:=.leaf (v,[])
def B2 (a:Int):Bool:=bor (ieq a 1) (ieq a 2)
def EX (a n:Int):Bool:=bor (ilt n 14) (Jr (ilt n 22) (ieq a 1))
def S3 (a:Int) (e:E6):Bool :=
 bor (ieq e.kind 1) (bor (ieq e.kind 2) (bor (ieq e.kind 3) (bor (ieq e.kind 4) (sel (ieq e.kind 5) (Jr (ieq e.fence 1) (ieq a 1)) (ieq a 2)))))
theorem AcO (a:Int):(Ax (Ak tab cx6 Tryz.f195 [iV a] [])).sem=some (bV (B2 a),[]):=by
 have h1:(Ax (Ak tab cx6 Tryz.f195 [iV a] [])).path [true,true,true]=some ([ieq a 1,ieq a 1,ieq a 1],(bV true,[])):=by kernel_rfl
 have h2:(Ax (Ak tab cx6 Tryz.f195 [iV a] [])).path [false,false,false]=some ([ieq a 1,ieq a 1,ieq a 1],(bV (ieq a 2),[])):=by kernel_rfl
 unfold B2;cases h:ieq a 1 with
 | true=>exact A5 h1 (by rw [h])
 | false=>exact A5 h2 (by rw [h])
theorem AcN (a:Int):(Ax (Ak tab cx6 Tryz.f183 [iV a] [])).sem=some (bV (B2 a),[]):=by
 have h1:(Ax (Ak tab cx6 Tryz.f183 [iV a] [])).path [true,true,true]=some ([ieq a 1,ieq a 1,ieq a 1],(bV true,[])):=by kernel_rfl
 have h2:(Ax (Ak tab cx6 Tryz.f183 [iV a] [])).path [false,false,false]=some ([ieq a 1,ieq a 1,ieq a 1],(bV (ieq a 2),[])):=by kernel_rfl
 unfold B2;cases h:ieq a 1 with
 | true=>exact A5 h1 (by rw [h])
 | false=>exact A5 h2 (by rw [h])
theorem AcG (a n:Int):(Ax (Ak tab cx6 Tryz.f196 [iV a,iV n] [])).sem=some (bV (EX a n),[]):=by
 have h1:(Ax (Ak tab cx6 Tryz.f196 [iV a,iV n] [])).path [true]=some ([ilt n 14],(bV true,[])):=by kernel_rfl
 have h2:(Ax (Ak tab cx6 Tryz.f196 [iV a,iV n] [])).path [false]=some ([ilt n 14],(bV (Jr (ilt n 22) (ieq a 1)),[])):=by kernel_rfl
 unfold EX;cases h:ilt n 14 with
 | true=>exact A5 h1 (by rw [h])
 | false=>exact A5 h2 (by rw [h])
theorem Akj (a:Int) (e:E6):(Ax (Ak tab cx6 Tryz.f184 [iV a,eV e] [])).sem=some (bV (S3 a e),[]):=by
 have h1:(Ax (Ak tab cx6 Tryz.f184 [iV a,eV e] [])).path [true,true]=some ([ieq e.kind 1,ieq e.kind 1],(bV true,[])):=by kernel_rfl
 have h2:(Ax (Ak tab cx6 Tryz.f184 [iV a,eV e] [])).path [false,true,true]=some ([ieq e.kind 1,ieq e.kind 2,ieq e.kind 2],(bV true,[])):=by kernel_rfl
 have h3:(Ax (Ak tab cx6 Tryz.f184 [iV a,eV e] [])).path [false,false,true,true]=some ([ieq e.kind 1,ieq e.kind 2,ieq e.kind 3,ieq e.kind 3],(bV true,[])):=by kernel_rfl
 have h4:(Ax (Ak tab cx6 Tryz.f184 [iV a,eV e] [])).path [false,false,false,true]=some ([ieq e.kind 1,ieq e.kind 2,ieq e.kind 3,ieq e.kind 4],(bV true,[])):=by kernel_rfl
 have h5:(Ax (Ak tab cx6 Tryz.f184 [iV a,eV e] [])).path [false,false,false,false,true]=some ([ieq e.kind 1,ieq e.kind 2,ieq e.kind 3,ieq e.kind 4,ieq e.kind 5],(bV (Jr (ieq e.fence 1) (ieq a 1)),[])):=by kernel_rfl
 have h6:(Ax (Ak tab cx6 Tryz.f184 [iV a,eV e] [])).path [false,false,false,false,false]=some ([ieq e.kind 1,ieq e.kind 2,ieq e.kind 3,ieq e.kind 4,ieq e.kind 5],(bV (ieq a 2),[])):=by kernel_rfl
 unfold S3;cases c1:ieq e.kind 1 with
 | true=>exact A5 h1 (by rw [c1])
 | false =>
 cases c2:ieq e.kind 2 with
 | true=>exact A5 h2 (by rw [c1,c2])
 | false =>
 cases c3:ieq e.kind 3 with
 | true=>exact A5 h3 (by rw [c1,c2,c3])
 | false =>
 cases c4:ieq e.kind 4 with
 | true=>exact A5 h4 (by rw [c1,c2,c3,c4])
 | false =>
 cases c5:ieq e.kind 5 with
 | true=>exact A5 h5 (by rw [c1,c2,c3,c4,c5])
 | false=>exact A5 h6 (by rw [c1,c2,c3,c4,c5])
theorem p77:As Tryz.prog Gl 195 (ap1 gI λa=>out (bV (B2 a))):=by
 refine As.congr (AG A8 mixed Tryz.func195 (by kernel_rfl) (by kernel_rfl) (Γ:=cx6) (Bi tb6_ok _)) λvs r h=>?_;obtain ⟨a,rfl,h⟩:=NV LJ h;rw [Aa h];exact AcO a
theorem p79:As Tryz.prog Gl 183 (ap1 gI λa=>out (bV (B2 a))):=by
 refine As.congr (AG A8 mixed Tryz.func183 (by kernel_rfl) (by kernel_rfl) (Γ:=cx6) (Bi tb6_ok _)) λvs r h=>?_;obtain ⟨a,rfl,h⟩:=NV LJ h;rw [Aa h];exact AcN a
theorem p78:As Tryz.prog Gl 196 (ap2 gI gI λa n=>out (bV (EX a n))):=by
 refine As.congr (AG A8 mixed Tryz.func196 (by kernel_rfl) (by kernel_rfl) (Γ:=cx6) (Bi tb6_ok _)) λvs r h=>?_;obtain ⟨a,n,rfl,h⟩:=Kz LJ LJ h;rw [Aa h];exact AcG a n
theorem p80:As Tryz.prog Gl 184 (ap2 gI toE λa e=>out (bV (S3 a e))):=by
 refine As.congr (AG A8 mixed Tryz.func184 (by kernel_rfl) (by kernel_rfl) (Γ:=cx6) (Bi tb6_ok _)) λvs r h=>?_;obtain ⟨a,e,rfl,h⟩:=Kz LJ Tu h;rw [Aa h];exact Akj a e
theorem Xy (k:Nat) (hk:k<112) (a:Int) (ha:B2 a=true):S3 a (Df k)=EX a (Int.ofNat k):=by
 have h1:(List.range 112).map (λk:Nat=>S3 1 (Df k))=(List.range 112).map λk:Nat=>EX 1 (Int.ofNat k):=by kernel_rfl
 have h2:(List.range 112).map (λk:Nat=>S3 2 (Df k))=(List.range 112).map λk:Nat=>EX 2 (Int.ofNat k):=by kernel_rfl
 simp only [B2,bor,ieq,Bool.or_eq_true,beq_iff_eq] at ha;rcases ha with rfl | rfl
 ·exact Fu h1 k hk
 ·exact Fu h2 k hk
noncomputable def tb8:AM:=(195,ap1 gI λa=>out (bV (B2 a)))::(183,ap1 gI λa=>out (bV (B2 a)))::(196,ap2 gI gI λa n=>out (bV (EX a n)))::(184,ap2 gI toE λa e=>out (bV (S3 a e)))::tb7
theorem KB:Ar Tryz.prog Gl tb8:=.cons p77 <| .cons p79 <| .cons p78 <| .cons p80 AfO
noncomputable def cx8:Cx:=Bd Gl tb8 [(0,⟨[],2,[],2,113⟩)]
def Jd (a:Int) (e:E6):Bool:=sel (AN (B2 a)) false (sel (AN (ieq (Bc e) 0)) false (EX a (BL e)))
def Gn (a:Int) (e:E6):Int:=sel (AN (B2 a)) 1 (Bc e)
def Nj (a:Int) (e:E6):V:=.tup [bV (Jd a e),iV (Gn a e)]
theorem AcI (a:Int) (e:E6):(Ax (Ak tab cx8 Tryz.f192 [iV a,eV e] [])).sem=some (Nj a e,[]):=by
 have h1:(Ax (Ak tab cx8 Tryz.f192 [iV a,eV e] [])).path [true]=some ([AN (B2 a)],(.tup [bV false,iV 1],[])):=by kernel_rfl
 have h2:(Ax (Ak tab cx8 Tryz.f192 [iV a,eV e] [])).path [false,true]=some ([AN (B2 a),AN (ieq (Bc e) 0)],(.tup [bV false,iV (Bc e)],[])):=by kernel_rfl
 have h3:(Ax (Ak tab cx8 Tryz.f192 [iV a,eV e] [])).path [false,false]=some ([AN (B2 a),AN (ieq (Bc e) 0)],(.tup [bV (EX a (BL e)),iV 0],[])):=by kernel_rfl
 unfold Nj Jd Gn;cases c1:AN (B2 a) with
 | true=>exact A5 h1 (by rw [c1])
 | false =>
 cases c2:AN (ieq (Bc e) 0) with
 | true=>exact A5 h2 (by rw [c1,c2])
 | false =>
  have:Bc e=0:=by simpa [AN,ieq] using c2
  rw [this];exact A5 h3 (by rw [c1,c2])
theorem Ec (e:E6):(∃ k:Nat,k<112∧Bc e=0∧BL e=Int.ofNat k∧Df k=e∧OO e=IN k) ∨ (Bc e=30∧BL e=0∧OO e=[]∧∀ k,k<112->Df k ≠ e):=by
 unfold Bc BL OO;cases h:FW e 112 0 with
 | some k =>obtain ⟨_,h2,h3⟩:=Hn e 112 0 k h;exact .inl ⟨k,by omega,rfl,rfl,h3,rfl⟩
 | none =>
  refine .inr ⟨rfl,rfl,rfl,?_⟩;have:∀ m k,FW e m k=none->∀ j,k <= j->j<k+m->Df j ≠ e:=by
   intro m
   induction m with
   | zero=>intro k _ j h1 h2; omega
   | succ m ih =>
    intro k hn j h1 h2;simp only [FW] at hn;split at hn
    ·cases hn
    ·rename_i hne
     by_cases hj:j=k
     ·subst hj
      intro he;rw [(I1 _ _).2 he] at hne;cases hne
     ·exact ih _ hn j (by omega) (by omega)
  exact λk hk=>this 112 0 h k (by omega) (by omega)
theorem AcH (a:Int) (e:E6):(Ax (Ak tab cx8 Tryz.f151 [iV a,eV e] [])).sem=some (Nj a e,[]):=by
 have h1:(Ax (Ak tab cx8 Tryz.f151 [iV a,eV e] [])).path [true]=some ([AN (B2 a)],(.tup [bV false,iV 1],[])):=by kernel_rfl
 have h2:(Ax (Ak tab cx8 Tryz.f151 [iV a,eV e] [])).path [false,true]=some ([AN (B2 a),AN (ieq (Bc e) 0)],(.tup [bV false,iV 30],[])):=by kernel_rfl
 have h3:(Ax (Ak tab cx8 Tryz.f151 [iV a,eV e] [])).path [false,false]=some ([AN (B2 a),AN (ieq (Bc e) 0)],(.tup [bV (S3 a e),iV 0],[])):=by kernel_rfl
 unfold Nj Jd Gn;cases c1:AN (B2 a) with
 | true=>exact A5 h1 (by rw [c1])
 | false =>
 rcases Ec e with ⟨k,hk,hf,hn,he,_⟩ | ⟨hf,_⟩
 ·have c2:AN (ieq (Bc e) 0)=false:=by rw [hf]; rfl
  have ha:B2 a=true:=by simpa [AN] using c1
  rw [c2,hf,hn,<- Xy k hk a ha,he];exact A5 h3 (by rw [c1,c2])
 ·have c2:AN (ieq (Bc e) 0)=true:=by rw [hf]; rfl
  rw [c2,hf];exact A5 h2 (by rw [c1,c2])
theorem p32:As Tryz.prog Gl 192 (ap2 gI toE λa e=>out (Nj a e)):=by
 refine As.congr (AG A8 mixed Tryz.func192 (by kernel_rfl) (by kernel_rfl) (Γ:=cx8) (Bi KB _)) λvs r h=>?_;obtain ⟨a,e,rfl,h⟩:=Kz LJ Tu h;rw [Aa h];exact AcI a e
theorem p33:As Tryz.prog Gl 151 (ap2 gI toE λa e=>out (Nj a e)):=by
 refine As.congr (AG A8 mixed Tryz.func151 (by kernel_rfl) (by kernel_rfl) (Γ:=cx8) (Bi KB _)) λvs r h=>?_;obtain ⟨a,e,rfl,h⟩:=Kz LJ Tu h;rw [Aa h];exact AcH a e
def AlY (a:Int):List E6:=((List.range 112).filter λk=>EX a (Int.ofNat k)).map Df
def Adw (a:Int) (i:Nat):E6:=(AlY a).getD i H2
def allT:List V->A9:=ap1 gI λa =>
 .br (ieq a 1) (.leaf (.tup [.ref 0,iV 0],[.row 76 6 22 λi=>eV (Adw 1 i)])) <|
 .br (ieq a 2) (.leaf (.tup [.ref 0,iV 0],[.row 76 6 104 λi=>eV (Adw 2 i)])) (.leaf (.tup [.ref 0,iV 1],[.row 76 6 0 λ_=>.und]))
end Go.Proofs.YtkbafjceglhjhaaGreatDoor.Ed
namespace Go.Proofs.YtkbafjceglhjhaaGreatDoor.Ed
open Go.Sy
open Int (ofNat)
def okE (v:V):Bool:=match toE v with
 | some _=>true
 | none=>false
def edE (v:V):E6:=match toE v with
 | some e=>e
 | none=>H2
def Be (n:Nat) (p:Nat->Bool):Bool:=(List.range n).all p
theorem AE {n:Nat} {p:Nat->Bool}:Be n p=true↔∀ i,i<n->p i=true:=by simp [Be]
theorem MO {v:V} (h:okE v=true):v=eV (edE v):=by
 unfold okE at h;unfold edE;split at h
 ·rename_i e he
  exact Mw he
 ·cases h
def gSl:V->Option (Nat×(Nat->V))
 | .sl s n g=>match Nat.beq s 6 with
  | true=>some (n,g)
  | false=>match n with
   | 0=>some (0,g)
   | _=>none
 | .slr s n _ g=>match Nat.beq s 6 with
  | true=>some (n,g)
  | false=>none
 | _=>none
def apL {α:Type} (v:V) (F:Nat->(Nat->E6)->T α):T α :=
 match gSl v with
 | some (n,g)=>.br (Be n λi=>okE (g i)) (F n λi=>edE (g i)) .fail
 | none=>.fail
def AC (n:Nat) (f:Nat->E6):V:=.sl 6 n λi=>eV (f i)
theorem Ck {α:Type} {v:V} {F:Nat->(Nat->E6)->T α} {r:α} (h:(apL v F).sem=some r) :
  ∃ n f,(∀ (S:Nat->Prop) (w:World) (c:Value),VR S w v noK c->VR S w (AC n f) noK c)∧(F n f).sem=some r:=by
 unfold apL at h;split at h
 ·rename_i n g hg
  obtain ⟨h1,h2⟩:=Ac h;have h1:=AE.1 h1;refine ⟨n,_,λS w c hv=>?_,h2⟩;unfold gSl at hg;split at hg
  ·rename_i s n' g'
   split at hg
   ·rename_i hs
    simp only [Option.some.injEq,Prod.mk.injEq] at hg;obtain ⟨rfl,rfl⟩:=hg;have hs:s=6:=Nat.eq_of_beq_eq_true hs;subst hs;obtain ⟨a,cap,e,hc,hb⟩:=hv;refine ⟨a,cap,e,hc,hb.imp id ?_⟩
    rintro ⟨b,o,ea,hel⟩
    refine ⟨b,o,ea,λi hi=>?_⟩;have:=hel i hi;rw [MO (h1 i hi)] at this;exact this
   ·split at hg
    ·simp only [Option.some.injEq,Prod.mk.injEq] at hg
     obtain ⟨rfl,rfl⟩:=hg;obtain ⟨a,cap,e,hc,_⟩:=hv;exact ⟨a,cap,e,hc,.inl rfl⟩
    ·cases hg
  ·rename_i s n' m' g'
   split at hg
   ·rename_i hs
    simp only [Option.some.injEq,Prod.mk.injEq] at hg;obtain ⟨rfl,rfl⟩:=hg;have hs:s=6:=Nat.eq_of_beq_eq_true hs;subst hs;obtain ⟨a,cap,e,hc,hm,hb⟩:=hv;refine ⟨a,cap,e,Nat.le_trans hc hm,?_⟩;rcases hb with h0 | ⟨b,o,ea,hel⟩
    ·exact .inl (by omega)
    ·refine .inr ⟨b,o,ea,λi hi=>?_⟩
     have:=hel i (by omega);rw [MO (h1 i hi)] at this;exact this
   ·cases hg
  ·cases hg
 ·cases h
def GK (F:Nat->(Nat->E6)->A9):List V->A9
 | [v]=>apL v F
 | _=>.fail
def AhG (F:Nat->(Nat->E6)->Nat->(Nat->E6)->A9):List V->A9
 | [v,u]=>apL v λn f=>apL u λm g=>F n f m g
 | _=>.fail
theorem Dd {F:Nat->(Nat->E6)->A9} {vs:List V} {r:V×List Blk} (h:(GK F vs).sem=some r):∃ n f,BC vs [AC n f]∧(F n f).sem=some r:=by
 unfold GK at h;split at h
 ·obtain ⟨n,f,h1,h2⟩:=Ck h
  refine ⟨n,f,λS w cs hv=>?_,h2⟩;obtain ⟨c,l,rfl,q1,q2⟩:=hv;exact ⟨c,l,rfl,h1 S w c q1,q2⟩
 ·cases h
theorem Pu {F:Nat->(Nat->E6)->Nat->(Nat->E6)->A9} {vs:List V} {r:V×List Blk} (h:(AhG F vs).sem=some r) :
  ∃ n f m g,BC vs [AC n f,AC m g]∧(F n f m g).sem=some r:=by
 unfold AhG at h;split at h
 ·obtain ⟨n,f,h1,h2⟩:=Ck h
  obtain ⟨m,g,h3,h4⟩:=Ck h2;refine ⟨n,f,m,g,λS w cs hv=>?_,h4⟩;obtain ⟨c,l,rfl,q1,c',l',rfl,q2,q3⟩:=hv;exact ⟨c,_,rfl,h1 S w c q1,c',l',rfl,h3 S w c' q2,q3⟩
 ·cases h
theorem A1 {i n:Nat} (h:i<n) (hn:n <= 4611686018427387904):wr .i64 (Ah (ofNat i) 1)=ofNat (i+1):=by
 unfold wr Ah IntKind.wrap;simp [IntKind.bits,IntKind.signed];omega
theorem ofNat_lt {i n:Nat} (h:i<n):ilt (ofNat i) (ofNat n)=true:=by simp [ilt]; omega
theorem Au {i n:Nat} (h:n <= i):ilt (ofNat i) (ofNat n)=false:=by simp [ilt]; omega
theorem Ae {i n:Nat} (h:i<n):Aj (ile 0 (ofNat i)) (ilt (ofNat i) (ofNat n))=true:=by rw [ofNat_lt h]; simp [Aj,ile]
noncomputable def cx9 (l:List (Nat×Lp)):Cx:=Bd Gl tb8 l
def KR (n:Nat):Lp:=⟨bmK 26 0 [0,1,4,5],0,bmK 26 0 [0,1,4],0,n+1⟩
def Oi (n m:Nat) (i:Int) (f g:Nat->E6) (j:Nat->V):St:=⟨jsV 26 0 j [(0,.sl 6 n λi=>eV (f i)),(1,.sl 6 m λi=>eV (g i)),(4,bV false),(5,iV i)],[]⟩
def SL (n m:Nat) (f g:Nat->E6):St:=⟨jsV 26 0 Ab [(0,.sl 6 n λi=>eV (f i)),(1,.sl 6 m λi=>eV (g i)),(4,bV false)],[]⟩
noncomputable def Hr (L:LT):St->T (Ex×St):=λst=>AL tab ⟨A0 tb8,L,Gl⟩ (A3 Tryz.f43 0) 0 st
section
variable (L:LT) (n m i:Nat) (f g:Nat->E6) (j:Nat->V)
include L n m i f g j
theorem Y8:((Hr L (Oi n m (ofNat i) f g j)).bind λr=>T.leaf (r.1,IE [true,true,false,false,true,false,false,false,false,false,false,false,false,false,false,false,false,false,false,false,false,false,false,false,false,false] 0 r.2)).path [false]=some ([ilt (ofNat i) (ofNat n)],(.ex 0,SL n m f g)):=by kernel_rfl
theorem Y7:((Hr L (Oi n m (ofNat i) f g j)).bind λr=>T.leaf (r.1,IE [true,true,false,false,true,false,false,false,false,false,false,false,false,false,false,false,false,false,false,false,false,false,false,false,false,false] 0 r.2)).path [true,true,true,true] =
  some ([ilt (ofNat i) (ofNat n),Aj (ile 0 (ofNat i)) (ilt (ofNat i) (ofNat n)),Aj (ile 0 (ofNat i)) (ilt (ofNat i) (ofNat m)),AN (eqE (f i) (g i))],(.rt,SL n m f g)):=by kernel_rfl
theorem WT:((Hr L (Oi n m (ofNat i) f g j)).bind λr=>T.leaf (r.1,IE [true,true,false,false,true,true,false,false,false,false,false,false,false,false,false,false,false,false,false,false,false,false,false,false,false,false] 0 r.2)).path [true,true,true,false] =
  some ([ilt (ofNat i) (ofNat n),Aj (ile 0 (ofNat i)) (ilt (ofNat i) (ofNat n)),Aj (ile 0 (ofNat i)) (ilt (ofNat i) (ofNat m)),AN (eqE (f i) (g i))],
   (.nm,Oi n m (wr .i64 (Ah (ofNat i) 1)) f g λ_=>.und)):=by kernel_rfl
end
def F8 (f g:Nat->E6):Nat->Nat->Bool
 | 0,_=>true
 | d+1,i=>match eqE (f i) (g i) with
  | true=>F8 f g d (i+1)
  | false=>false
theorem RA (L:LT) (n m:Nat) (f g:Nat->E6) (hm:n=m) (hn:n <= 4611686018427387904):∀ (d i:Nat) (j:Nat->V) (q:Nat),n=i+d->d<q ->
  (A4 (Hr L) (KR n) q (Oi n m (ofNat i) f g j)).sem=some (match F8 f g d i with | true=>.ex 0 | false=>.rt,SL n m f g)
 | 0,i,j,q+1,h1,_=>by
  have h3:(A4 (Hr L) (KR n) (q+1) (Oi n m (ofNat i) f g j)).sem=some (.ex 0,SL n m f g):=Sp (Y8 L n m i f g j) (by rw [Au (by omega)]) (λh=>by cases h);exact h3
 | d+1,i,j,q+1,h1,h2=>by
  have hi:i<n:=by omega
  have hi':i<m:=by omega
  unfold F8;cases hc:eqE (f i) (g i) with
  | true =>
   have h3:(A4 (Hr L) (KR n) (q+1) (Oi n m (ofNat i) f g j)).sem=(A4 (Hr L) (KR n) q (Oi n m (wr .i64 (Ah (ofNat i) 1)) f g λ_=>.und)).sem :=
    Xw (WT L n m i f g j) (by rw [Ae hi,Ae hi',ofNat_lt hi,hc]; rfl)
   rw [h3,A1 hi hn];exact RA L n m f g hm hn d (i+1) Ab q (by omega) (by omega)
  | false =>have h3:(A4 (Hr L) (KR n) (q+1) (Oi n m (ofNat i) f g j)).sem=some (.rt,SL n m f g):=Sp (Y7 L n m i f g j) (by rw [Ae hi,Ae hi',ofNat_lt hi,hc]; rfl) (λh=>by cases h);exact h3
def DY (n:Nat) (f:Nat->E6) (m:Nat) (g:Nat->E6):Bool:=sel (ieq (ofNat n) (ofNat m)) (F8 f g n 0) false
def Akd (n m:Nat) (f g:Nat->E6):Nat->V:=lkV AI [(6,AC n f),(7,nV n),(8,AC m g),(9,nV m),(10,bV (AN (ieq (ofNat n) (ofNat m))))]
theorem Y9 (n m:Nat) (f g:Nat->E6) (L:LT):Ax (Ak tab ⟨A0 tb8,L,Gl⟩ Tryz.f43 [AC n f,AC m g] []) =
  Ax (Ak tab ⟨A0 tb8,λ_ _ _=>L 0 (Hr L) (Oi n m 0 f g (Akd n m f g)),Gl⟩ Tryz.f43 [AC n f,AC m g] []):=by kernel_rfl
theorem AbI (n m:Nat) (f g:Nat->E6) (L:LT):(Ax (Ak tab ⟨A0 tb8,L,Gl⟩ Tryz.f43 [AC n f,AC m g] [])).path [true] =
  some ([AN (ieq (ofNat n) (ofNat m))],(bV false,[])):=by kernel_rfl
theorem AbJ (n m:Nat) (f g:Nat->E6):(Ax (Ak tab ⟨A0 tb8,λ_ _ _=>.leaf (.ex 0,SL n m f g),Gl⟩ Tryz.f43 [AC n f,AC m g] [])).path [false] =
  some ([AN (ieq (ofNat n) (ofNat m))],(bV true,[])):=by kernel_rfl
theorem AbH (n m:Nat) (f g:Nat->E6):(Ax (Ak tab ⟨A0 tb8,λ_ _ _=>.leaf (.rt,SL n m f g),Gl⟩ Tryz.f43 [AC n f,AC m g] [])).path [false] =
  some ([AN (ieq (ofNat n) (ofNat m))],(bV false,[])):=by kernel_rfl
theorem YA (n m:Nat) (f g:Nat->E6) (hn:n <= 4611686018427387904):(Ax (Ak tab (cx9 [(0,KR n)]) Tryz.f43 [AC n f,AC m g] [])).sem=some (bV (DY n f m g),[]):=by
 unfold DY;cases hc:ieq (ofNat n) (ofNat m) with
 | false=>exact A5 (AbI n m f g _) (by rw [hc]; rfl)
 | true =>
  have h0:ofNat n=ofNat m:=by simpa only [ieq,beq_iff_eq] using hc
  have hm:n=m:=Int.ofNat.inj h0;have h1:=RA (Cv [(0,KR n)]) n m f g hm hn n 0 (Akd n m f g) (n+1) (by omega) (by omega);have h2:=Y9 n m f g (Cv [(0,KR n)]);have h3:(Ax (Ak tab (cx9 [(0,KR n)]) Tryz.f43 [AC n f,AC m g] [])).sem=(Ax (Ak tab ⟨A0 tb8,λ_ _ _=>.leaf (match F8 f g n 0 with | true=>.ex 0 | false=>.rt,SL n m f g),Gl⟩ Tryz.f43 [AC n f,AC m g] [])).sem:=by
   refine (congrArg T.sem h2).trans (Rm λid _ _ _ _=>?_);exact h1
  rw [h3];cases F8 f g n 0 with
  | true=>exact A5 (AbJ n m f g) (by rw [hc]; rfl)
  | false=>exact A5 (AbH n m f g) (by rw [hc]; rfl)
def Ao (n:Nat):Bool:=decide (n <= 4611686018427387904)
def RD:List V->A9:=AhG λn f m g=>.br (Ao n) (out (bV (DY n f m g))) .fail
theorem p36:As Tryz.prog Gl 43 RD:=by
 refine Am A8 mixed Tryz.func43 (by kernel_rfl) (by kernel_rfl) λvs v h' h=>?_;obtain ⟨n,f,m,g,ha,h⟩:=Pu h;obtain ⟨hn,h⟩:=Ac h;have:=Aa h;simp only [Prod.mk.injEq] at this;obtain ⟨rfl,rfl⟩:=this;have hx:=Bi KB [(0,KR n)];exact ⟨_,cx9 [(0,KR n)],_,ha,rfl,hx.1,hx.2,YA n m f g (of_decide_eq_true hn),Aw.refl _⟩
end Go.Proofs.YtkbafjceglhjhaaGreatDoor.Ed
namespace Go.Proofs.YtkbafjceglhjhaaGreatDoor.Ed
open Go.Sy
def CJ (n:Nat):Bool:=decide (n * 40 <= 140737488355328)
section
variable (L:LT)
end
end Go.Proofs.YtkbafjceglhjhaaGreatDoor.Ed
namespace Go.Proofs.YtkbafjceglhjhaaGreatDoor.Ed
open Go.Sy
theorem allT_some {vs:List V} {r:V×List Blk} (h:(allT vs).sem=some r):∃ a,vs=[iV a]∧((a=1∧r=(.tup [.ref 0,iV 0],[.row 76 6 22 λi=>eV (Adw 1 i)])) ∨ (a=2∧r=(.tup [.ref 0,iV 0],[.row 76 6 104 λi=>eV (Adw 2 i)])) ∨
  (AN (B2 a)=true∧r=(.tup [.ref 0,iV 1],[.row 76 6 0 λ_=>.und]))):=by
 obtain ⟨a,rfl,h⟩:=NV LJ h;refine ⟨a,rfl,?_⟩;have h:sel (ieq a 1) (some _) (sel (ieq a 2) (some _) (some _))=some r:=h;cases h1:ieq a 1 with
 | true =>rw [h1] at h;have h:some _=some r:=h;exact .inl ⟨by simpa [ieq] using h1,(Option.some.inj h).symm⟩
 | false =>
  rw [h1] at h;cases h2:ieq a 2 with
  | true =>rw [h2] at h;have h:some _=some r:=h;exact .inr (.inl ⟨by simpa [ieq] using h2,(Option.some.inj h).symm⟩)
  | false =>rw [h2] at h;have h:some _=some r:=h;exact .inr (.inr ⟨by simp [B2,h1,h2,AN,bor],(Option.some.inj h).symm⟩)
noncomputable def tb10:AM:=(43,RD)::(192,ap2 gI toE λa e=>out (Nj a e))::(151,ap2 gI toE λa e=>out (Nj a e))::tb8
theorem tb10_ok:Ar Tryz.prog Gl tb10:=.cons p36 <| .cons p32 <| .cons p33 KB
end Go.Proofs.YtkbafjceglhjhaaGreatDoor.Ed
namespace Go.Proofs.YtkbafjceglhjhaaGreatDoor.Ed
open Go.Sy
end Go.Proofs.YtkbafjceglhjhaaGreatDoor.Ed
