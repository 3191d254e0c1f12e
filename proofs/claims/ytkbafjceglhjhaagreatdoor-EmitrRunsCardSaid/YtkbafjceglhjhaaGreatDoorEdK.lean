/-
  Layer 3: texts, architectures, what must come. No conditions.
-/
import Derived.Test.YtkbafjceglhjhaaGreatDoorEdC
import Derived.Test.YtkbafjceglhjhaaGreatDoorCards
import Derived.Test.YtkbafjceglhjhaaGreatDoorTie
import Derived.ProofKit
import Derived.OpenShut
import Derived.Deep.DeepHandedRow
namespace Go.Proofs.YtkbafjceglhjhaaGreatDoor.Ed
open Go.Sy
noncomputable def tb5:AE:=(80,Cc Nk)::tb3
theorem tb5_ok:Ar Tryz.prog Gl tb5:=.cons p27<|tb3_ok
noncomputable def cx5:Cx:=AT Gl tb5 [(0,⟨[],1,[],1,113⟩)]
def Rl (s:List UInt8):Nat->Nat->Option Nat
 | 0,_=>none
 | m+1,k=>match seq (Kh k) s with
  | true=>some k
  | false=>Rl s m (Nat.succ k)
def FO (s:List UInt8):E6:=match Rl s 112 0 with
 | some k=>Dw k
 | none=>Gq
def FN (s:List UInt8):Int:=match Rl s 112 0 with
 | some _=>0
 | none=>30
def OC (s:List UInt8):Nat->Nat->Option (V×List Blk)
 | 0,_=>some (.tup [eV Gq,iV 30],[])
 | m+1,k=>sel (seq (Kh k) s) (some (.tup [eV (Dw k),iV 0],[])) (OC s m (Nat.succ k))
theorem QP (s:List UInt8):∀ m k,OC s m k=match Rl s m k with
  | some j=>some (.tup [eV (Dw j),iV 0],[])
  | none=>some (.tup [eV Gq,iV 30],[])
 | 0,k=>rfl
 | m+1,k=>by
  simp only [OC,Rl];cases h:seq (Kh k) s with
  | true=>rfl
  | false=>exact QP s m (Nat.succ k)
theorem Wy (s:List UInt8):OC s 112 0=some (.tup [eV (FO s),iV (FN s)],[]):=by
 rw [QP];unfold FO FN;cases Rl s 112 0 <;> rfl
theorem Afw (s:List UInt8):(Ay (Aj tab cx5 Tryz.f106 [.str s] [])).sem=OC s 112 0:=by kernel_rfl
def Oj (f:List UInt8->V):List V->AA
 | [v]=>match gS v with
  | some e=>.leaf (f e,[])
  | none=>.fail
 | _=>.fail
theorem VJ {f:List UInt8->V} {vs:List V} {r:V×List Blk} (h:(Oj f vs).sem=some r):∃ e,vs=[.str e]∧r=(f e,[]):=by
 unfold Oj at h;split at h
 ·split at h
  ·rename_i v e hn
   exact ⟨e,by rw [Y2 hn],Aa h⟩
  ·cases h
 ·cases h
def OD (s:List UInt8):V:=.tup [eV (FO s),iV (FN s)]
theorem p22:As Tryz.prog Gl 106 (Oj OD):=by
 refine As.congr (AM A0 mixed Tryz.func106 (by kernel_rfl) (by kernel_rfl) (Γ:=cx5) (Bs tb5_ok _)) λvs r h=>?_;obtain ⟨e,rfl,rfl⟩:=VJ h;exact (Afw e).trans (Wy e)
noncomputable def tb6:AE:=(106,Oj OD)::tb5
theorem tb6_ok:Ar Tryz.prog Gl tb6:=.cons p22 tb5_ok
noncomputable def cx6:Cx:=AT Gl tb6 []
noncomputable def tb7:AE:=tb6
theorem tb7_ok:Ar Tryz.prog Gl tb7:=tb6_ok
end Go.Proofs.YtkbafjceglhjhaaGreatDoor.Ed
namespace Go.Proofs.YtkbafjceglhjhaaGreatDoor.Ed
open Go.Sy
set_option maxRecDepth 100000
theorem own:ownKnob Tryz.prog.godebug=none:=by kernel_rfl
theorem Yi:laidOutB Tryz.prog=true:=by kernel_rfl
def Xo (e:E6):List Value:=[.int .i64 e.kind,.bool e.ext,.bool e.same,.int .i64 e.src,.int .i64 e.dst,.int .i64 e.fence]
section
variable {H:Type} {enc:TypeId×Value->H} {W:World} {sp:Nat->Bool} {held:Bool} {r:Reach} {b0:Nat} {v:Value} {d:DataW H} {ps:List MemPlace}
theorem H8 {c d:Value} {cs:List Value} (h:cs=[d]) (hc:[c]=cs):c=d:=by
 subst h;simpa using hc
theorem Xg (fuel:Nat) (cs:List Value) (x:DataW H×List MemPlace) (h:DataW.trod enc Tryz.prog W 0 sp held fuel 76 cs=some x):∃ e:E6,cs=Xo e:=by
 obtain ⟨xs,n,_,_,hl,hx,hf⟩:=DataW.trod_struct Tryz.underlying76 h;have hl:cs.length=6:=hl.trans (by kernel_rfl);have hx:xs.length=6:=hx;obtain ⟨c0,c1,c2,c3,c4,c5,rfl⟩:∃ a b c d e f,cs=[a,b,c,d,e,f]:=by
  match cs,hl with
  | [a,b,c,d,e,f],_=>exact ⟨a,b,c,d,e,f,rfl⟩
 have get:∀ (i:Nat) (f:Field),#[({ name := "Kind",type:=3,offset:=0,embedded:=false,tag := "",pkgPath := "",byteOffset:=0 }:Field),
    { name := "Ext",type:=4,offset:=1,embedded:=false,tag := "",pkgPath := "",byteOffset:=8 },
    { name := "Same",type:=4,offset:=2,embedded:=false,tag := "",pkgPath := "",byteOffset:=9 },
    { name := "Src",type:=3,offset:=3,embedded:=false,tag := "",pkgPath := "",byteOffset:=16 },
    { name := "Dst",type:=3,offset:=4,embedded:=false,tag := "",pkgPath := "",byteOffset:=24 },
    { name := "Fence",type:=3,offset:=5,embedded:=false,tag := "",pkgPath := "",byteOffset:=32 }][i]? = some f->i<6 ->
   ∃ y,DataW.trod enc Tryz.prog W 0 sp held n f.type (([c0,c1,c2,c3,c4,c5].drop f.offset).take (Tryz.prog.cellsOf f.type))=some y:=by
  intro i f hi hlt;have:=hf i f hi;rw [List.getElem?_eq_getElem (by omega)] at this;exact ⟨_,this⟩
 have n3:Tryz.prog.cellsOf 3=1:=by kernel_rfl
 have n4:Tryz.prog.cellsOf 4=1:=by kernel_rfl
 obtain ⟨y0,g0⟩:=get 0 _ rfl (by omega);obtain ⟨y1,g1⟩:=get 1 _ rfl (by omega);obtain ⟨y2,g2⟩:=get 2 _ rfl (by omega);obtain ⟨y3,g3⟩:=get 3 _ rfl (by omega);obtain ⟨y4,g4⟩:=get 4 _ rfl (by omega);obtain ⟨y5,g5⟩:=get 5 _ rfl (by omega);have g0:DataW.trod enc Tryz.prog W 0 sp held n 3 (([c0,c1,c2,c3,c4,c5].drop 0).take (Tryz.prog.cellsOf 3))=some y0:=g0;rw [n3] at g0;have g1:DataW.trod enc Tryz.prog W 0 sp held n 4 (([c0,c1,c2,c3,c4,c5].drop 1).take (Tryz.prog.cellsOf 4))=some y1:=g1;rw [n4] at g1;have g2:DataW.trod enc Tryz.prog W 0 sp held n 4 (([c0,c1,c2,c3,c4,c5].drop 2).take (Tryz.prog.cellsOf 4))=some y2:=g2;rw [n4] at g2;have g3:DataW.trod enc Tryz.prog W 0 sp held n 3 (([c0,c1,c2,c3,c4,c5].drop 3).take (Tryz.prog.cellsOf 3))=some y3:=g3;rw [n3] at g3;have g4:DataW.trod enc Tryz.prog W 0 sp held n 3 (([c0,c1,c2,c3,c4,c5].drop 4).take (Tryz.prog.cellsOf 3))=some y4:=g4;rw [n3] at g4;have g5:DataW.trod enc Tryz.prog W 0 sp held n 3 (([c0,c1,c2,c3,c4,c5].drop 5).take (Tryz.prog.cellsOf 3))=some y5:=g5;rw [n3] at g5;obtain ⟨a0,e0,_⟩:=DataW.trod_int Tryz.underlying3 g0;obtain ⟨a1,e1,_⟩:=DataW.trod_bool Tryz.underlying4 g1;obtain ⟨a2,e2,_⟩:=DataW.trod_bool Tryz.underlying4 g2;obtain ⟨a3,e3,_⟩:=DataW.trod_int Tryz.underlying3 g3;obtain ⟨a4,e4,_⟩:=DataW.trod_int Tryz.underlying3 g4;obtain ⟨a5,e5,_⟩:=DataW.trod_int Tryz.underlying3 g5;have e0:c0 = .int .i64 a0:=H8 e0 rfl;have e1:c1 = .bool a1:=H8 e1 rfl;have e2:c2 = .bool a2:=H8 e2 rfl;have e3:c3 = .int .i64 a3:=H8 e3 rfl;have e4:c4 = .int .i64 a4:=H8 e4 rfl;have e5:c5 = .int .i64 a5:=H8 e5 rfl;exact ⟨⟨a0,a1,a2,a3,a4,a5⟩,by rw [e0,e1,e2,e3,e4,e5]; rfl⟩
theorem Ahc (S:Nat->Prop) (w:World) (κ:Aq) (e:E6):VR S w (eV e) κ (.agg (Xo e).toArray) :=
 ⟨_,rfl,_,_,rfl,rfl,_,_,rfl,rfl,_,_,rfl,rfl,_,_,rfl,rfl,_,_,rfl,rfl,_,_,rfl,rfl,rfl⟩
def AiM (W:World) (v:Value) (u:V):Prop:=VR (Mf W) W u noK v
instance:Inhabited E6:=⟨Gq⟩
theorem ZW (fuel:Nat) (cs:List Value) (x:DataW H×List MemPlace) (h:DataW.trod enc Tryz.prog W 0 sp held fuel 3 cs=some x):∃ n:Int,cs=[.int .i64 n]:=by
 obtain ⟨n,e,_⟩:=DataW.trod_int Tryz.underlying3 h;exact ⟨n,e⟩
theorem Wt (hval:Value.okWide Tryz.prog W r b0 24 v) (h:DataW.Trod enc Tryz.prog W 0 sp held 24 v d ps) :
  ∃ (n:Nat) (xs:Nat->Int),AiM W v (.sl 1 n λi=>iV (xs i))∧(n=0 ∨ ∃ els rest,d = .slice els rest∧els.length=n) :=
 Wu (f:=λn:Int=>[Value.int .i64 n]) (g:=iV) (s:=1) Tryz.underlying24 (by kernel_rfl) (by omega) (λe u hu=>by simp at hu; subst hu; rfl)
  (λS w e=>⟨_,rfl,rfl⟩) ZW hval h
end
noncomputable def M7 (os:Os):World :=
 { World.holding Tryz.prog os ⟨#[],#[],[]⟩ with heap:=(World.holding Tryz.prog os ⟨#[],#[],[]⟩).heap.mapIdx λi o=>match o with
   | .cells cs t frozen=>.cells (match i with
    | 0=>(Tm.map λz=>Value.string ⟨z.toArray⟩).toArray
    | 1=>(YI.map λz=>Value.string ⟨z.toArray⟩).toArray
    | 2=>(XA.map λz=>Value.string ⟨z.toArray⟩).toArray
    | 3=>(YB.map λz=>Value.string ⟨z.toArray⟩).toArray
    | 5=>((List.range 20).map λk=>Value.int .u64 ((10 ^ k:Nat):Int)).toArray
    | 6=>([0,1,28,2,29,14,24,3,30,22,20,15,25,17,4,8,31,27,13,23,21,19,16,7,26,12,18,6,11,5,10,9].map λz:Nat=>Value.int .u8 (z:Int)).toArray
    | 7=>([0,1,56,2,57,49,28,3,61,58,42,50,38,29,17,4,62,47,59,36,45,43,51,22,53,39,33,30,24,18,12,5,63,55,48,27,60,41,37,16,46,35,44,21,52,32,23,11,54,26,40,15,34,20,31,10,25,14,19,9,13,8,7,6].map λz:Nat=>Value.int .u8 (z:Int)).toArray
    | _=>cs) t frozen
   | o=>o }
end Go.Proofs.YtkbafjceglhjhaaGreatDoor.Ed
namespace Go.Proofs.YtkbafjceglhjhaaGreatDoor.Ed
open Go.Sy
set_option maxRecDepth 100000
theorem AqQ {W:World} (hL:laidMetH Tryz.prog Rows.emitrHangsRow.laid W):TD Gl (Mf W) W:=by
 have hL:laidMet Tryz.prog [("alembic/edge.comms",.agg (Tm.map λz=>.lit (.string z))),("alembic/edge.ends",.agg (YB.map λz=>.lit (.string z))),("alembic/edge.sets",.agg (XA.map λz=>.lit (.string z))),("alembic/edge.deps",.agg (YI.map λz=>.lit (.string z))),("math/bits.deBruijn32tab",Rows.laid_math_bits_deBruijn32tab),("math/bits.deBruijn64tab",Rows.laid_math_bits_deBruijn64tab),("internal/strconv.uint64pow10",Rows.laid_internal_strconv_uint64pow10)] W:=hL;obtain ⟨ps,hv,_,_⟩:=hL;obtain ⟨h0,q0,hv⟩:=KQ (g:=0) (t:=197) (e:=9) (n:=6) (by kernel_rfl) (by kernel_rfl) (by kernel_rfl) (by kernel_rfl) (by kernel_rfl) (by kernel_rfl) hv;obtain ⟨h3,q3,hv⟩:=KQ (g:=3) (t:=200) (e:=9) (n:=4) (by kernel_rfl) (by kernel_rfl) (by kernel_rfl) (by kernel_rfl) (by kernel_rfl) (by kernel_rfl) hv;obtain ⟨h2,q2,hv⟩:=KQ (g:=2) (t:=199) (e:=9) (n:=9) (by kernel_rfl) (by kernel_rfl) (by kernel_rfl) (by kernel_rfl) (by kernel_rfl) (by kernel_rfl) hv;obtain ⟨h1,q1,hv⟩:=KQ (g:=1) (t:=198) (e:=9) (n:=10) (by kernel_rfl) (by kernel_rfl) (by kernel_rfl) (by kernel_rfl) (by kernel_rfl) (by kernel_rfl) hv;intro g
 match g with
 | 0=>exact h0
 | 1=>exact h1
 | 2=>exact h2
 | 3=>exact h3
 | n+4=>trivial
end Go.Proofs.YtkbafjceglhjhaaGreatDoor.Ed
namespace Go.Proofs.YtkbafjceglhjhaaGreatDoor.Ed
open Go.Sy
def ap1 {α:Type} (d:V->Option α) (F:α->AA):List V->AA
 | [v]=>match d v with
  | some a=>F a
  | none=>.fail
 | _=>.fail
def ap2 {α β:Type} (d:V->Option α) (e:V->Option β) (F:α->β->AA):List V->AA
 | [v,u]=>match d v,e u with
  | some a,some b=>F a b
  | _,_=>.fail
 | _=>.fail
theorem PX {α:Type} {d:V->Option α} {c:α->V} (hd:∀ v a,d v=some a->v=c a) {F:α->AA} {vs:List V} {r:V×List Blk} (h:(ap1 d F vs).sem=some r) :
  ∃ a,vs=[c a]∧(F a).sem=some r:=by
 unfold ap1 at h;split at h
 ·split at h
  ·rename_i v _ a ha
   exact ⟨a,by rw [hd v a ha],h⟩
  ·cases h
 ·cases h
theorem Ma {α β:Type} {d:V->Option α} {e:V->Option β} {c:α->V} {c':β->V} (hd:∀ v a,d v=some a->v=c a) (he:∀ v b,e v=some b->v=c' b) {F:α->β->AA}
  {vs:List V} {r:V×List Blk} (h:(ap2 d e F vs).sem=some r):∃ a b,vs=[c a,c' b]∧(F a b).sem=some r:=by
 unfold ap2 at h;split at h
 ·split at h
  ·rename_i v u _ _ a b ha hb
   exact ⟨a,b,by rw [hd v a ha,he u b hb],h⟩
  ·cases h
 ·cases h
theorem Ny:∀ v a,gI v=some a->v=iV a:=λ_ _ h=>GX h
theorem VH:∀ v a,toE v=some a->v=eV a:=λ_ _ h=>Oh h
def out (v:V):AA:=.leaf (v,[])
def BE (a:Int):Bool:=bor (ieq a 1) (ieq a 2)
def FR (a n:Int):Bool:=bor (ilt n 14) (JZ (ilt n 22) (ieq a 1))
def hasB (a:Int) (e:E6):Bool :=
 bor (ieq e.kind 1) (bor (ieq e.kind 2) (bor (ieq e.kind 3) (bor (ieq e.kind 4) (sel (ieq e.kind 5) (JZ (ieq e.fence 1) (ieq a 1)) (ieq a 2)))))
theorem Agx (a:Int):(Ay (Aj tab cx6 Tryz.f195 [iV a] [])).sem=some (bV (BE a),[]):=by
 have h1:(Ay (Aj tab cx6 Tryz.f195 [iV a] [])).path [true,true,true]=some ([ieq a 1,ieq a 1,ieq a 1],(bV true,[])):=by kernel_rfl
 have h2:(Ay (Aj tab cx6 Tryz.f195 [iV a] [])).path [false,false,false]=some ([ieq a 1,ieq a 1,ieq a 1],(bV (ieq a 2),[])):=by kernel_rfl
 unfold BE;cases h:ieq a 1 with
 | true=>exact AD h1 (by rw [h])
 | false=>exact AD h2 (by rw [h])
theorem Agw (a:Int):(Ay (Aj tab cx6 Tryz.f183 [iV a] [])).sem=some (bV (BE a),[]):=by
 have h1:(Ay (Aj tab cx6 Tryz.f183 [iV a] [])).path [true,true,true]=some ([ieq a 1,ieq a 1,ieq a 1],(bV true,[])):=by kernel_rfl
 have h2:(Ay (Aj tab cx6 Tryz.f183 [iV a] [])).path [false,false,false]=some ([ieq a 1,ieq a 1,ieq a 1],(bV (ieq a 2),[])):=by kernel_rfl
 unfold BE;cases h:ieq a 1 with
 | true=>exact AD h1 (by rw [h])
 | false=>exact AD h2 (by rw [h])
theorem Agq (a n:Int):(Ay (Aj tab cx6 Tryz.f196 [iV a,iV n] [])).sem=some (bV (FR a n),[]):=by
 have h1:(Ay (Aj tab cx6 Tryz.f196 [iV a,iV n] [])).path [true]=some ([ilt n 14],(bV true,[])):=by kernel_rfl
 have h2:(Ay (Aj tab cx6 Tryz.f196 [iV a,iV n] [])).path [false]=some ([ilt n 14],(bV (JZ (ilt n 22) (ieq a 1)),[])):=by kernel_rfl
 unfold FR;cases h:ilt n 14 with
 | true=>exact AD h1 (by rw [h])
 | false=>exact AD h2 (by rw [h])
theorem AoH (a:Int) (e:E6):(Ay (Aj tab cx6 Tryz.f184 [iV a,eV e] [])).sem=some (bV (hasB a e),[]):=by
 have h1:(Ay (Aj tab cx6 Tryz.f184 [iV a,eV e] [])).path [true,true]=some ([ieq e.kind 1,ieq e.kind 1],(bV true,[])):=by kernel_rfl
 have h2:(Ay (Aj tab cx6 Tryz.f184 [iV a,eV e] [])).path [false,true,true]=some ([ieq e.kind 1,ieq e.kind 2,ieq e.kind 2],(bV true,[])):=by kernel_rfl
 have h3:(Ay (Aj tab cx6 Tryz.f184 [iV a,eV e] [])).path [false,false,true,true]=some ([ieq e.kind 1,ieq e.kind 2,ieq e.kind 3,ieq e.kind 3],(bV true,[])):=by kernel_rfl
 have h4:(Ay (Aj tab cx6 Tryz.f184 [iV a,eV e] [])).path [false,false,false,true]=some ([ieq e.kind 1,ieq e.kind 2,ieq e.kind 3,ieq e.kind 4],(bV true,[])):=by kernel_rfl
 have h5:(Ay (Aj tab cx6 Tryz.f184 [iV a,eV e] [])).path [false,false,false,false,true]=some ([ieq e.kind 1,ieq e.kind 2,ieq e.kind 3,ieq e.kind 4,ieq e.kind 5],(bV (JZ (ieq e.fence 1) (ieq a 1)),[])):=by kernel_rfl
 have h6:(Ay (Aj tab cx6 Tryz.f184 [iV a,eV e] [])).path [false,false,false,false,false]=some ([ieq e.kind 1,ieq e.kind 2,ieq e.kind 3,ieq e.kind 4,ieq e.kind 5],(bV (ieq a 2),[])):=by kernel_rfl
 unfold hasB;cases c1:ieq e.kind 1 with
 | true=>exact AD h1 (by rw [c1])
 | false =>
 cases c2:ieq e.kind 2 with
 | true=>exact AD h2 (by rw [c1,c2])
 | false =>
 cases c3:ieq e.kind 3 with
 | true=>exact AD h3 (by rw [c1,c2,c3])
 | false =>
 cases c4:ieq e.kind 4 with
 | true=>exact AD h4 (by rw [c1,c2,c3,c4])
 | false =>
 cases c5:ieq e.kind 5 with
 | true=>exact AD h5 (by rw [c1,c2,c3,c4,c5])
 | false=>exact AD h6 (by rw [c1,c2,c3,c4,c5])
theorem p77:As Tryz.prog Gl 195 (ap1 gI λa=>out (bV (BE a))):=by
 refine As.congr (AM A0 mixed Tryz.func195 (by kernel_rfl) (by kernel_rfl) (Γ:=cx6) (Bs tb6_ok _)) λvs r h=>?_;obtain ⟨a,rfl,h⟩:=PX Ny h;rw [Aa h];exact Agx a
theorem p79:As Tryz.prog Gl 183 (ap1 gI λa=>out (bV (BE a))):=by
 refine As.congr (AM A0 mixed Tryz.func183 (by kernel_rfl) (by kernel_rfl) (Γ:=cx6) (Bs tb6_ok _)) λvs r h=>?_;obtain ⟨a,rfl,h⟩:=PX Ny h;rw [Aa h];exact Agw a
theorem p78:As Tryz.prog Gl 196 (ap2 gI gI λa n=>out (bV (FR a n))):=by
 refine As.congr (AM A0 mixed Tryz.func196 (by kernel_rfl) (by kernel_rfl) (Γ:=cx6) (Bs tb6_ok _)) λvs r h=>?_;obtain ⟨a,n,rfl,h⟩:=Ma Ny Ny h;rw [Aa h];exact Agq a n
theorem p80:As Tryz.prog Gl 184 (ap2 gI toE λa e=>out (bV (hasB a e))):=by
 refine As.congr (AM A0 mixed Tryz.func184 (by kernel_rfl) (by kernel_rfl) (Γ:=cx6) (Bs tb6_ok _)) λvs r h=>?_;obtain ⟨a,e,rfl,h⟩:=Ma Ny VH h;rw [Aa h];exact AoH a e
theorem ZX (k:Nat) (hk:k<112) (a:Int) (ha:BE a=true):hasB a (Dw k)=FR a (Int.ofNat k):=by
 have h1:(List.range 112).map (λk:Nat=>hasB 1 (Dw k))=(List.range 112).map λk:Nat=>FR 1 (Int.ofNat k):=by kernel_rfl
 have h2:(List.range 112).map (λk:Nat=>hasB 2 (Dw k))=(List.range 112).map λk:Nat=>FR 2 (Int.ofNat k):=by kernel_rfl
 simp only [BE,bor,ieq,Bool.or_eq_true,beq_iff_eq] at ha;rcases ha with rfl | rfl
 ·exact Gp h1 k hk
 ·exact Gp h2 k hk
noncomputable def tb8:AE:=(195,ap1 gI λa=>out (bV (BE a)))::(183,ap1 gI λa=>out (bV (BE a)))::(196,ap2 gI gI λa n=>out (bV (FR a n)))::(184,ap2 gI toE λa e=>out (bV (hasB a e)))::tb7
theorem Mm:Ar Tryz.prog Gl tb8:=.cons p77 <| .cons p79 <| .cons p78 <| .cons p80 tb7_ok
noncomputable def cx8:Cx:=AT Gl tb8 [(0,⟨[],2,[],2,113⟩)]
def Kz (a:Int) (e:E6):Bool:=sel (AV (BE a)) false (sel (AV (ieq (Bl e) 0)) false (FR a (BZ e)))
def Ho (a:Int) (e:E6):Int:=sel (AV (BE a)) 1 (Bl e)
def OZ (a:Int) (e:E6):V:=.tup [bV (Kz a e),iV (Ho a e)]
theorem Ags (a:Int) (e:E6):(Ay (Aj tab cx8 Tryz.f192 [iV a,eV e] [])).sem=some (OZ a e,[]):=by
 have h1:(Ay (Aj tab cx8 Tryz.f192 [iV a,eV e] [])).path [true]=some ([AV (BE a)],(.tup [bV false,iV 1],[])):=by kernel_rfl
 have h2:(Ay (Aj tab cx8 Tryz.f192 [iV a,eV e] [])).path [false,true]=some ([AV (BE a),AV (ieq (Bl e) 0)],(.tup [bV false,iV (Bl e)],[])):=by kernel_rfl
 have h3:(Ay (Aj tab cx8 Tryz.f192 [iV a,eV e] [])).path [false,false]=some ([AV (BE a),AV (ieq (Bl e) 0)],(.tup [bV (FR a (BZ e)),iV 0],[])):=by kernel_rfl
 unfold OZ Kz Ho;cases c1:AV (BE a) with
 | true=>exact AD h1 (by rw [c1])
 | false =>
 cases c2:AV (ieq (Bl e) 0) with
 | true=>exact AD h2 (by rw [c1,c2])
 | false =>
  have:Bl e=0:=by simpa [AV,ieq] using c2
  rw [this];exact AD h3 (by rw [c1,c2])
theorem DY (e:E6):(∃ k:Nat,k<112∧Bl e=0∧BZ e=Int.ofNat k∧Dw k=e∧QS e=Kh k) ∨ (Bl e=30∧BZ e=0∧QS e=[]∧∀ k,k<112->Dw k ≠ e):=by
 unfold Bl BZ QS;cases h:GY e 112 0 with
 | some k =>obtain ⟨_,h2,h3⟩:=Is e 112 0 k h;exact .inl ⟨k,by omega,rfl,rfl,h3,rfl⟩
 | none =>
  refine .inr ⟨rfl,rfl,rfl,?_⟩;have:∀ m k,GY e m k=none->∀ j,k <= j->j<k+m->Dw j ≠ e:=by
   intro m
   induction m with
   | zero=>intro k _ j h1 h2; omega
   | succ m ih =>
    intro k hn j h1 h2;simp only [GY] at hn;split at hn
    ·cases hn
    ·rename_i hne
     by_cases hj:j=k
     ·subst hj
      intro he;rw [(JH _ _).2 he] at hne;cases hne
     ·exact ih _ hn j (by omega) (by omega)
  exact λk hk=>this 112 0 h k (by omega) (by omega)
theorem Agr (a:Int) (e:E6):(Ay (Aj tab cx8 Tryz.f151 [iV a,eV e] [])).sem=some (OZ a e,[]):=by
 have h1:(Ay (Aj tab cx8 Tryz.f151 [iV a,eV e] [])).path [true]=some ([AV (BE a)],(.tup [bV false,iV 1],[])):=by kernel_rfl
 have h2:(Ay (Aj tab cx8 Tryz.f151 [iV a,eV e] [])).path [false,true]=some ([AV (BE a),AV (ieq (Bl e) 0)],(.tup [bV false,iV 30],[])):=by kernel_rfl
 have h3:(Ay (Aj tab cx8 Tryz.f151 [iV a,eV e] [])).path [false,false]=some ([AV (BE a),AV (ieq (Bl e) 0)],(.tup [bV (hasB a e),iV 0],[])):=by kernel_rfl
 unfold OZ Kz Ho;cases c1:AV (BE a) with
 | true=>exact AD h1 (by rw [c1])
 | false =>
 rcases DY e with ⟨k,hk,hf,hn,he,_⟩ | ⟨hf,_⟩
 ·have c2:AV (ieq (Bl e) 0)=false:=by rw [hf]; rfl
  have ha:BE a=true:=by simpa [AV] using c1
  rw [c2,hf,hn,<- ZX k hk a ha,he];exact AD h3 (by rw [c1,c2])
 ·have c2:AV (ieq (Bl e) 0)=true:=by rw [hf]; rfl
  rw [c2,hf];exact AD h2 (by rw [c1,c2])
theorem p32:As Tryz.prog Gl 192 (ap2 gI toE λa e=>out (OZ a e)):=by
 refine As.congr (AM A0 mixed Tryz.func192 (by kernel_rfl) (by kernel_rfl) (Γ:=cx8) (Bs Mm _)) λvs r h=>?_;obtain ⟨a,e,rfl,h⟩:=Ma Ny VH h;rw [Aa h];exact Ags a e
theorem p33:As Tryz.prog Gl 151 (ap2 gI toE λa e=>out (OZ a e)):=by
 refine As.congr (AM A0 mixed Tryz.func151 (by kernel_rfl) (by kernel_rfl) (Γ:=cx8) (Bs Mm _)) λvs r h=>?_;obtain ⟨a,e,rfl,h⟩:=Ma Ny VH h;rw [Aa h];exact Agr a e
def Arc (a:Int):List E6:=((List.range 112).filter λk=>FR a (Int.ofNat k)).map Dw
def AgX (a:Int) (i:Nat):E6:=(Arc a).getD i Gq
def allT:List V->AA:=ap1 gI λa =>
 .br (ieq a 1) (.leaf (.tup [.ref 0,iV 0],[.row 76 6 22 λi=>eV (AgX 1 i)])) <|
 .br (ieq a 2) (.leaf (.tup [.ref 0,iV 0],[.row 76 6 104 λi=>eV (AgX 2 i)])) (.leaf (.tup [.ref 0,iV 1],[.row 76 6 0 λ_=>.und]))
end Go.Proofs.YtkbafjceglhjhaaGreatDoor.Ed
namespace Go.Proofs.YtkbafjceglhjhaaGreatDoor.Ed
open Go.Sy
open Int (ofNat)
def okE (v:V):Bool:=match toE v with
 | some _=>true
 | none=>false
def edE (v:V):E6:=match toE v with
 | some e=>e
 | none=>Gq
def Bo (n:Nat) (p:Nat->Bool):Bool:=(List.range n).all p
theorem AO {n:Nat} {p:Nat->Bool}:Bo n p=true↔∀ i,i<n->p i=true:=by simp [Bo]
theorem OH {v:V} (h:okE v=true):v=eV (edE v):=by
 unfold okE at h;unfold edE;split at h
 ·rename_i e he
  exact Oh he
 ·cases h
def gSl:V->Option (Nat×(Nat->V))
 | .sl s n g=>match Nat.beq s 6 with
  | true=>some (n,g)
  | false=>match n with
   | 0=>some (0,g)
   | _=>none
 | .slr s n _ g=>match Nat.beq s 6 with
  | true=>some (n,g)
  | false=>none
 | _=>none
def apL {α:Type} (v:V) (F:Nat->(Nat->E6)->T α):T α :=
 match gSl v with
 | some (n,g)=>.br (Bo n λi=>okE (g i)) (F n λi=>edE (g i)) .fail
 | none=>.fail
def AN (n:Nat) (f:Nat->E6):V:=.sl 6 n λi=>eV (f i)
theorem CG {α:Type} {v:V} {F:Nat->(Nat->E6)->T α} {r:α} (h:(apL v F).sem=some r) :
  ∃ n f,(∀ (S:Nat->Prop) (w:World) (c:Value),VR S w v noK c->VR S w (AN n f) noK c)∧(F n f).sem=some r:=by
 unfold apL at h;split at h
 ·rename_i n g hg
  obtain ⟨h1,h2⟩:=Ad h;have h1:=AO.1 h1;refine ⟨n,_,λS w c hv=>?_,h2⟩;unfold gSl at hg;split at hg
  ·rename_i s n' g'
   split at hg
   ·rename_i hs
    simp only [Option.some.injEq,Prod.mk.injEq] at hg;obtain ⟨rfl,rfl⟩:=hg;have hs:s=6:=Nat.eq_of_beq_eq_true hs;subst hs;obtain ⟨a,cap,e,hc,hb⟩:=hv;refine ⟨a,cap,e,hc,hb.imp id ?_⟩
    rintro ⟨b,o,ea,hel⟩
    refine ⟨b,o,ea,λi hi=>?_⟩;have:=hel i hi;rw [OH (h1 i hi)] at this;exact this
   ·split at hg
    ·simp only [Option.some.injEq,Prod.mk.injEq] at hg
     obtain ⟨rfl,rfl⟩:=hg;obtain ⟨a,cap,e,hc,_⟩:=hv;exact ⟨a,cap,e,hc,.inl rfl⟩
    ·cases hg
  ·rename_i s n' m' g'
   split at hg
   ·rename_i hs
    simp only [Option.some.injEq,Prod.mk.injEq] at hg;obtain ⟨rfl,rfl⟩:=hg;have hs:s=6:=Nat.eq_of_beq_eq_true hs;subst hs;obtain ⟨a,cap,e,hc,hm,hb⟩:=hv;refine ⟨a,cap,e,Nat.le_trans hc hm,?_⟩;rcases hb with h0 | ⟨b,o,ea,hel⟩
    ·exact .inl (by omega)
    ·refine .inr ⟨b,o,ea,λi hi=>?_⟩
     have:=hel i (by omega);rw [OH (h1 i hi)] at this;exact this
   ·cases hg
  ·cases hg
 ·cases h
def HL (F:Nat->(Nat->E6)->AA):List V->AA
 | [v]=>apL v F
 | _=>.fail
def AlR (F:Nat->(Nat->E6)->Nat->(Nat->E6)->AA):List V->AA
 | [v,u]=>apL v λn f=>apL u λm g=>F n f m g
 | _=>.fail
theorem DC {F:Nat->(Nat->E6)->AA} {vs:List V} {r:V×List Blk} (h:(HL F vs).sem=some r):∃ n f,Bw vs [AN n f]∧(F n f).sem=some r:=by
 unfold HL at h;split at h
 ·obtain ⟨n,f,h1,h2⟩:=CG h
  refine ⟨n,f,λS w cs hv=>?_,h2⟩;obtain ⟨c,l,rfl,q1,q2⟩:=hv;exact ⟨c,l,rfl,h1 S w c q1,q2⟩
 ·cases h
theorem R7 {F:Nat->(Nat->E6)->Nat->(Nat->E6)->AA} {vs:List V} {r:V×List Blk} (h:(AlR F vs).sem=some r) :
  ∃ n f m g,Bw vs [AN n f,AN m g]∧(F n f m g).sem=some r:=by
 unfold AlR at h;split at h
 ·obtain ⟨n,f,h1,h2⟩:=CG h
  obtain ⟨m,g,h3,h4⟩:=CG h2;refine ⟨n,f,m,g,λS w cs hv=>?_,h4⟩;obtain ⟨c,l,rfl,q1,c',l',rfl,q2,q3⟩:=hv;exact ⟨c,_,rfl,h1 S w c q1,c',l',rfl,h3 S w c' q2,q3⟩
 ·cases h
theorem A5 {i n:Nat} (h:i<n) (hn:n <= 4611686018427387904):wr .i64 (Ai (ofNat i) 1)=ofNat (i+1):=by
 unfold wr Ai IntKind.wrap;simp [IntKind.bits,IntKind.signed];omega
theorem ofNat_lt {i n:Nat} (h:i<n):ilt (ofNat i) (ofNat n)=true:=by simp [ilt]; omega
theorem Az {i n:Nat} (h:n <= i):ilt (ofNat i) (ofNat n)=false:=by simp [ilt]; omega
theorem Ae {i n:Nat} (h:i<n):Ak (ile 0 (ofNat i)) (ilt (ofNat i) (ofNat n))=true:=by rw [ofNat_lt h]; simp [Ak,ile]
noncomputable def cx9 (l:List (Nat×Lp)):Cx:=AT Gl tb8 l
def M3 (n:Nat):Lp:=⟨bmK 26 0 [0,1,4,5],0,bmK 26 0 [0,1,4],0,n+1⟩
def Qn (n m:Nat) (i:Int) (f g:Nat->E6) (j:Nat->V):St:=⟨jsV 26 0 j [(0,.sl 6 n λi=>eV (f i)),(1,.sl 6 m λi=>eV (g i)),(4,bV false),(5,iV i)],[]⟩
def Vm (n m:Nat) (f g:Nat->E6):St:=⟨jsV 26 0 Ab [(0,.sl 6 n λi=>eV (f i)),(1,.sl 6 m λi=>eV (g i)),(4,bV false)],[]⟩
noncomputable def Ix (L:LT):St->T (Ex×St):=λst=>AK tab ⟨A2 tb8,L,Gl⟩ (A3 Tryz.f43 0) 0 st
section
variable (L:LT) (n m i:Nat) (f g:Nat->E6) (j:Nat->V)
include L n m i f g j
theorem Abp:((Ix L (Qn n m (ofNat i) f g j)).bind λr=>T.leaf (r.1,Hv [true,true,false,false,true,false,false,false,false,false,false,false,false,false,false,false,false,false,false,false,false,false,false,false,false,false] 0 r.2)).path [false]=some ([ilt (ofNat i) (ofNat n)],(.ex 0,Vm n m f g)):=by kernel_rfl
theorem Abo:((Ix L (Qn n m (ofNat i) f g j)).bind λr=>T.leaf (r.1,Hv [true,true,false,false,true,false,false,false,false,false,false,false,false,false,false,false,false,false,false,false,false,false,false,false,false,false] 0 r.2)).path [true,true,true,true] =
  some ([ilt (ofNat i) (ofNat n),Ak (ile 0 (ofNat i)) (ilt (ofNat i) (ofNat n)),Ak (ile 0 (ofNat i)) (ilt (ofNat i) (ofNat m)),AV (eqE (f i) (g i))],(.rt,Vm n m f g)):=by kernel_rfl
theorem Zw:((Ix L (Qn n m (ofNat i) f g j)).bind λr=>T.leaf (r.1,Hv [true,true,false,false,true,true,false,false,false,false,false,false,false,false,false,false,false,false,false,false,false,false,false,false,false,false] 0 r.2)).path [true,true,true,false] =
  some ([ilt (ofNat i) (ofNat n),Ak (ile 0 (ofNat i)) (ilt (ofNat i) (ofNat n)),Ak (ile 0 (ofNat i)) (ilt (ofNat i) (ofNat m)),AV (eqE (f i) (g i))],
   (.nm,Qn n m (wr .i64 (Ai (ofNat i) 1)) f g λ_=>.und)):=by kernel_rfl
end
def G9 (f g:Nat->E6):Nat->Nat->Bool
 | 0,_=>true
 | d+1,i=>match eqE (f i) (g i) with
  | true=>G9 f g d (i+1)
  | false=>false
theorem Uh (L:LT) (n m:Nat) (f g:Nat->E6) (hm:n=m) (hn:n <= 4611686018427387904):∀ (d i:Nat) (j:Nat->V) (q:Nat),n=i+d->d<q ->
  (A4 (Ix L) (M3 n) q (Qn n m (ofNat i) f g j)).sem=some (match G9 f g d i with | true=>.ex 0 | false=>.rt,Vm n m f g)
 | 0,i,j,q+1,h1,_=>by
  have h3:(A4 (Ix L) (M3 n) (q+1) (Qn n m (ofNat i) f g j)).sem=some (.ex 0,Vm n m f g):=UJ (Abp L n m i f g j) (by rw [Az (by omega)]) (λh=>by cases h);exact h3
 | d+1,i,j,q+1,h1,h2=>by
  have hi:i<n:=by omega
  have hi':i<m:=by omega
  unfold G9;cases hc:eqE (f i) (g i) with
  | true =>
   have h3:(A4 (Ix L) (M3 n) (q+1) (Qn n m (ofNat i) f g j)).sem=(A4 (Ix L) (M3 n) q (Qn n m (wr .i64 (Ai (ofNat i) 1)) f g λ_=>.und)).sem :=
    ZU (Zw L n m i f g j) (by rw [Ae hi,Ae hi',ofNat_lt hi,hc]; rfl)
   rw [h3,A5 hi hn];exact Uh L n m f g hm hn d (i+1) Ab q (by omega) (by omega)
  | false =>have h3:(A4 (Ix L) (M3 n) (q+1) (Qn n m (ofNat i) f g j)).sem=some (.rt,Vm n m f g):=UJ (Abo L n m i f g j) (by rw [Ae hi,Ae hi',ofNat_lt hi,hc]; rfl) (λh=>by cases h);exact h3
def EH (n:Nat) (f:Nat->E6) (m:Nat) (g:Nat->E6):Bool:=sel (ieq (ofNat n) (ofNat m)) (G9 f g n 0) false
def AoB (n m:Nat) (f g:Nat->E6):Nat->V:=lkV AH [(6,AN n f),(7,nV n),(8,AN m g),(9,nV m),(10,bV (AV (ieq (ofNat n) (ofNat m))))]
theorem Abq (n m:Nat) (f g:Nat->E6) (L:LT):Ay (Aj tab ⟨A2 tb8,L,Gl⟩ Tryz.f43 [AN n f,AN m g] []) =
  Ay (Aj tab ⟨A2 tb8,λ_ _ _=>L 0 (Ix L) (Qn n m 0 f g (AoB n m f g)),Gl⟩ Tryz.f43 [AN n f,AN m g] []):=by kernel_rfl
theorem Afg (n m:Nat) (f g:Nat->E6) (L:LT):(Ay (Aj tab ⟨A2 tb8,L,Gl⟩ Tryz.f43 [AN n f,AN m g] [])).path [true] =
  some ([AV (ieq (ofNat n) (ofNat m))],(bV false,[])):=by kernel_rfl
theorem Afh (n m:Nat) (f g:Nat->E6):(Ay (Aj tab ⟨A2 tb8,λ_ _ _=>.leaf (.ex 0,Vm n m f g),Gl⟩ Tryz.f43 [AN n f,AN m g] [])).path [false] =
  some ([AV (ieq (ofNat n) (ofNat m))],(bV true,[])):=by kernel_rfl
theorem Aff (n m:Nat) (f g:Nat->E6):(Ay (Aj tab ⟨A2 tb8,λ_ _ _=>.leaf (.rt,Vm n m f g),Gl⟩ Tryz.f43 [AN n f,AN m g] [])).path [false] =
  some ([AV (ieq (ofNat n) (ofNat m))],(bV false,[])):=by kernel_rfl
theorem Abr (n m:Nat) (f g:Nat->E6) (hn:n <= 4611686018427387904):(Ay (Aj tab (cx9 [(0,M3 n)]) Tryz.f43 [AN n f,AN m g] [])).sem=some (bV (EH n f m g),[]):=by
 unfold EH;cases hc:ieq (ofNat n) (ofNat m) with
 | false=>exact AD (Afg n m f g _) (by rw [hc]; rfl)
 | true =>
  have h0:ofNat n=ofNat m:=by simpa only [ieq,beq_iff_eq] using hc
  have hm:n=m:=Int.ofNat.inj h0;have h1:=Uh (Cb [(0,M3 n)]) n m f g hm hn n 0 (AoB n m f g) (n+1) (by omega) (by omega);have h2:=Abq n m f g (Cb [(0,M3 n)]);have h3:(Ay (Aj tab (cx9 [(0,M3 n)]) Tryz.f43 [AN n f,AN m g] [])).sem=(Ay (Aj tab ⟨A2 tb8,λ_ _ _=>.leaf (match G9 f g n 0 with | true=>.ex 0 | false=>.rt,Vm n m f g),Gl⟩ Tryz.f43 [AN n f,AN m g] [])).sem:=by
   refine (congrArg T.sem h2).trans (Og λid _ _ _ _=>?_);exact h1
  rw [h3];cases G9 f g n 0 with
  | true=>exact AD (Afh n m f g) (by rw [hc]; rfl)
  | false=>exact AD (Aff n m f g) (by rw [hc]; rfl)
def Au (n:Nat):Bool:=decide (n <= 4611686018427387904)
def Uj:List V->AA:=AlR λn f m g=>.br (Au n) (out (bV (EH n f m g))) .fail
theorem p36:As Tryz.prog Gl 43 Uj:=by
 refine Am A0 mixed Tryz.func43 (by kernel_rfl) (by kernel_rfl) λvs v h' h=>?_;obtain ⟨n,f,m,g,ha,h⟩:=R7 h;obtain ⟨hn,h⟩:=Ad h;have:=Aa h;simp only [Prod.mk.injEq] at this;obtain ⟨rfl,rfl⟩:=this;have hx:=Bs Mm [(0,M3 n)];exact ⟨_,cx9 [(0,M3 n)],_,ha,rfl,hx.1,hx.2,Abr n m f g (of_decide_eq_true hn),Aw.refl _⟩
end Go.Proofs.YtkbafjceglhjhaaGreatDoor.Ed
namespace Go.Proofs.YtkbafjceglhjhaaGreatDoor.Ed
open Go.Sy
def Dg (n:Nat):Bool:=decide (n * 40 <= 140737488355328)
end Go.Proofs.YtkbafjceglhjhaaGreatDoor.Ed
namespace Go.Proofs.YtkbafjceglhjhaaGreatDoor.Ed
open Go.Sy
theorem allT_some {vs:List V} {r:V×List Blk} (h:(allT vs).sem=some r):∃ a,vs=[iV a]∧((a=1∧r=(.tup [.ref 0,iV 0],[.row 76 6 22 λi=>eV (AgX 1 i)])) ∨ (a=2∧r=(.tup [.ref 0,iV 0],[.row 76 6 104 λi=>eV (AgX 2 i)])) ∨
  (AV (BE a)=true∧r=(.tup [.ref 0,iV 1],[.row 76 6 0 λ_=>.und]))):=by
 obtain ⟨a,rfl,h⟩:=PX Ny h;refine ⟨a,rfl,?_⟩;have h:sel (ieq a 1) (some _) (sel (ieq a 2) (some _) (some _))=some r:=h;cases h1:ieq a 1 with
 | true =>rw [h1] at h;have h:some _=some r:=h;exact .inl ⟨by simpa [ieq] using h1,(Option.some.inj h).symm⟩
 | false =>
  rw [h1] at h;cases h2:ieq a 2 with
  | true =>rw [h2] at h;have h:some _=some r:=h;exact .inr (.inl ⟨by simpa [ieq] using h2,(Option.some.inj h).symm⟩)
  | false =>rw [h2] at h;have h:some _=some r:=h;exact .inr (.inr ⟨by simp [BE,h1,h2,AV,bor],(Option.some.inj h).symm⟩)
noncomputable def tb10:AE:=(43,Uj)::(192,ap2 gI toE λa e=>out (OZ a e))::(151,ap2 gI toE λa e=>out (OZ a e))::tb8
theorem tb10_ok:Ar Tryz.prog Gl tb10:=.cons p36 <| .cons p32 <| .cons p33 Mm
end Go.Proofs.YtkbafjceglhjhaaGreatDoor.Ed
namespace Go.Proofs.YtkbafjceglhjhaaGreatDoor.Ed
open Go.Sy
end Go.Proofs.YtkbafjceglhjhaaGreatDoor.Ed
