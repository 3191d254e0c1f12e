/-
  Layer 3: texts, architectures, what must come. No conditions.
-/
import Derived.Test.YtkbafjceglhjhaaGreatDoorEdC
import Derived.Test.YtkbafjceglhjhaaGreatDoorCards
import Derived.Test.YtkbafjceglhjhaaGreatDoorTie
import Derived.ProofKit
import Derived.OpenShut
import Derived.Deep.DeepHandedRow
namespace Go.Proofs.YtkbafjceglhjhaaGreatDoor.Ed
open Go.Sy
noncomputable def tb5:A7:=(80,BX JZ)::tb3
theorem tb5_ok:Ao Tryz.prog Gl tb5:=.cons p27<|tb3_ok
noncomputable def cx5:Cx:=AO Gl tb5 [(0,⟨[],1,[],1,113⟩)]
def Rn (s:List UInt8):Nat->Nat->Option Nat
 | 0,_=>none
 | m+1,k=>match seq (IV k) s with
  | true=>some k
  | false=>Rn s m (Nat.succ k)
def FG (s:List UInt8):E6:=match Rn s 112 0 with
 | some k=>Du k
 | none=>Gn
def FF (s:List UInt8):Int:=match Rn s 112 0 with
 | some _=>0
 | none=>30
def O9 (s:List UInt8):Nat->Nat->Option (V×List Blk)
 | 0,_=>some (.tup [eV Gn,iV 30],[])
 | m+1,k=>sel (seq (IV k) s) (some (.tup [eV (Du k),iV 0],[])) (O9 s m (Nat.succ k))
theorem QP (s:List UInt8):∀ m k,O9 s m k=match Rn s m k with
  | some j=>some (.tup [eV (Du j),iV 0],[])
  | none=>some (.tup [eV Gn,iV 30],[])
 | 0,k=>rfl
 | m+1,k=>by
  simp only [O9,Rn];cases h:seq (IV k) s with
  | true=>rfl
  | false=>exact QP s m (Nat.succ k)
theorem WO (s:List UInt8):O9 s 112 0=some (.tup [eV (FG s),iV (FF s)],[]):=by
 rw [QP];unfold FG FF;cases Rn s 112 0 <;> rfl
theorem Agt (s:List UInt8):(A0 (Aj tab cx5 Tryz.f106 [.str s] [])).sem=O9 s 112 0:=by kernel_rfl
def NZ (f:List UInt8->V):List V->A5
 | [v]=>match gS v with
  | some e=>.leaf (f e,[])
  | none=>.fail
 | _=>.fail
theorem Wd {f:List UInt8->V} {vs:List V} {r:V×List Blk} (h:(NZ f vs).sem=some r):∃ e,vs=[.str e]∧r=(f e,[]):=by
 unfold NZ at h;split at h
 ·split at h
  ·rename_i v e hn
   exact ⟨e,by rw [YS hn],Ab h⟩
  ·cases h
 ·cases h
def OA (s:List UInt8):V:=.tup [eV (FG s),iV (FF s)]
theorem p22:Ap Tryz.prog Gl 106 (NZ OA):=by
 refine Ap.congr (AM A2 mixed Tryz.func106 (by kernel_rfl) (by kernel_rfl) (Γ:=cx5) (Bh tb5_ok _)) λvs r h=>?_;obtain ⟨e,rfl,rfl⟩:=Wd h;exact (Agt e).trans (WO e)
noncomputable def tb6:A7:=(106,NZ OA)::tb5
theorem Od:Ao Tryz.prog Gl tb6:=.cons p22 tb5_ok
noncomputable def cx6:Cx:=AO Gl tb6 []
noncomputable def tb7:A7:=tb6
theorem Ak7:Ao Tryz.prog Gl tb7:=Od
theorem H9 (a:List UInt8):seq a a=true:=by simp [seq]
theorem Vf (a:Int):ieq a a=true:=by simp [ieq]
end Go.Proofs.YtkbafjceglhjhaaGreatDoor.Ed
namespace Go.Proofs.YtkbafjceglhjhaaGreatDoor.Ed
open Go.Sy
set_option maxRecDepth 100000
theorem own:ownKnob Tryz.prog.godebug=none:=by kernel_rfl
theorem YA:laidOutB Tryz.prog=true:=by kernel_rfl
def XA (e:E6):List Value:=[.int .i64 e.kind,.bool e.ext,.bool e.same,.int .i64 e.src,.int .i64 e.dst,.int .i64 e.fence]
section
variable {H:Type} {enc:TypeId×Value->H} {W:World} {sp:Nat->Bool} {held:Bool} {r:Reach} {b0:Nat} {v:Value} {d:DataW H} {ps:List MemPlace}
theorem HG {c d:Value} {cs:List Value} (h:cs=[d]) (hc:[c]=cs):c=d:=by
 subst h;simpa using hc
theorem X5 (fuel:Nat) (cs:List Value) (x:DataW H×List MemPlace) (h:DataW.trod enc Tryz.prog W 0 sp held fuel 76 cs=some x):∃ e:E6,cs=XA e:=by
 obtain ⟨xs,n,_,_,hl,hx,hf⟩:=DataW.trod_struct Tryz.underlying76 h;have hl:cs.length=6:=hl.trans (by kernel_rfl);have hx:xs.length=6:=hx;obtain ⟨c0,c1,c2,c3,c4,c5,rfl⟩:∃ a b c d e f,cs=[a,b,c,d,e,f]:=by
  match cs,hl with
  | [a,b,c,d,e,f],_=>exact ⟨a,b,c,d,e,f,rfl⟩
 have get:∀ (i:Nat) (f:Field),#[({ name := "Kind",type:=3,offset:=0,embedded:=false,tag := "",pkgPath := "",byteOffset:=0 }:Field),
    { name := "Ext",type:=4,offset:=1,embedded:=false,tag := "",pkgPath := "",byteOffset:=8 },
    { name := "Same",type:=4,offset:=2,embedded:=false,tag := "",pkgPath := "",byteOffset:=9 },
    { name := "Src",type:=3,offset:=3,embedded:=false,tag := "",pkgPath := "",byteOffset:=16 },
    { name := "Dst",type:=3,offset:=4,embedded:=false,tag := "",pkgPath := "",byteOffset:=24 },
    { name := "Fence",type:=3,offset:=5,embedded:=false,tag := "",pkgPath := "",byteOffset:=32 }][i]? = some f->i<6 ->
   ∃ y,DataW.trod enc Tryz.prog W 0 sp held n f.type (([c0,c1,c2,c3,c4,c5].drop f.offset).take (Tryz.prog.cellsOf f.type))=some y:=by
  intro i f hi hlt;have:=hf i f hi;rw [List.getElem?_eq_getElem (by omega)] at this;exact ⟨_,this⟩
 have n3:Tryz.prog.cellsOf 3=1:=by kernel_rfl
 have n4:Tryz.prog.cellsOf 4=1:=by kernel_rfl
 obtain ⟨y0,g0⟩:=get 0 _ rfl (by omega);obtain ⟨y1,g1⟩:=get 1 _ rfl (by omega);obtain ⟨y2,g2⟩:=get 2 _ rfl (by omega);obtain ⟨y3,g3⟩:=get 3 _ rfl (by omega);obtain ⟨y4,g4⟩:=get 4 _ rfl (by omega);obtain ⟨y5,g5⟩:=get 5 _ rfl (by omega);have g0:DataW.trod enc Tryz.prog W 0 sp held n 3 (([c0,c1,c2,c3,c4,c5].drop 0).take (Tryz.prog.cellsOf 3))=some y0:=g0;rw [n3] at g0;have g1:DataW.trod enc Tryz.prog W 0 sp held n 4 (([c0,c1,c2,c3,c4,c5].drop 1).take (Tryz.prog.cellsOf 4))=some y1:=g1;rw [n4] at g1;have g2:DataW.trod enc Tryz.prog W 0 sp held n 4 (([c0,c1,c2,c3,c4,c5].drop 2).take (Tryz.prog.cellsOf 4))=some y2:=g2;rw [n4] at g2;have g3:DataW.trod enc Tryz.prog W 0 sp held n 3 (([c0,c1,c2,c3,c4,c5].drop 3).take (Tryz.prog.cellsOf 3))=some y3:=g3;rw [n3] at g3;have g4:DataW.trod enc Tryz.prog W 0 sp held n 3 (([c0,c1,c2,c3,c4,c5].drop 4).take (Tryz.prog.cellsOf 3))=some y4:=g4;rw [n3] at g4;have g5:DataW.trod enc Tryz.prog W 0 sp held n 3 (([c0,c1,c2,c3,c4,c5].drop 5).take (Tryz.prog.cellsOf 3))=some y5:=g5;rw [n3] at g5;obtain ⟨a0,e0,_⟩:=DataW.trod_int Tryz.underlying3 g0;obtain ⟨a1,e1,_⟩:=DataW.trod_bool Tryz.underlying4 g1;obtain ⟨a2,e2,_⟩:=DataW.trod_bool Tryz.underlying4 g2;obtain ⟨a3,e3,_⟩:=DataW.trod_int Tryz.underlying3 g3;obtain ⟨a4,e4,_⟩:=DataW.trod_int Tryz.underlying3 g4;obtain ⟨a5,e5,_⟩:=DataW.trod_int Tryz.underlying3 g5;have e0:c0 = .int .i64 a0:=HG e0 rfl;have e1:c1 = .bool a1:=HG e1 rfl;have e2:c2 = .bool a2:=HG e2 rfl;have e3:c3 = .int .i64 a3:=HG e3 rfl;have e4:c4 = .int .i64 a4:=HG e4 rfl;have e5:c5 = .int .i64 a5:=HG e5 rfl;exact ⟨⟨a0,a1,a2,a3,a4,a5⟩,by rw [e0,e1,e2,e3,e4,e5]; rfl⟩
theorem Aic (S:Nat->Prop) (w:World) (κ:Ax) (e:E6):VR S w (eV e) κ (.agg (XA e).toArray) :=
 ⟨_,rfl,_,_,rfl,rfl,_,_,rfl,rfl,_,_,rfl,rfl,_,_,rfl,rfl,_,_,rfl,rfl,_,_,rfl,rfl,rfl⟩
def AjE (W:World) (v:Value) (u:V):Prop:=VR (N4 W) W u noK v
theorem WH (hval:Value.okWide Tryz.prog W r b0 9 v) (h:DataW.Trod enc Tryz.prog W 0 sp held 9 v d ps):∃ s:List UInt8,AjE W v (.str s)∧s.length <= maxLen∧d = .lit (.string s):=by
 obtain ⟨s,rfl,hd,_,hs⟩:=ChangeMaps.open_string Tryz.underlying9 hval h;exact ⟨s.data.toList,rfl,hs,hd⟩
instance:Inhabited E6:=⟨Gn⟩
end
noncomputable def My (os:Os):World :=
 { World.holding Tryz.prog os ⟨#[],#[],[]⟩ with heap:=(World.holding Tryz.prog os ⟨#[],#[],[]⟩).heap.mapIdx λi o=>match o with
   | .cells cs t frozen=>.cells (match i with
    | 0=>(T0.map λz=>Value.string ⟨z.toArray⟩).toArray
    | 1=>(Zh.map λz=>Value.string ⟨z.toArray⟩).toArray
    | 2=>(Yd.map λz=>Value.string ⟨z.toArray⟩).toArray
    | 3=>(Za.map λz=>Value.string ⟨z.toArray⟩).toArray
    | 5=>((List.range 20).map λk=>Value.int .u64 ((10 ^ k:Nat):Int)).toArray
    | 6=>([0,1,28,2,29,14,24,3,30,22,20,15,25,17,4,8,31,27,13,23,21,19,16,7,26,12,18,6,11,5,10,9].map λz:Nat=>Value.int .u8 (z:Int)).toArray
    | 7=>([0,1,56,2,57,49,28,3,61,58,42,50,38,29,17,4,62,47,59,36,45,43,51,22,53,39,33,30,24,18,12,5,63,55,48,27,60,41,37,16,46,35,44,21,52,32,23,11,54,26,40,15,34,20,31,10,25,14,19,9,13,8,7,6].map λz:Nat=>Value.int .u8 (z:Int)).toArray
    | _=>cs) t frozen
   | o=>o }
end Go.Proofs.YtkbafjceglhjhaaGreatDoor.Ed
namespace Go.Proofs.YtkbafjceglhjhaaGreatDoor.Ed
open Go.Sy
set_option maxRecDepth 100000
theorem AsS {W:World} (hL:laidMetH Tryz.prog Rows.emitrHangsRow.laid W):TQ Gl (N4 W) W:=by
 have hL:laidMet Tryz.prog [("alembic/edge.comms",.agg (T0.map λz=>.lit (.string z))),("alembic/edge.ends",.agg (Za.map λz=>.lit (.string z))),("alembic/edge.sets",.agg (Yd.map λz=>.lit (.string z))),("alembic/edge.deps",.agg (Zh.map λz=>.lit (.string z))),("math/bits.deBruijn32tab",Rows.laid_math_bits_deBruijn32tab),("math/bits.deBruijn64tab",Rows.laid_math_bits_deBruijn64tab),("internal/strconv.uint64pow10",Rows.laid_internal_strconv_uint64pow10)] W:=hL;obtain ⟨ps,hv,_,_⟩:=hL;obtain ⟨h0,q0,hv⟩:=KI (g:=0) (t:=197) (e:=9) (n:=6) (by kernel_rfl) (by kernel_rfl) (by kernel_rfl) (by kernel_rfl) (by kernel_rfl) (by kernel_rfl) hv;obtain ⟨h3,q3,hv⟩:=KI (g:=3) (t:=200) (e:=9) (n:=4) (by kernel_rfl) (by kernel_rfl) (by kernel_rfl) (by kernel_rfl) (by kernel_rfl) (by kernel_rfl) hv;obtain ⟨h2,q2,hv⟩:=KI (g:=2) (t:=199) (e:=9) (n:=9) (by kernel_rfl) (by kernel_rfl) (by kernel_rfl) (by kernel_rfl) (by kernel_rfl) (by kernel_rfl) hv;obtain ⟨h1,q1,hv⟩:=KI (g:=1) (t:=198) (e:=9) (n:=10) (by kernel_rfl) (by kernel_rfl) (by kernel_rfl) (by kernel_rfl) (by kernel_rfl) (by kernel_rfl) hv;intro g
 match g with
 | 0=>exact h0
 | 1=>exact h1
 | 2=>exact h2
 | 3=>exact h3
 | n+4=>trivial
end Go.Proofs.YtkbafjceglhjhaaGreatDoor.Ed
namespace Go.Proofs.YtkbafjceglhjhaaGreatDoor.Ed
open Go.Sy
def ap1 {α:Type} (d:V->Option α) (F:α->A5):List V->A5
 | [v]=>match d v with
  | some a=>F a
  | none=>.fail
 | _=>.fail
def ap2 {α β:Type} (d:V->Option α) (e:V->Option β) (F:α->β->A5):List V->A5
 | [v,u]=>match d v,e u with
  | some a,some b=>F a b
  | _,_=>.fail
 | _=>.fail
theorem PU {α:Type} {d:V->Option α} {c:α->V} (hd:∀ v a,d v=some a->v=c a) {F:α->A5} {vs:List V} {r:V×List Blk} (h:(ap1 d F vs).sem=some r) :
  ∃ a,vs=[c a]∧(F a).sem=some r:=by
 unfold ap1 at h;split at h
 ·split at h
  ·rename_i v _ a ha
   exact ⟨a,by rw [hd v a ha],h⟩
  ·cases h
 ·cases h
theorem LS {α β:Type} {d:V->Option α} {e:V->Option β} {c:α->V} {c':β->V} (hd:∀ v a,d v=some a->v=c a) (he:∀ v b,e v=some b->v=c' b) {F:α->β->A5}
  {vs:List V} {r:V×List Blk} (h:(ap2 d e F vs).sem=some r):∃ a b,vs=[c a,c' b]∧(F a b).sem=some r:=by
 unfold ap2 at h;split at h
 ·split at h
  ·rename_i v u _ _ a b ha hb
   exact ⟨a,b,by rw [hd v a ha,he u b hb],h⟩
  ·cases h
 ·cases h
theorem Np:∀ v a,gI v=some a->v=iV a:=λ_ _ h=>GV h
theorem Wb:∀ v a,toE v=some a->v=eV a:=λ_ _ h=>NX h
def out (v:V):A5:=.leaf (v,[])
def BE (a:Int):Bool:=bor (ieq a 1) (ieq a 2)
def FM (a n:Int):Bool:=bor (ilt n 14) (JR (ilt n 22) (ieq a 1))
def Vi (a:Int) (e:E6):Bool :=
 bor (ieq e.kind 1) (bor (ieq e.kind 2) (bor (ieq e.kind 3) (bor (ieq e.kind 4) (sel (ieq e.kind 5) (JR (ieq e.fence 1) (ieq a 1)) (ieq a 2)))))
theorem Ahw (a:Int):(A0 (Aj tab cx6 Tryz.f195 [iV a] [])).sem=some (bV (BE a),[]):=by
 have h1:(A0 (Aj tab cx6 Tryz.f195 [iV a] [])).path [true,true,true]=some ([ieq a 1,ieq a 1,ieq a 1],(bV true,[])):=by kernel_rfl
 have h2:(A0 (Aj tab cx6 Tryz.f195 [iV a] [])).path [false,false,false]=some ([ieq a 1,ieq a 1,ieq a 1],(bV (ieq a 2),[])):=by kernel_rfl
 unfold BE;cases h:ieq a 1 with
 | true=>exact AG h1 (by rw [h])
 | false=>exact AG h2 (by rw [h])
theorem Ahv (a:Int):(A0 (Aj tab cx6 Tryz.f183 [iV a] [])).sem=some (bV (BE a),[]):=by
 have h1:(A0 (Aj tab cx6 Tryz.f183 [iV a] [])).path [true,true,true]=some ([ieq a 1,ieq a 1,ieq a 1],(bV true,[])):=by kernel_rfl
 have h2:(A0 (Aj tab cx6 Tryz.f183 [iV a] [])).path [false,false,false]=some ([ieq a 1,ieq a 1,ieq a 1],(bV (ieq a 2),[])):=by kernel_rfl
 unfold BE;cases h:ieq a 1 with
 | true=>exact AG h1 (by rw [h])
 | false=>exact AG h2 (by rw [h])
theorem Ahp (a n:Int):(A0 (Aj tab cx6 Tryz.f196 [iV a,iV n] [])).sem=some (bV (FM a n),[]):=by
 have h1:(A0 (Aj tab cx6 Tryz.f196 [iV a,iV n] [])).path [true]=some ([ilt n 14],(bV true,[])):=by kernel_rfl
 have h2:(A0 (Aj tab cx6 Tryz.f196 [iV a,iV n] [])).path [false]=some ([ilt n 14],(bV (JR (ilt n 22) (ieq a 1)),[])):=by kernel_rfl
 unfold FM;cases h:ilt n 14 with
 | true=>exact AG h1 (by rw [h])
 | false=>exact AG h2 (by rw [h])
theorem Aqm (a:Int) (e:E6):(A0 (Aj tab cx6 Tryz.f184 [iV a,eV e] [])).sem=some (bV (Vi a e),[]):=by
 have h1:(A0 (Aj tab cx6 Tryz.f184 [iV a,eV e] [])).path [true,true]=some ([ieq e.kind 1,ieq e.kind 1],(bV true,[])):=by kernel_rfl
 have h2:(A0 (Aj tab cx6 Tryz.f184 [iV a,eV e] [])).path [false,true,true]=some ([ieq e.kind 1,ieq e.kind 2,ieq e.kind 2],(bV true,[])):=by kernel_rfl
 have h3:(A0 (Aj tab cx6 Tryz.f184 [iV a,eV e] [])).path [false,false,true,true]=some ([ieq e.kind 1,ieq e.kind 2,ieq e.kind 3,ieq e.kind 3],(bV true,[])):=by kernel_rfl
 have h4:(A0 (Aj tab cx6 Tryz.f184 [iV a,eV e] [])).path [false,false,false,true]=some ([ieq e.kind 1,ieq e.kind 2,ieq e.kind 3,ieq e.kind 4],(bV true,[])):=by kernel_rfl
 have h5:(A0 (Aj tab cx6 Tryz.f184 [iV a,eV e] [])).path [false,false,false,false,true]=some ([ieq e.kind 1,ieq e.kind 2,ieq e.kind 3,ieq e.kind 4,ieq e.kind 5],(bV (JR (ieq e.fence 1) (ieq a 1)),[])):=by kernel_rfl
 have h6:(A0 (Aj tab cx6 Tryz.f184 [iV a,eV e] [])).path [false,false,false,false,false]=some ([ieq e.kind 1,ieq e.kind 2,ieq e.kind 3,ieq e.kind 4,ieq e.kind 5],(bV (ieq a 2),[])):=by kernel_rfl
 unfold Vi;cases c1:ieq e.kind 1 with
 | true=>exact AG h1 (by rw [c1])
 | false =>
 cases c2:ieq e.kind 2 with
 | true=>exact AG h2 (by rw [c1,c2])
 | false =>
 cases c3:ieq e.kind 3 with
 | true=>exact AG h3 (by rw [c1,c2,c3])
 | false =>
 cases c4:ieq e.kind 4 with
 | true=>exact AG h4 (by rw [c1,c2,c3,c4])
 | false =>
 cases c5:ieq e.kind 5 with
 | true=>exact AG h5 (by rw [c1,c2,c3,c4,c5])
 | false=>exact AG h6 (by rw [c1,c2,c3,c4,c5])
theorem p77:Ap Tryz.prog Gl 195 (ap1 gI λa=>out (bV (BE a))):=by
 refine Ap.congr (AM A2 mixed Tryz.func195 (by kernel_rfl) (by kernel_rfl) (Γ:=cx6) (Bh Od _)) λvs r h=>?_;obtain ⟨a,rfl,h⟩:=PU Np h;rw [Ab h];exact Ahw a
theorem p79:Ap Tryz.prog Gl 183 (ap1 gI λa=>out (bV (BE a))):=by
 refine Ap.congr (AM A2 mixed Tryz.func183 (by kernel_rfl) (by kernel_rfl) (Γ:=cx6) (Bh Od _)) λvs r h=>?_;obtain ⟨a,rfl,h⟩:=PU Np h;rw [Ab h];exact Ahv a
theorem p78:Ap Tryz.prog Gl 196 (ap2 gI gI λa n=>out (bV (FM a n))):=by
 refine Ap.congr (AM A2 mixed Tryz.func196 (by kernel_rfl) (by kernel_rfl) (Γ:=cx6) (Bh Od _)) λvs r h=>?_;obtain ⟨a,n,rfl,h⟩:=LS Np Np h;rw [Ab h];exact Ahp a n
theorem p80:Ap Tryz.prog Gl 184 (ap2 gI toE λa e=>out (bV (Vi a e))):=by
 refine Ap.congr (AM A2 mixed Tryz.func184 (by kernel_rfl) (by kernel_rfl) (Γ:=cx6) (Bh Od _)) λvs r h=>?_;obtain ⟨a,e,rfl,h⟩:=LS Np Wb h;rw [Ab h];exact Aqm a e
theorem Aa2 (k:Nat) (hk:k<112) (a:Int) (ha:BE a=true):Vi a (Du k)=FM a (Int.ofNat k):=by
 have h1:(List.range 112).map (λk:Nat=>Vi 1 (Du k))=(List.range 112).map λk:Nat=>FM 1 (Int.ofNat k):=by kernel_rfl
 have h2:(List.range 112).map (λk:Nat=>Vi 2 (Du k))=(List.range 112).map λk:Nat=>FM 2 (Int.ofNat k):=by kernel_rfl
 simp only [BE,bor,ieq,Bool.or_eq_true,beq_iff_eq] at ha;rcases ha with rfl | rfl
 ·exact Gm h1 k hk
 ·exact Gm h2 k hk
noncomputable def tb8:A7:=(195,ap1 gI λa=>out (bV (BE a)))::(183,ap1 gI λa=>out (bV (BE a)))::(196,ap2 gI gI λa n=>out (bV (FM a n)))::(184,ap2 gI toE λa e=>out (bV (Vi a e)))::tb7
theorem Mf:Ao Tryz.prog Gl tb8:=.cons p77 <| .cons p79 <| .cons p78 <| .cons p80 Ak7
noncomputable def cx8:Cx:=AO Gl tb8 [(0,⟨[],2,[],2,113⟩)]
def Ks (a:Int) (e:E6):Bool:=sel (AQ (BE a)) false (sel (AQ (ieq (Be e) 0)) false (FM a (Cd e)))
def Ho (a:Int) (e:E6):Int:=sel (AQ (BE a)) 1 (Be e)
def OY (a:Int) (e:E6):V:=.tup [bV (Ks a e),iV (Ho a e)]
theorem Ahr (a:Int) (e:E6):(A0 (Aj tab cx8 Tryz.f192 [iV a,eV e] [])).sem=some (OY a e,[]):=by
 have h1:(A0 (Aj tab cx8 Tryz.f192 [iV a,eV e] [])).path [true]=some ([AQ (BE a)],(.tup [bV false,iV 1],[])):=by kernel_rfl
 have h2:(A0 (Aj tab cx8 Tryz.f192 [iV a,eV e] [])).path [false,true]=some ([AQ (BE a),AQ (ieq (Be e) 0)],(.tup [bV false,iV (Be e)],[])):=by kernel_rfl
 have h3:(A0 (Aj tab cx8 Tryz.f192 [iV a,eV e] [])).path [false,false]=some ([AQ (BE a),AQ (ieq (Be e) 0)],(.tup [bV (FM a (Cd e)),iV 0],[])):=by kernel_rfl
 unfold OY Ks Ho;cases c1:AQ (BE a) with
 | true=>exact AG h1 (by rw [c1])
 | false =>
 cases c2:AQ (ieq (Be e) 0) with
 | true=>exact AG h2 (by rw [c1,c2])
 | false =>
  have:Be e=0:=by simpa [AQ,ieq] using c2
  rw [this];exact AG h3 (by rw [c1,c2])
theorem Dk (e:E6):(∃ k:Nat,k<112∧Be e=0∧Cd e=Int.ofNat k∧Du k=e∧Cc e=IV k) ∨ (Be e=30∧Cd e=0∧Cc e=[]∧∀ k,k<112->Du k ≠ e):=by
 unfold Be Cd Cc;cases h:GX e 112 0 with
 | some k =>obtain ⟨_,h2,h3⟩:=I0 e 112 0 k h;exact .inl ⟨k,by omega,rfl,rfl,h3,rfl⟩
 | none =>
  refine .inr ⟨rfl,rfl,rfl,?_⟩;have:∀ m k,GX e m k=none->∀ j,k <= j->j<k+m->Du j ≠ e:=by
   intro m
   induction m with
   | zero=>intro k _ j h1 h2; omega
   | succ m ih =>
    intro k hn j h1 h2;simp only [GX] at hn;split at hn
    ·cases hn
    ·rename_i hne
     by_cases hj:j=k
     ·subst hj
      intro he;rw [(JB _ _).2 he] at hne;cases hne
     ·exact ih _ hn j (by omega) (by omega)
  exact λk hk=>this 112 0 h k (by omega) (by omega)
theorem Ahq (a:Int) (e:E6):(A0 (Aj tab cx8 Tryz.f151 [iV a,eV e] [])).sem=some (OY a e,[]):=by
 have h1:(A0 (Aj tab cx8 Tryz.f151 [iV a,eV e] [])).path [true]=some ([AQ (BE a)],(.tup [bV false,iV 1],[])):=by kernel_rfl
 have h2:(A0 (Aj tab cx8 Tryz.f151 [iV a,eV e] [])).path [false,true]=some ([AQ (BE a),AQ (ieq (Be e) 0)],(.tup [bV false,iV 30],[])):=by kernel_rfl
 have h3:(A0 (Aj tab cx8 Tryz.f151 [iV a,eV e] [])).path [false,false]=some ([AQ (BE a),AQ (ieq (Be e) 0)],(.tup [bV (Vi a e),iV 0],[])):=by kernel_rfl
 unfold OY Ks Ho;cases c1:AQ (BE a) with
 | true=>exact AG h1 (by rw [c1])
 | false =>
 rcases Dk e with ⟨k,hk,hf,hn,he,_⟩ | ⟨hf,_⟩
 ·have c2:AQ (ieq (Be e) 0)=false:=by rw [hf]; rfl
  have ha:BE a=true:=by simpa [AQ] using c1
  rw [c2,hf,hn,<- Aa2 k hk a ha,he];exact AG h3 (by rw [c1,c2])
 ·have c2:AQ (ieq (Be e) 0)=true:=by rw [hf]; rfl
  rw [c2,hf];exact AG h2 (by rw [c1,c2])
theorem p32:Ap Tryz.prog Gl 192 (ap2 gI toE λa e=>out (OY a e)):=by
 refine Ap.congr (AM A2 mixed Tryz.func192 (by kernel_rfl) (by kernel_rfl) (Γ:=cx8) (Bh Mf _)) λvs r h=>?_;obtain ⟨a,e,rfl,h⟩:=LS Np Wb h;rw [Ab h];exact Ahr a e
theorem p33:Ap Tryz.prog Gl 151 (ap2 gI toE λa e=>out (OY a e)):=by
 refine Ap.congr (AM A2 mixed Tryz.func151 (by kernel_rfl) (by kernel_rfl) (Γ:=cx8) (Bh Mf _)) λvs r h=>?_;obtain ⟨a,e,rfl,h⟩:=LS Np Wb h;rw [Ab h];exact Ahq a e
def Atd (a:Int):List E6:=((List.range 112).filter λk=>FM a (Int.ofNat k)).map Du
def AhX (a:Int) (i:Nat):E6:=(Atd a).getD i Gn
def allT:List V->A5:=ap1 gI λa =>
 .br (ieq a 1) (.leaf (.tup [.ref 0,iV 0],[.row 76 6 22 λi=>eV (AhX 1 i)])) <|
 .br (ieq a 2) (.leaf (.tup [.ref 0,iV 0],[.row 76 6 104 λi=>eV (AhX 2 i)])) (.leaf (.tup [.ref 0,iV 1],[.row 76 6 0 λ_=>.und]))
end Go.Proofs.YtkbafjceglhjhaaGreatDoor.Ed
namespace Go.Proofs.YtkbafjceglhjhaaGreatDoor.Ed
open Go.Sy
open Int (ofNat)
def okE (v:V):Bool:=match toE v with
 | some _=>true
 | none=>false
def edE (v:V):E6:=match toE v with
 | some e=>e
 | none=>Gn
def AV (n:Nat) (p:Nat->Bool):Bool:=(List.range n).all p
theorem A8 {n:Nat} {p:Nat->Bool}:AV n p=true↔∀ i,i<n->p i=true:=by simp [AV]
theorem OE {v:V} (h:okE v=true):v=eV (edE v):=by
 unfold okE at h;unfold edE;split at h
 ·rename_i e he
  exact NX he
 ·cases h
def gSl:V->Option (Nat×(Nat->V))
 | .sl s n g=>match Nat.beq s 6 with
  | true=>some (n,g)
  | false=>match n with
   | 0=>some (0,g)
   | _=>none
 | .slr s n _ g=>match Nat.beq s 6 with
  | true=>some (n,g)
  | false=>none
 | _=>none
def apL {α:Type} (v:V) (F:Nat->(Nat->E6)->T α):T α :=
 match gSl v with
 | some (n,g)=>.br (AV n λi=>okE (g i)) (F n λi=>edE (g i)) .fail
 | none=>.fail
def AI (n:Nat) (f:Nat->E6):V:=.sl 6 n λi=>eV (f i)
theorem CC {α:Type} {v:V} {F:Nat->(Nat->E6)->T α} {r:α} (h:(apL v F).sem=some r) :
  ∃ n f,(∀ (S:Nat->Prop) (w:World) (c:Value),VR S w v noK c->VR S w (AI n f) noK c)∧(F n f).sem=some r:=by
 unfold apL at h;split at h
 ·rename_i n g hg
  obtain ⟨h1,h2⟩:=Ac h;have h1:=A8.1 h1;refine ⟨n,_,λS w c hv=>?_,h2⟩;unfold gSl at hg;split at hg
  ·rename_i s n' g'
   split at hg
   ·rename_i hs
    simp only [Option.some.injEq,Prod.mk.injEq] at hg;obtain ⟨rfl,rfl⟩:=hg;have hs:s=6:=Nat.eq_of_beq_eq_true hs;subst hs;obtain ⟨a,cap,e,hc,hb⟩:=hv;refine ⟨a,cap,e,hc,hb.imp id ?_⟩
    rintro ⟨b,o,ea,hel⟩
    refine ⟨b,o,ea,λi hi=>?_⟩;have:=hel i hi;rw [OE (h1 i hi)] at this;exact this
   ·split at hg
    ·simp only [Option.some.injEq,Prod.mk.injEq] at hg
     obtain ⟨rfl,rfl⟩:=hg;obtain ⟨a,cap,e,hc,_⟩:=hv;exact ⟨a,cap,e,hc,.inl rfl⟩
    ·cases hg
  ·rename_i s n' m' g'
   split at hg
   ·rename_i hs
    simp only [Option.some.injEq,Prod.mk.injEq] at hg;obtain ⟨rfl,rfl⟩:=hg;have hs:s=6:=Nat.eq_of_beq_eq_true hs;subst hs;obtain ⟨a,cap,e,hc,hm,hb⟩:=hv;refine ⟨a,cap,e,Nat.le_trans hc hm,?_⟩;rcases hb with h0 | ⟨b,o,ea,hel⟩
    ·exact .inl (by omega)
    ·refine .inr ⟨b,o,ea,λi hi=>?_⟩
     have:=hel i (by omega);rw [OE (h1 i hi)] at this;exact this
   ·cases hg
  ·cases hg
 ·cases h
def Hy (F:Nat->(Nat->E6)->A5):List V->A5
 | [v]=>apL v F
 | _=>.fail
def AmK (F:Nat->(Nat->E6)->Nat->(Nat->E6)->A5):List V->A5
 | [v,u]=>apL v λn f=>apL u λm g=>F n f m g
 | _=>.fail
theorem CM {F:Nat->(Nat->E6)->A5} {vs:List V} {r:V×List Blk} (h:(Hy F vs).sem=some r):∃ n f,Ba vs [AI n f]∧(F n f).sem=some r:=by
 unfold Hy at h;split at h
 ·obtain ⟨n,f,h1,h2⟩:=CC h
  refine ⟨n,f,λS w cs hv=>?_,h2⟩;obtain ⟨c,l,rfl,q1,q2⟩:=hv;exact ⟨c,l,rfl,h1 S w c q1,q2⟩
 ·cases h
theorem R9 {F:Nat->(Nat->E6)->Nat->(Nat->E6)->A5} {vs:List V} {r:V×List Blk} (h:(AmK F vs).sem=some r) :
  ∃ n f m g,Ba vs [AI n f,AI m g]∧(F n f m g).sem=some r:=by
 unfold AmK at h;split at h
 ·obtain ⟨n,f,h1,h2⟩:=CC h
  obtain ⟨m,g,h3,h4⟩:=CC h2;refine ⟨n,f,m,g,λS w cs hv=>?_,h4⟩;obtain ⟨c,l,rfl,q1,c',l',rfl,q2,q3⟩:=hv;exact ⟨c,_,rfl,h1 S w c q1,c',l',rfl,h3 S w c' q2,q3⟩
 ·cases h
theorem A3 {i n:Nat} (h:i<n) (hn:n <= 4611686018427387904):wr .i64 (Ai (ofNat i) 1)=ofNat (i+1):=by
 unfold wr Ai IntKind.wrap;simp [IntKind.bits,IntKind.signed];omega
theorem ofNat_lt {i n:Nat} (h:i<n):ilt (ofNat i) (ofNat n)=true:=by simp [ilt]; omega
theorem A1 {i n:Nat} (h:n <= i):ilt (ofNat i) (ofNat n)=false:=by simp [ilt]; omega
theorem Ad {i n:Nat} (h:i<n):Al (ile 0 (ofNat i)) (ilt (ofNat i) (ofNat n))=true:=by rw [ofNat_lt h]; simp [Al,ile]
noncomputable def cx9 (l:List (Nat×Lp)):Cx:=AO Gl tb8 l
def lp36 (n:Nat):Lp:=⟨bmK 26 0 [0,1,4,5],0,bmK 26 0 [0,1,4],0,n+1⟩
def st36 (n m:Nat) (i:Int) (f g:Nat->E6) (j:Nat->V):St:=⟨jsV 26 0 j [(0,.sl 6 n λi=>eV (f i)),(1,.sl 6 m λi=>eV (g i)),(4,bV false),(5,iV i)],[]⟩
def V0 (n m:Nat) (f g:Nat->E6):St:=⟨jsV 26 0 Aa [(0,.sl 6 n λi=>eV (f i)),(1,.sl 6 m λi=>eV (g i)),(4,bV false)],[]⟩
noncomputable def I5 (L:LT):St->T (Ex×St):=λst=>AA tab ⟨Aw tb8,L,Gl⟩ (As Tryz.f43 0) 0 st
section
variable (L:LT) (n m i:Nat) (f g:Nat->E6) (j:Nat->V)
include L n m i f g j
theorem AbN:((I5 L (st36 n m (ofNat i) f g j)).bind λr=>T.leaf (r.1,HN [true,true,false,false,true,false,false,false,false,false,false,false,false,false,false,false,false,false,false,false,false,false,false,false,false,false] 0 r.2)).path [false]=some ([ilt (ofNat i) (ofNat n)],(.ex 0,V0 n m f g)):=by kernel_rfl
theorem AbM:((I5 L (st36 n m (ofNat i) f g j)).bind λr=>T.leaf (r.1,HN [true,true,false,false,true,false,false,false,false,false,false,false,false,false,false,false,false,false,false,false,false,false,false,false,false,false] 0 r.2)).path [true,true,true,true] =
  some ([ilt (ofNat i) (ofNat n),Al (ile 0 (ofNat i)) (ilt (ofNat i) (ofNat n)),Al (ile 0 (ofNat i)) (ilt (ofNat i) (ofNat m)),AQ (eqE (f i) (g i))],(.rt,V0 n m f g)):=by kernel_rfl
theorem ZN:((I5 L (st36 n m (ofNat i) f g j)).bind λr=>T.leaf (r.1,HN [true,true,false,false,true,true,false,false,false,false,false,false,false,false,false,false,false,false,false,false,false,false,false,false,false,false] 0 r.2)).path [true,true,true,false] =
  some ([ilt (ofNat i) (ofNat n),Al (ile 0 (ofNat i)) (ilt (ofNat i) (ofNat n)),Al (ile 0 (ofNat i)) (ilt (ofNat i) (ofNat m)),AQ (eqE (f i) (g i))],
   (.nm,st36 n m (wr .i64 (Ai (ofNat i) 1)) f g λ_=>.und)):=by kernel_rfl
end
def G9 (f g:Nat->E6):Nat->Nat->Bool
 | 0,_=>true
 | d+1,i=>match eqE (f i) (g i) with
  | true=>G9 f g d (i+1)
  | false=>false
theorem Us (L:LT) (n m:Nat) (f g:Nat->E6) (hm:n=m) (hn:n <= 4611686018427387904):∀ (d i:Nat) (j:Nat->V) (q:Nat),n=i+d->d<q ->
  (Av (I5 L) (lp36 n) q (st36 n m (ofNat i) f g j)).sem=some (match G9 f g d i with | true=>.ex 0 | false=>.rt,V0 n m f g)
 | 0,i,j,q+1,h1,_=>by
  have h3:(Av (I5 L) (lp36 n) (q+1) (st36 n m (ofNat i) f g j)).sem=some (.ex 0,V0 n m f g):=UV (AbN L n m i f g j) (by rw [A1 (by omega)]) (λh=>by cases h);exact h3
 | d+1,i,j,q+1,h1,h2=>by
  have hi:i<n:=by omega
  have hi':i<m:=by omega
  unfold G9;cases hc:eqE (f i) (g i) with
  | true =>
   have h3:(Av (I5 L) (lp36 n) (q+1) (st36 n m (ofNat i) f g j)).sem=(Av (I5 L) (lp36 n) q (st36 n m (wr .i64 (Ai (ofNat i) 1)) f g λ_=>.und)).sem :=
    Aaz (ZN L n m i f g j) (by rw [Ad hi,Ad hi',ofNat_lt hi,hc]; rfl)
   rw [h3,A3 hi hn];exact Us L n m f g hm hn d (i+1) Aa q (by omega) (by omega)
  | false =>have h3:(Av (I5 L) (lp36 n) (q+1) (st36 n m (ofNat i) f g j)).sem=some (.rt,V0 n m f g):=UV (AbM L n m i f g j) (by rw [Ad hi,Ad hi',ofNat_lt hi,hc]; rfl) (λh=>by cases h);exact h3
def DZ (n:Nat) (f:Nat->E6) (m:Nat) (g:Nat->E6):Bool:=sel (ieq (ofNat n) (ofNat m)) (G9 f g n 0) false
def jk36 (n m:Nat) (f g:Nat->E6):Nat->V:=lkV AK [(6,AI n f),(7,nV n),(8,AI m g),(9,nV m),(10,bV (AQ (ieq (ofNat n) (ofNat m))))]
theorem AbO (n m:Nat) (f g:Nat->E6) (L:LT):A0 (Aj tab ⟨Aw tb8,L,Gl⟩ Tryz.f43 [AI n f,AI m g] []) =
  A0 (Aj tab ⟨Aw tb8,λ_ _ _=>L 0 (I5 L) (st36 n m 0 f g (jk36 n m f g)),Gl⟩ Tryz.f43 [AI n f,AI m g] []):=by kernel_rfl
theorem Age (n m:Nat) (f g:Nat->E6) (L:LT):(A0 (Aj tab ⟨Aw tb8,L,Gl⟩ Tryz.f43 [AI n f,AI m g] [])).path [true] =
  some ([AQ (ieq (ofNat n) (ofNat m))],(bV false,[])):=by kernel_rfl
theorem Agf (n m:Nat) (f g:Nat->E6):(A0 (Aj tab ⟨Aw tb8,λ_ _ _=>.leaf (.ex 0,V0 n m f g),Gl⟩ Tryz.f43 [AI n f,AI m g] [])).path [false] =
  some ([AQ (ieq (ofNat n) (ofNat m))],(bV true,[])):=by kernel_rfl
theorem Agd (n m:Nat) (f g:Nat->E6):(A0 (Aj tab ⟨Aw tb8,λ_ _ _=>.leaf (.rt,V0 n m f g),Gl⟩ Tryz.f43 [AI n f,AI m g] [])).path [false] =
  some ([AQ (ieq (ofNat n) (ofNat m))],(bV false,[])):=by kernel_rfl
theorem AbP (n m:Nat) (f g:Nat->E6) (hn:n <= 4611686018427387904):(A0 (Aj tab (cx9 [(0,lp36 n)]) Tryz.f43 [AI n f,AI m g] [])).sem=some (bV (DZ n f m g),[]):=by
 unfold DZ;cases hc:ieq (ofNat n) (ofNat m) with
 | false=>exact AG (Age n m f g _) (by rw [hc]; rfl)
 | true =>
  have h0:ofNat n=ofNat m:=by simpa only [ieq,beq_iff_eq] using hc
  have hm:n=m:=Int.ofNat.inj h0;have h1:=Us (BC [(0,lp36 n)]) n m f g hm hn n 0 (jk36 n m f g) (n+1) (by omega) (by omega);have h2:=AbO n m f g (BC [(0,lp36 n)]);have h3:(A0 (Aj tab (cx9 [(0,lp36 n)]) Tryz.f43 [AI n f,AI m g] [])).sem=(A0 (Aj tab ⟨Aw tb8,λ_ _ _=>.leaf (match G9 f g n 0 with | true=>.ex 0 | false=>.rt,V0 n m f g),Gl⟩ Tryz.f43 [AI n f,AI m g] [])).sem:=by
   refine (congrArg T.sem h2).trans (Qj λid _ _ _ _=>?_);exact h1
  rw [h3];cases G9 f g n 0 with
  | true=>exact AG (Agf n m f g) (by rw [hc]; rfl)
  | false=>exact AG (Agd n m f g) (by rw [hc]; rfl)
def Aq (n:Nat):Bool:=decide (n <= 4611686018427387904)
def On:List V->A5:=AmK λn f m g=>.br (Aq n) (out (bV (DZ n f m g))) .fail
theorem p36:Ap Tryz.prog Gl 43 On:=by
 refine Ah A2 mixed Tryz.func43 (by kernel_rfl) (by kernel_rfl) λvs v h' h=>?_;obtain ⟨n,f,m,g,ha,h⟩:=R9 h;obtain ⟨hn,h⟩:=Ac h;have:=Ab h;simp only [Prod.mk.injEq] at this;obtain ⟨rfl,rfl⟩:=this;have hx:=Bh Mf [(0,lp36 n)];exact ⟨_,cx9 [(0,lp36 n)],_,ha,rfl,hx.1,hx.2,AbP n m f g (of_decide_eq_true hn),Am.refl _⟩
end Go.Proofs.YtkbafjceglhjhaaGreatDoor.Ed
namespace Go.Proofs.YtkbafjceglhjhaaGreatDoor.Ed
open Go.Sy
def Ct (n:Nat):Bool:=decide (n * 40 <= 140737488355328)
def lp37 (n:Nat):Lp:=⟨bmK 19 0 [0,2,3,4],2,bmK 19 0 [0,2,3],2,n+1⟩
end Go.Proofs.YtkbafjceglhjhaaGreatDoor.Ed
namespace Go.Proofs.YtkbafjceglhjhaaGreatDoor.Ed
open Go.Sy
theorem allT_some {vs:List V} {r:V×List Blk} (h:(allT vs).sem=some r):∃ a,vs=[iV a]∧((a=1∧r=(.tup [.ref 0,iV 0],[.row 76 6 22 λi=>eV (AhX 1 i)])) ∨ (a=2∧r=(.tup [.ref 0,iV 0],[.row 76 6 104 λi=>eV (AhX 2 i)])) ∨
  (AQ (BE a)=true∧r=(.tup [.ref 0,iV 1],[.row 76 6 0 λ_=>.und]))):=by
 obtain ⟨a,rfl,h⟩:=PU Np h;refine ⟨a,rfl,?_⟩;have h:sel (ieq a 1) (some _) (sel (ieq a 2) (some _) (some _))=some r:=h;cases h1:ieq a 1 with
 | true =>rw [h1] at h;have h:some _=some r:=h;exact .inl ⟨by simpa [ieq] using h1,(Option.some.inj h).symm⟩
 | false =>
  rw [h1] at h;cases h2:ieq a 2 with
  | true =>rw [h2] at h;have h:some _=some r:=h;exact .inr (.inl ⟨by simpa [ieq] using h2,(Option.some.inj h).symm⟩)
  | false =>rw [h2] at h;have h:some _=some r:=h;exact .inr (.inr ⟨by simp [BE,h1,h2,AQ,bor],(Option.some.inj h).symm⟩)
noncomputable def tb10:A7:=(43,On)::(192,ap2 gI toE λa e=>out (OY a e))::(151,ap2 gI toE λa e=>out (OY a e))::tb8
theorem tb10_ok:Ao Tryz.prog Gl tb10:=.cons p36 <| .cons p32 <| .cons p33 Mf
end Go.Proofs.YtkbafjceglhjhaaGreatDoor.Ed
namespace Go.Proofs.YtkbafjceglhjhaaGreatDoor.Ed
open Go.Sy
end Go.Proofs.YtkbafjceglhjhaaGreatDoor.Ed
