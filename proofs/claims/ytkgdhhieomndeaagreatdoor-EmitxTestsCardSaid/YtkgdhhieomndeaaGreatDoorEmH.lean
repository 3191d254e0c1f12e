/-
  Two tests held against one another (SameTest): a test and itself. No conditions.
-/
import Derived.Test.YtkgdhhieomndeaaGreatDoorShVc
import Derived.Test.YtkgdhhieomndeaaGreatDoorShAc
import Derived.Test.YtkgdhhieomndeaaGreatDoorShT
namespace Go.Proofs.YtkgdhhieomndeaaGreatDoor.Em
open Go.Sy Go Go.Proofs.YtkgdhhieomndeaaGreatDoor.Ed Go.Proofs.YtkgdhhieomndeaaGreatDoor.Sh
open Int (ofNat)
set_option maxRecDepth 100000
set_option maxHeartbeats 1000000
structure In5 where
 th:Int
 rg:Int
 lc:List UInt8
 vl:List UInt8
 vn:Int
def O2 (e:In5):V:=.agg [iV e.th,iV e.rg,.str e.lc,.str e.vl,iV e.vn]
def ZG:V->Option In5
 | .agg [.val (.int .i64 a),.val (.int .i64 b),.str c,.str d,.val (.int .i64 e)]=>some ⟨a,b,c,d,e⟩
 | _=>none
def AaX (v:V):Bool:=match ZG v with
 | some _=>true
 | none=>false
def Acv (v:V):In5:=match ZG v with
 | some e=>e
 | none=>⟨0,0,[],[],0⟩
theorem V3 {v:V} (h:AaX v=true):v=O2 (Acv v):=by
 unfold AaX at h;unfold Acv;split at h
 ·rename_i e he
  unfold ZG at he;split at he
  ·cases he
   rfl
  ·cases he
 ·cases h
def Aj6:Cod In5:=⟨5,O2,AaX,Acv,λv h S w c hv=>by rw [<- V3 h]; exact hv⟩
structure Te where
 a:Int
 nm:List UInt8
 cy:List UInt8
 k:Nat
 I:Nat->In5
 t:Nat
 lw:Nat->Nat
 cw:Nat->Nat->In4
 qt:Int
 nd:Nd
def teV (z:Te):V:=.agg [iV z.a,.str z.nm,.str z.cy,.sl 5 z.k (λi=>O2 (z.I i)),.sl 1 z.t (λu=>.sl 8 (z.lw u) (λi=>inV (z.cw u i))),iV z.qt,iV z.nd.kd,iV z.nd.th,iV z.nd.rg,.str z.nd.lc,iV z.nd.v,.sl 6 z.nd.n (BE z.nd.X z.nd.f)]
def Afr {β:Type} (v:V) (F:Te->T β):T β:=match v with
 | .agg [.val (.int .i64 a),.str nm,.str cy,i,c,.val (.int .i64 qt),.val (.int .i64 kd),.val (.int .i64 th),.val (.int .i64 rg),.str lc,.val (.int .i64 v),ks] =>
  apG Aj6 i λk I=>apG Aj5 c λt C=>apG AcB ks λn g=>F ⟨a,nm,cy,k,I,t,λu=>(C u).1,λu=>(C u).2,qt,⟨kd,th,rg,lc,v,n,λi=>(g i).1,λi=>(g i).2⟩⟩
 | _=>.fail
theorem QB {β:Type} {v:V} {F:Te->T β} {r:β} (h:(Afr v F).sem=some r) :
  ∃ z,(∀ (S:Nat->Prop) (w:World) (u:Value),VR S w v noK u->VR S w (teV z) noK u)∧(F z).sem=some r:=by
 unfold Afr at h;split at h
 ·obtain ⟨k,I,h1,h⟩:=Bs h
  obtain ⟨t,C,h2,h⟩:=Bs h;obtain ⟨n,g,h3,h⟩:=Bs h;refine ⟨_,λS w u hv=>?_,h⟩;obtain ⟨ca,e,c1,l1,e1,q1,c2,l2,e2,q2,c3,l3,e3,q3,c4,l4,e4,q4,c5,l5,e5,q5,c6,l6,e6,q6,c7,l7,e7,q7,c8,l8,e8,q8,c9,l9,e9,q9,c10,l10,e10,q10,c11,l11,e11,q11,c12,l12,e12,q12,q13⟩:=hv;exact ⟨ca,e,c1,l1,e1,q1,c2,l2,e2,q2,c3,l3,e3,q3,c4,l4,e4,h1 S w c4 q4,c5,l5,e5,h2 S w c5 q5,c6,l6,e6,q6,c7,l7,e7,q7,c8,l8,e8,q8,c9,l9,e9,q9,c10,l10,e10,q10,c11,l11,e11,q11,c12,l12,e12,h3 S w c12 q12,q13⟩
 ·cases h
def ZL (z:Te):Bool:=Aj z.t && ((AB z.t λi=>nlt (z.lw i) 40) && (Aj z.k && Ba 0 z.nd.n 72))
noncomputable def sameTT:List V->AR
 | [u,v]=>Afr u λz=>Afr v λy=>.br (SX z y) (.br (ZL z) (.leaf (bV true,[])) .fail) .fail
 | _=>.fail
noncomputable def N9:AP:=(27,Rd)::(28,Abb)::[]
theorem ZW:Av Tryz.prog Gl N9:=.cons Aov <| .cons Aoy .nil
theorem SY (n:Nat) (ln:Nat->Nat) (c:Nat->Nat->In4):Rb n ln c n ln c=true:=by
 simp [Rb,YW,Al,ieq,seq,AB]
def XC (a:Int) (nm cy:List UInt8) (k:Nat) (I:Nat->In5) (t:Nat) (lw:Nat->Nat) (cw:Nat->Nat->In4) (qt kd th rg:Int) (lc:List UInt8) (v:Int) (n:Nat) (X:Nat->Tg) (f:Nat->Int) :St:=⟨jsV 76 0 (λ_=>A9) [(0,.agg [iV a,.str nm,.str cy,.sl 5 k (λi=>.agg [iV (I i).th,iV (I i).rg,.str (I i).lc,.str (I i).vl,iV (I i).vn]),.sl 1 t (λu=>.sl 8 (lw u) (λi=>.agg [iV (cw u i).op,iV (cw u i).d,iV 0,iV 0,iV (cw u i).imm,.str (cw u i).loc,.str [],iV 0])),iV qt,iV kd,iV th,iV rg,.str lc,iV v,.sl 6 n (λi=>.agg [iV 2,iV (X i).th,iV (X i).rg,.str (X i).lc,iV (f i),.nilS])]),(1,.agg [iV a,.str nm,.str cy,.sl 5 k (λi=>.agg [iV (I i).th,iV (I i).rg,.str (I i).lc,.str (I i).vl,iV (I i).vn]),.sl 1 t (λu=>.sl 8 (lw u) (λi=>.agg [iV (cw u i).op,iV (cw u i).d,iV 0,iV 0,iV (cw u i).imm,.str (cw u i).loc,.str [],iV 0])),iV qt,iV kd,iV th,iV rg,.str lc,iV v,.sl 6 n (λi=>.agg [iV 2,iV (X i).th,iV (X i).rg,.str (X i).lc,iV (f i),.nilS])]),(2,.ptr 0 0),(3,.ptr 1 0),(4,bV false),(5,iV 0),(6,.ptr 0 0),(7,iV a),(8,.ptr 1 0),(9,iV a),(10,bV (A6 (ieq a a))),(11,bV (A6 (ieq a a))),(12,.ptr 0 1),(13,.str nm),(14,.ptr 1 1),(15,.str nm),(16,bV (A6 (seq nm nm))),(17,bV (A6 (seq nm nm))),(18,bV (A6 (seq nm nm))),(19,.ptr 0 2),(20,.str cy),(21,.ptr 1 2),(22,.str cy),(23,bV (A6 (seq cy cy))),(24,bV (A6 (seq cy cy))),(25,bV (A6 (seq cy cy))),(26,.ptr 0 3),(27,.sl 5 k (λi=>.agg [iV (I i).th,iV (I i).rg,.str (I i).lc,.str (I i).vl,iV (I i).vn])),(28,nV k),(29,.ptr 1 3),(30,.sl 5 k (λi=>.agg [iV (I i).th,iV (I i).rg,.str (I i).lc,.str (I i).vl,iV (I i).vn])),(31,nV k),(32,bV (A6 (ieq (ofNat k) (ofNat k)))),(33,bV (A6 (ieq (ofNat k) (ofNat k)))),(34,bV (A6 (ieq (ofNat k) (ofNat k)))),(35,.ptr 0 4),(36,.sl 1 t (λu=>.sl 8 (lw u) (λi=>.agg [iV (cw u i).op,iV (cw u i).d,iV 0,iV 0,iV (cw u i).imm,.str (cw u i).loc,.str [],iV 0]))),(37,.ptr 1 4),(38,.sl 1 t (λu=>.sl 8 (lw u) (λi=>.agg [iV (cw u i).op,iV (cw u i).d,iV 0,iV 0,iV (cw u i).imm,.str (cw u i).loc,.str [],iV 0]))),(39,bV true),(40,bV (A6 true)),(41,bV (A6 true)),(42,bV (A6 true)),(43,.ptr 0 5),(44,.ptr 0 5),(45,iV qt),(46,.ptr 1 5),(47,.ptr 1 5),(48,iV qt),(49,bV (A6 (ieq qt qt))),(50,bV (A6 (ieq qt qt)))],[.cells [iV a,.str nm,.str cy,.sl 5 k (λi=>.agg [iV (I i).th,iV (I i).rg,.str (I i).lc,.str (I i).vl,iV (I i).vn]),.sl 1 t (λu=>.sl 8 (lw u) (λi=>.agg [iV (cw u i).op,iV (cw u i).d,iV 0,iV 0,iV (cw u i).imm,.str (cw u i).loc,.str [],iV 0])),iV qt,iV kd,iV th,iV rg,.str lc,iV v,.sl 6 n (λi=>.agg [iV 2,iV (X i).th,iV (X i).rg,.str (X i).lc,iV (f i),.nilS])],.cells [iV a,.str nm,.str cy,.sl 5 k (λi=>.agg [iV (I i).th,iV (I i).rg,.str (I i).lc,.str (I i).vl,iV (I i).vn]),.sl 1 t (λu=>.sl 8 (lw u) (λi=>.agg [iV (cw u i).op,iV (cw u i).d,iV 0,iV 0,iV (cw u i).imm,.str (cw u i).loc,.str [],iV 0])),iV qt,iV kd,iV th,iV rg,.str lc,iV v,.sl 6 n (λi=>.agg [iV 2,iV (X i).th,iV (X i).rg,.str (X i).lc,iV (f i),.nilS])]]⟩
def Amr (a:Int) (nm cy:List UInt8) (k:Nat) (I:Nat->In5) (t:Nat) (lw:Nat->Nat) (cw:Nat->Nat->In4) (qt kd th rg:Int) (lc:List UInt8) (v:Int) (n:Nat) (X:Nat->Tg) (f:Nat->Int):Lp:=⟨bmK 76 0 [2,3,4,5],2,bmK 76 0 [2,3,4],2,0⟩
def AdO (a:Int) (nm cy:List UInt8) (k:Nat) (I:Nat->In5) (t:Nat) (lw:Nat->Nat) (cw:Nat->Nat->In4) (qt kd th rg:Int) (lc:List UInt8) (v:Int) (n:Nat) (X:Nat->Tg) (f:Nat->Int) (b:Nat) (j:Nat->V):St:=⟨jsV 76 0 j [(2,.ptr 0 0),(3,.ptr 1 0),(4,bV false),(5,nV b)],[.cells [iV a,.str nm,.str cy,.sl 5 k (λi=>O2 (I i)),.sl 1 t (λu=>.sl 8 (lw u) (λi=>inV (cw u i))),iV qt,iV kd,iV th,iV rg,.str lc,iV v,.sl 6 n (λi=>BE X f i)],.cells [iV a,.str nm,.str cy,.sl 5 k (λi=>O2 (I i)),.sl 1 t (λu=>.sl 8 (lw u) (λi=>inV (cw u i))),iV qt,iV kd,iV th,iV rg,.str lc,iV v,.sl 6 n (λi=>BE X f i)]]⟩
def Uj (a:Int) (nm cy:List UInt8) (k:Nat) (I:Nat->In5) (t:Nat) (lw:Nat->Nat) (cw:Nat->Nat->In4) (qt kd th rg:Int) (lc:List UInt8) (v:Int) (n:Nat) (X:Nat->Tg) (f:Nat->Int) (b:Nat):Ex×St:=(.ex 0,⟨jsV 76 0 Aa [(2,.ptr 0 0),(3,.ptr 1 0),(4,bV false)],[.cells [iV a,.str nm,.str cy,.sl 5 k (λi=>O2 (I i)),.sl 1 t (λu=>.sl 8 (lw u) (λi=>inV (cw u i))),iV qt,iV kd,iV th,iV rg,.str lc,iV v,.sl 6 n (λi=>BE X f i)],.cells [iV a,.str nm,.str cy,.sl 5 k (λi=>O2 (I i)),.sl 1 t (λu=>.sl 8 (lw u) (λi=>inV (cw u i))),iV qt,iV kd,iV th,iV rg,.str lc,iV v,.sl 6 n (λi=>BE X f i)]]⟩)
noncomputable def OZ (L:LT):St->T (Ex×St):=λst=>A7 tab ⟨Ap N9,L,Gl⟩ (Ar Tryz.f8 0) 0 st
section
variable (L:LT) (a:Int) (nm cy:List UInt8) (k:Nat) (I:Nat->In5) (t:Nat) (lw:Nat->Nat) (cw:Nat->Nat->In4) (qt kd th rg:Int) (lc:List UInt8) (v:Int) (n:Nat) (X:Nat->Tg) (f:Nat->Int) (b:Nat)  (j:Nat->V)
include L a nm cy k I t lw cw qt kd th rg lc v n X f b j
theorem Aos (h0:ilt (ofNat b) (ofNat k)=false):Ah (OZ L) (Amr a nm cy k I t lw cw qt kd th rg lc v n X f) (AdO a nm cy k I t lw cw qt kd th rg lc v n X f b j)=some ((.ex 0),⟨jsV 76 0 Aa [(2,.ptr 0 0),(3,.ptr 1 0),(4,bV false)],[.cells [iV a,.str nm,.str cy,.sl 5 k (λi=>.agg [iV (I i).th,iV (I i).rg,.str (I i).lc,.str (I i).vl,iV (I i).vn]),.sl 1 t (λu=>.sl 8 (lw u) (λi=>.agg [iV (cw u i).op,iV (cw u i).d,iV 0,iV 0,iV (cw u i).imm,.str (cw u i).loc,.str [],iV 0])),iV qt,iV kd,iV th,iV rg,.str lc,iV v,.sl 6 n (λi=>.agg [iV 2,iV (X i).th,iV (X i).rg,.str (X i).lc,iV (f i),.nilS])],.cells [iV a,.str nm,.str cy,.sl 5 k (λi=>.agg [iV (I i).th,iV (I i).rg,.str (I i).lc,.str (I i).vl,iV (I i).vn]),.sl 1 t (λu=>.sl 8 (lw u) (λi=>.agg [iV (cw u i).op,iV (cw u i).d,iV 0,iV 0,iV (cw u i).imm,.str (cw u i).loc,.str [],iV 0])),iV qt,iV kd,iV th,iV rg,.str lc,iV v,.sl 6 n (λi=>.agg [iV 2,iV (X i).th,iV (X i).rg,.str (X i).lc,iV (f i),.nilS])]]⟩):=by
 exact Ab (ks:=[kn h0]) (by kernel_rfl)
theorem Aor (h0:ilt (ofNat b) (ofNat k)=true) (h31:ile 0 (ofNat b)=true) (h32:seq (I b).lc (I b).lc=true) (h33:seq (I b).vl (I b).vl=true):Ah (OZ L) (Amr a nm cy k I t lw cw qt kd th rg lc v n X f) (AdO a nm cy k I t lw cw qt kd th rg lc v n X f b j)=some (.nm,⟨jsV 76 0 Aa [(2,.ptr 0 0),(3,.ptr 1 0),(4,bV false),(5,iV (wr .i64 (Af (ofNat b) 1)))],[.cells [iV a,.str nm,.str cy,.sl 5 k (λi=>.agg [iV (I i).th,iV (I i).rg,.str (I i).lc,.str (I i).vl,iV (I i).vn]),.sl 1 t (λu=>.sl 8 (lw u) (λi=>.agg [iV (cw u i).op,iV (cw u i).d,iV 0,iV 0,iV (cw u i).imm,.str (cw u i).loc,.str [],iV 0])),iV qt,iV kd,iV th,iV rg,.str lc,iV v,.sl 6 n (λi=>.agg [iV 2,iV (X i).th,iV (X i).rg,.str (X i).lc,iV (f i),.nilS])],.cells [iV a,.str nm,.str cy,.sl 5 k (λi=>.agg [iV (I i).th,iV (I i).rg,.str (I i).lc,.str (I i).vl,iV (I i).vn]),.sl 1 t (λu=>.sl 8 (lw u) (λi=>.agg [iV (cw u i).op,iV (cw u i).d,iV 0,iV 0,iV (cw u i).imm,.str (cw u i).loc,.str [],iV 0])),iV qt,iV kd,iV th,iV rg,.str lc,iV v,.sl 6 n (λi=>.agg [iV 2,iV (X i).th,iV (X i).rg,.str (X i).lc,iV (f i),.nilS])]]⟩):=by
 exact Ab (ks:=[kn h0,kA (kn h31) (kn h0),kA (kn h31) (kn h0),kN (kA (kI (I b).th) (kA (kI (I b).rg) (kA (kn h32) (kA (kA (kn h33) (kA (kI (I b).vn) kT)) kT))))]) (by kernel_rfl)
end
theorem w10 (L:LT) (p0:PT) (a:Int) (nm cy:List UInt8) (k:Nat) (I:Nat->In5) (t:Nat) (lw:Nat->Nat) (cw:Nat->Nat->In4) (qt kd th rg:Int) (lc:List UInt8) (v:Int) (n:Nat) (X:Nat->Tg) (f:Nat->Int) (h30:seq nm nm=true) (h31:seq cy cy=true) (h32:AB t (λi=>AB (lw i) (λ_=>Al (ieq 0 0) (Al (ieq 0 0) (Al (seq [] []) (ieq 0 0)))))=true) (h33:Aj t=true) (h34:AB t (λi=>nlt (lw i) 40)=true) (h35:Rb t lw (λi i_1=>cw i i_1) t lw (λi i_1=>cw i i_1)=true) (h36:AB n (λ_=>ieq 2 2)=true) (h37:SX (Nd.mk kd th rg lc v n X f) (Nd.mk kd th rg lc v n X f)=true) (h38:Ba 0 n 72=true) (hp0:p0 (OZ (onP 0 p0 (Uj a nm cy k I t lw cw qt kd th rg lc v n X f k) L)) (XC a nm cy k I t lw cw qt kd th rg lc v n X f)=true):(Az (Ak tab ⟨Ap N9,onP 0 p0 (Uj a nm cy k I t lw cw qt kd th rg lc v n X f k) L,Gl⟩ Tryz.f8 [.agg [iV a,.str nm,.str cy,.sl 5 k (λi=>O2 (I i)),.sl 1 t (λu=>.sl 8 (lw u) (λi=>inV (cw u i))),iV qt,iV kd,iV th,iV rg,.str lc,iV v,.sl 6 n (λi=>BE X f i)],.agg [iV a,.str nm,.str cy,.sl 5 k (λi=>O2 (I i)),.sl 1 t (λu=>.sl 8 (lw u) (λi=>inV (cw u i))),iV qt,iV kd,iV th,iV rg,.str lc,iV v,.sl 6 n (λi=>BE X f i)]] [])).sem=some ((bV true),[]):=by
 exact Ab (ks:=[kN (kI a),kN (kI a),kN (kI a),kN (kI a),kN (kI a),kN (kI a),kN (kn h30),kN (kn h30),kN (kn h30),kN (kn h30),kN (kn h30),kN (kn h30),kN (kn h31),kN (kn h31),kN (kn h31),kN (kn h31),kN (kn h31),kN (kn h31),kN (kn h31),kN (kn h31),kN (kI (ofNat k)),kN (kI (ofNat k)),kN (kI (ofNat k)),kN (kI (ofNat k)),kN (kI (ofNat k)),kn h32,kn h32,kn h33,kn h34,kn h35,kN (kI (ofNat k)),kN (kI (ofNat k)),kN kT,kN kT,kN kT,kN kT,kN kT,kN kT,kN kT,kN kT,kN (kI qt),kn hp0,kn h36,kn h36,kn h37,kn h38]) (by kernel_rfl)
section
variable (a:Int) (nm cy:List UInt8) (k:Nat) (I:Nat->In5) (t:Nat) (lw:Nat->Nat) (cw:Nat->Nat->In4) (qt kd th rg:Int) (lc:List UInt8) (v:Int) (n:Nat) (X:Nat->Tg) (f:Nat->Int)
theorem Aga (M:LT) (hk:k <= 4611686018427387904):∀ (d b:Nat) (j:Nat->V),k=b+d->LRun ⟨Ap N9,Gl⟩ (OZ M) (AdO a nm cy k I t lw cw qt kd th rg lc v n X f b j) (Uj a nm cy k I t lw cw qt kd th rg lc v n X f k)
 | 0,b,j,h=>by
  have:k=b:=by omega
  subst this;exact LRun.exit (Aos M a nm cy k I t lw cw qt kd th rg lc v n X f k j (A1 (Nat.le_refl _))) (by simp)
 | d+1,b,j,h=>by
  have hb:b<k:=by omega
  have h1:=Aor M a nm cy k I t lw cw qt kd th rg lc v n X f b j (ofNat_lt hb) (AF b) (CT _) (CT _);rw [Aq hb hk] at h1;exact LRun.round h1 (LE.refl _) (Aga M hk d (b+1) Aa (by omega))
theorem Acj:XC a nm cy k I t lw cw qt kd th rg lc v n X f=AdO a nm cy k I t lw cw qt kd th rg lc v n X f 0 (λi=>nth (XC a nm cy k I t lw cw qt kd th rg lc v n X f).t i):=by kernel_rfl
end
theorem Ao1:Ax Tryz.prog Gl 8 sameTT:=by
 refine Am A8 mixed Tryz.func8 (by kernel_rfl) (by kernel_rfl) λvs v h' h=>?_;unfold sameTT at h;split at h
 ·rename_i u1 v1
  obtain ⟨z,a1,h⟩:=QB h;obtain ⟨y,a2,h⟩:=QB h;obtain ⟨hy,h⟩:=Ad h;obtain ⟨hz,h⟩:=Ad h;have:=Ac h;simp only [Prod.mk.injEq] at this;obtain ⟨rfl,rfl⟩:=this;have hy:=SW hy;subst hy;obtain ⟨a,nm,cy,k,I,t,lw,cw,qt,kd,th,rg,lc,v,n,X,f⟩:=z;simp only [ZL,Bool.and_eq_true] at hz;obtain ⟨h1,h2,h3,h4⟩:=hz;have hA:Bf [u1,v1] [.agg [iV a,.str nm,.str cy,.sl 5 k (λi=>O2 (I i)),.sl 1 t (λu=>.sl 8 (lw u) (λi=>inV (cw u i))),iV qt,iV kd,iV th,iV rg,.str lc,iV v,.sl 6 n (λi=>BE X f i)],.agg [iV a,.str nm,.str cy,.sl 5 k (λi=>O2 (I i)),.sl 1 t (λu=>.sl 8 (lw u) (λi=>inV (cw u i))),iV qt,iV kd,iV th,iV rg,.str lc,iV v,.sl 6 n (λi=>BE X f i)]]:=λS w cs hv=>by
   obtain ⟨c,l,rfl,q1,d,l',rfl,q2,q3⟩:=hv;exact ⟨c,_,rfl,a1 S w c q1,d,_,rfl,a2 S w d q2,q3⟩
  have hc0:Bo Tryz.prog ⟨Ap N9,Gl⟩:=(AI ZW [] (G:=Gl)).1;have hrun:∀ M,LRun ⟨Ap N9,Gl⟩ (OZ M) (XC a nm cy k I t lw cw qt kd th rg lc v n X f) (Uj a nm cy k I t lw cw qt kd th rg lc v n X f k):=λM=>by
   rw [Acj];exact Aga a nm cy k I t lw cw qt kd th rg lc v n X f M (of_decide_eq_true h3) k 0 _ (by omega)
  exact ⟨_,⟨Ap N9,_,Gl⟩,_,hA,rfl,hc0,Hp (k:=0) (r:=Uj a nm cy k I t lw cw qt kd th rg lc v n X f k) G2,w10 noL _ a nm cy k I t lw cw qt kd th rg lc v n X f (CT _) (CT _) (A0.2 λ_ _=>A0.2 λ_ _=>rfl) h1 h2 (SY _ _ _) (A0.2 λ_ _=>rfl) (IG _) h4 (DZ (hrun _)),Aw.refl _⟩
 ·cases h
end Go.Proofs.YtkgdhhieomndeaaGreatDoor.Em
namespace Go.Proofs.YtkgdhhieomndeaaGreatDoor.Sh
open Go.Sy Ed
open Int (ofNat)
set_option maxHeartbeats 1000000
set_option maxRecDepth 4000
noncomputable def tb6:AP:=(57,ofT)::(9,Hh)::(52,MM)::(69,I9)::(78,BI λe=>bV (AK e))::(79,BI λe=>bV (AJ e))::(35,Gt)::[]
theorem tb6_ok:Av Tryz.prog Gl tb6:=.cons p14 <| .cons p16 <| .cons p49 <| .cons Ed.p69 <| .cons Ed.p60 <| .cons Ed.p61 <| .cons AaP .nil
def ent6 (a:Int) (n:Nat) (f:Nat->E6) (z:Int) :St:=⟨jsV 147 0 (λ_=>A9) [(0,iV a),(1,.sl 6 n (λi=>eV (f i))),(2,iV z),(6,bV false),(7,.ptr 4 0),(8,iV 0),(9,iV 0),(10,iV (B6 a n f)),(11,iV (Da a n f)),(12,.ptr 10 0),(13,iV 0),(14,iV 0),(15,.ptr 15 0),(16,iV 0),(17,iV 0),(18,iV 0),(19,iV 0),(20,iV 0),(23,.tup [.agg [iV a,.ref 0,.ref 1,iV (ofNat (ttN n (shG n f))),iV (ofNat (kkN n (shG n f))),.ref 2,.jref 3],iV 0,iV 0]),(24,iV a),(25,.sl 6 n (λi=>eV (f i))),(26,.tup [.agg [iV a,.ref 0,.ref 1,iV (ofNat (ttN n (shG n f))),iV (ofNat (kkN n (shG n f))),.ref 2,.jref 3],iV 0,iV 0]),(27,.agg [iV a,.ref 0,.ref 1,iV (ofNat (ttN n (shG n f))),iV (ofNat (kkN n (shG n f))),.ref 2,.jref 3]),(28,iV 0),(29,iV 0),(30,.tup [iV (B6 a n f),iV (Da a n f)]),(31,iV a),(32,.sl 6 n (λi=>eV (f i))),(33,.tup [iV (B6 a n f),iV (Da a n f)]),(34,iV (B6 a n f)),(35,iV (Da a n f)),(36,iV 0),(37,iV (B6 a n f)),(38,bV (A6 (ieq 0 (B6 a n f)))),(39,bV (A6 (ieq 0 (B6 a n f)))),(40,bV true),(41,bV (A6 true)),(42,bV (A6 true)),(43,iV 0),(44,bV (A6 (ieq 0 0))),(59,.tup [.agg [iV a,.ref 6,.ref 7,iV (ofNat (ttN n (shG n (λi=>AT n f z i)))),iV (ofNat (kkN n (shG n (λi=>AT n f z i)))),.ref 8,.jref 9],iV 0,iV 0]),(60,iV a),(61,.sl 6 n (λi=>eV (f i))),(62,iV z),(63,.ref 5),(64,.tup [.agg [iV a,.ref 6,.ref 7,iV (ofNat (ttN n (shG n (λi=>AT n f z i)))),iV (ofNat (kkN n (shG n (λi=>AT n f z i)))),.ref 8,.jref 9],iV 0,iV 0]),(65,.agg [iV a,.ref 6,.ref 7,iV (ofNat (ttN n (shG n (λi=>AT n f z i)))),iV (ofNat (kkN n (shG n (λi=>AT n f z i)))),.ref 8,.jref 9]),(66,iV 0),(67,iV 0),(68,.tup [.agg [iV a,.ref 11,.ref 12,iV (ofNat (ttN n (shG n (λi=>shG n f i)))),iV (ofNat (kkN n (shG n (λi=>shG n f i)))),.ref 13,.jref 14],iV 0,iV 0]),(69,iV a),(70,.ptr 4 1),(71,.ref 0),(72,.tup [.agg [iV a,.ref 11,.ref 12,iV (ofNat (ttN n (shG n (λi=>shG n f i)))),iV (ofNat (kkN n (shG n (λi=>shG n f i)))),.ref 13,.jref 14],iV 0,iV 0]),(73,.agg [iV a,.ref 11,.ref 12,iV (ofNat (ttN n (shG n (λi=>shG n f i)))),iV (ofNat (kkN n (shG n (λi=>shG n f i)))),.ref 13,.jref 14]),(74,iV 0),(75,iV 0)],[.row 92 6 n (λi=>eV (shG n f i)),.row 80 5 n (λi=>evV (evF n (shG n f) (λ_=>true) i)),.row 3 1 n (λi=>iV (rfF n (shG n f) (λ_=>true) i)),.jag (Jag.mk 24 1 (kkN n (shG n f)) Aa 0 3 1 (λ_=>true) (lnN (mbF (shG n f)) (wrF (shG n f)) n) (λk i=>iV (ofNat (coN (mbF (shG n f)) (wrF (shG n f)) n k i)))),.cells [iV a,.ref 0,.ref 1,iV (ofNat (ttN n (shG n f))),iV (ofNat (kkN n (shG n f))),.ref 2,.jref 3],.row 92 6 n (λi=>eV (AT n f z i)),.row 92 6 n (λi=>eV (shG n (λi=>AT n f z i) i)),.row 80 5 n (λi=>.agg [iV (evF n (shG n (λi=>AT n f z i)) (λ_=>true) i).th,iV (evF n (shG n (λi=>AT n f z i)) (λ_=>true) i).pl,iV (evF n (shG n (λi=>AT n f z i)) (λ_=>true) i).dir,iV (evF n (shG n (λi=>AT n f z i)) (λ_=>true) i).loc,iV (evF n (shG n (λi=>AT n f z i)) (λ_=>true) i).val]),.row 3 1 n (λi=>iV (rfF n (shG n (λi=>AT n f z i)) (λ_=>true) i)),.jag (Jag.mk 24 1 (kkN n (shG n (λi=>AT n f z i))) Aa 0 3 1 (λ_=>true) (lnN (mbF (shG n (λi=>AT n f z i))) (wrF (shG n (λi=>AT n f z i))) n) (λk i=>iV (ofNat (coN (mbF (shG n (λi=>AT n f z i))) (wrF (shG n (λi=>AT n f z i))) n k i)))),.cells [iV a,.ref 6,.ref 7,iV (ofNat (ttN n (shG n (λi=>AT n f z i)))),iV (ofNat (kkN n (shG n (λi=>AT n f z i)))),.ref 8,.jref 9],.row 92 6 n (λi=>eV (shG n (λi=>shG n f i) i)),.row 80 5 n (λi=>.agg [iV (evF n (shG n (λi=>shG n f i)) (λ_=>true) i).th,iV (evF n (shG n (λi=>shG n f i)) (λ_=>true) i).pl,iV (evF n (shG n (λi=>shG n f i)) (λ_=>true) i).dir,iV (evF n (shG n (λi=>shG n f i)) (λ_=>true) i).loc,iV (evF n (shG n (λi=>shG n f i)) (λ_=>true) i).val]),.row 3 1 n (λi=>iV (rfF n (shG n (λi=>shG n f i)) (λ_=>true) i)),.jag (Jag.mk 24 1 (kkN n (shG n (λi=>shG n f i))) Aa 0 3 1 (λ_=>true) (lnN (mbF (shG n (λi=>shG n f i))) (wrF (shG n (λi=>shG n f i))) n) (λk i=>iV (ofNat (coN (mbF (shG n (λi=>shG n f i))) (wrF (shG n (λi=>shG n f i))) n k i)))),.cells [iV a,.ref 11,.ref 12,iV (ofNat (ttN n (shG n (λi=>shG n f i)))),iV (ofNat (kkN n (shG n (λi=>shG n f i)))),.ref 13,.jref 14]]⟩
def lp6 (a:Int) (n:Nat) (f:Nat->E6) (z:Int):Lp:=⟨bmK 147 0 [1,6,7,12,13,15,16,18,19,20],16,bmK 147 0 [1,6,7,12,13,15,16,18,19],16,18⟩
def st6 (a:Int) (n:Nat) (f:Nat->E6) (z:Int) (o m b:Nat) (j:Nat->V):St:=⟨jsV 147 0 j [(1,.sl 6 n λi=>eV (f i)),(6,bV false),(7,.ptr 4 0),(12,.ptr 10 0),(13,iV 0),(15,.ptr 15 0),(16,iV 0),(18,nV o),(19,nV m),(20,nV b)],[.row 92 6 n (λi=>eV (shG n f i)),.row 80 5 n (λi=>evV (evF n (shG n f) (λ_=>true) i)),.row 3 1 n (λi=>iV (rfF n (shG n f) (λ_=>true) i)),.jag (Jag.mk 24 1 (kkN n (shG n f)) Aa 0 3 1 (λ_=>true) (lnN (mbF (shG n f)) (wrF (shG n f)) n) (λk i=>iV (ofNat (coN (mbF (shG n f)) (wrF (shG n f)) n k i)))),.cells [iV a,.ref 0,.ref 1,iV (ofNat (ttN n (shG n f))),iV (ofNat (kkN n (shG n f))),.ref 2,.jref 3],.row 92 6 n (λi=>eV (AT n f z i)),.row 92 6 n (λi=>eV (shG n (λi=>AT n f z i) i)),.row 80 5 n (λi=>.agg [iV (evF n (shG n (λi=>AT n f z i)) (λ_=>true) i).th,iV (evF n (shG n (λi=>AT n f z i)) (λ_=>true) i).pl,iV (evF n (shG n (λi=>AT n f z i)) (λ_=>true) i).dir,iV (evF n (shG n (λi=>AT n f z i)) (λ_=>true) i).loc,iV (evF n (shG n (λi=>AT n f z i)) (λ_=>true) i).val]),.row 3 1 n (λi=>iV (rfF n (shG n (λi=>AT n f z i)) (λ_=>true) i)),.jag (Jag.mk 24 1 (kkN n (shG n (λi=>AT n f z i))) Aa 0 3 1 (λ_=>true) (lnN (mbF (shG n (λi=>AT n f z i))) (wrF (shG n (λi=>AT n f z i))) n) (λk i=>iV (ofNat (coN (mbF (shG n (λi=>AT n f z i))) (wrF (shG n (λi=>AT n f z i))) n k i)))),.cells [iV a,.ref 6,.ref 7,iV (ofNat (ttN n (shG n (λi=>AT n f z i)))),iV (ofNat (kkN n (shG n (λi=>AT n f z i)))),.ref 8,.jref 9],.row 92 6 n (λi=>eV (shG n (λi=>shG n f i) i)),.row 80 5 n (λi=>.agg [iV (evF n (shG n (λi=>shG n f i)) (λ_=>true) i).th,iV (evF n (shG n (λi=>shG n f i)) (λ_=>true) i).pl,iV (evF n (shG n (λi=>shG n f i)) (λ_=>true) i).dir,iV (evF n (shG n (λi=>shG n f i)) (λ_=>true) i).loc,iV (evF n (shG n (λi=>shG n f i)) (λ_=>true) i).val]),.row 3 1 n (λi=>iV (rfF n (shG n (λi=>shG n f i)) (λ_=>true) i)),.jag (Jag.mk 24 1 (kkN n (shG n (λi=>shG n f i))) Aa 0 3 1 (λ_=>true) (lnN (mbF (shG n (λi=>shG n f i))) (wrF (shG n (λi=>shG n f i))) n) (λk i=>iV (ofNat (coN (mbF (shG n (λi=>shG n f i))) (wrF (shG n (λi=>shG n f i))) n k i)))),.cells [iV a,.ref 11,.ref 12,iV (ofNat (ttN n (shG n (λi=>shG n f i)))),iV (ofNat (kkN n (shG n (λi=>shG n f i)))),.ref 13,.jref 14]]⟩
def en6e (a:Int) (n:Nat) (f:Nat->E6) (z:Int) (o m b:Nat):Ex×St:=(.ex 0,⟨jsV 147 0 Aa [(1,.sl 6 n λi=>eV (f i)),(6,bV false),(7,.ptr 4 0),(12,.ptr 10 0),(13,iV 0),(15,.ptr 15 0),(16,iV 0),(18,nV o),(19,nV m)],[.row 92 6 n (λi=>eV (shG n f i)),.row 80 5 n (λi=>evV (evF n (shG n f) (λ_=>true) i)),.row 3 1 n (λi=>iV (rfF n (shG n f) (λ_=>true) i)),.jag (Jag.mk 24 1 (kkN n (shG n f)) Aa 0 3 1 (λ_=>true) (lnN (mbF (shG n f)) (wrF (shG n f)) n) (λk i=>iV (ofNat (coN (mbF (shG n f)) (wrF (shG n f)) n k i)))),.cells [iV a,.ref 0,.ref 1,iV (ofNat (ttN n (shG n f))),iV (ofNat (kkN n (shG n f))),.ref 2,.jref 3],.row 92 6 n (λi=>eV (AT n f z i)),.row 92 6 n (λi=>eV (shG n (λi=>AT n f z i) i)),.row 80 5 n (λi=>.agg [iV (evF n (shG n (λi=>AT n f z i)) (λ_=>true) i).th,iV (evF n (shG n (λi=>AT n f z i)) (λ_=>true) i).pl,iV (evF n (shG n (λi=>AT n f z i)) (λ_=>true) i).dir,iV (evF n (shG n (λi=>AT n f z i)) (λ_=>true) i).loc,iV (evF n (shG n (λi=>AT n f z i)) (λ_=>true) i).val]),.row 3 1 n (λi=>iV (rfF n (shG n (λi=>AT n f z i)) (λ_=>true) i)),.jag (Jag.mk 24 1 (kkN n (shG n (λi=>AT n f z i))) Aa 0 3 1 (λ_=>true) (lnN (mbF (shG n (λi=>AT n f z i))) (wrF (shG n (λi=>AT n f z i))) n) (λk i=>iV (ofNat (coN (mbF (shG n (λi=>AT n f z i))) (wrF (shG n (λi=>AT n f z i))) n k i)))),.cells [iV a,.ref 6,.ref 7,iV (ofNat (ttN n (shG n (λi=>AT n f z i)))),iV (ofNat (kkN n (shG n (λi=>AT n f z i)))),.ref 8,.jref 9],.row 92 6 n (λi=>eV (shG n (λi=>shG n f i) i)),.row 80 5 n (λi=>.agg [iV (evF n (shG n (λi=>shG n f i)) (λ_=>true) i).th,iV (evF n (shG n (λi=>shG n f i)) (λ_=>true) i).pl,iV (evF n (shG n (λi=>shG n f i)) (λ_=>true) i).dir,iV (evF n (shG n (λi=>shG n f i)) (λ_=>true) i).loc,iV (evF n (shG n (λi=>shG n f i)) (λ_=>true) i).val]),.row 3 1 n (λi=>iV (rfF n (shG n (λi=>shG n f i)) (λ_=>true) i)),.jag (Jag.mk 24 1 (kkN n (shG n (λi=>shG n f i))) Aa 0 3 1 (λ_=>true) (lnN (mbF (shG n (λi=>shG n f i))) (wrF (shG n (λi=>shG n f i))) n) (λk i=>iV (ofNat (coN (mbF (shG n (λi=>shG n f i))) (wrF (shG n (λi=>shG n f i))) n k i)))),.cells [iV a,.ref 11,.ref 12,iV (ofNat (ttN n (shG n (λi=>shG n f i)))),iV (ofNat (kkN n (shG n (λi=>shG n f i)))),.ref 13,.jref 14]]⟩)
theorem ent6_eq (a:Int) (n:Nat) (f:Nat->E6) (z:Int):ent6 a n f z=st6 a n f z 0 0 0 (λi=>nth (ent6 a n f z).t i):=by kernel_rfl
end Go.Proofs.YtkgdhhieomndeaaGreatDoor.Sh
namespace Go.Proofs.YtkgdhhieomndeaaGreatDoor.Em
open Go.Sy Go Go.Proofs.YtkgdhhieomndeaaGreatDoor.Ed Go.Proofs.YtkgdhhieomndeaaGreatDoor.Sh
set_option maxRecDepth 100000
set_option maxHeartbeats 1000000
theorem crR_none {n:Nat} {l:Nat->Int} {c:Nat->Bool} {q:Int} (h:∀ i,i<n->Bd n l c q i=false):crR n l c q=(0,false):=by
 unfold crR;rw [CK.2 λk _ h2=>h k (by omega)]
theorem lstN_le (p:Nat->Bool) (n:Nat):Eh p n <= n:=by
 by_cases h:∃ i,i<n∧p i=true
 ·obtain ⟨i,h1,h2⟩:=h
  have:=(DN h1 h2).1;omega
 ·rw [GQ λi hi=>by
   cases hp:p i with
   | false=>rfl
   | true=>exact absurd ⟨i,hi,hp⟩ h]
  exact Nat.le_refl _
theorem small_16 {k:Nat} (h:k <= 16):Aj k=true:=decide_eq_true (by omega)
theorem sameB_rfl (n:Nat) (f:Nat->E6):Cv n f n f=true:=HZ.2 ⟨rfl,λ_ _=>rfl⟩
theorem sameI_rfl (n:Nat) (f:Nat->Int):CJ n f n f=true:=by
 unfold CJ;rw [Bq (Bm _)];exact A0.2 λ_ _=>Bm _
theorem sameJ_rfl (n:Nat) (ln:Nat->Nat) (co:Nat->Nat->Int):DJ n ln co n ln co=true:=by
 unfold DJ;rw [Bq (Bm _)];exact A0.2 λ_ _=>sameI_rfl _ _
theorem sameX_rfl (e:Ev5):F6 e e=true:=by
 unfold F6;rw [Bq (Bm _),Bq (Bm _),Bq (Bm _),Bq (Bm _),Bq (Bm _)]
theorem sameS_rfl (s:Sh7):FZ s s=true:=by
 unfold FZ;rw [Bq (Bm _),Bq (Bm _),Bq (Bm _),Bq (sameB_rfl _ _),Bq (Bm _),Bq (sameI_rfl _ _),Bq (sameJ_rfl _ _ _)];exact A0.2 λ_ _=>sameX_rfl _
theorem part_lt {p:Nat->Bool} {n i:Nat} (h:0<An p n) (hi:i<n):AX p n i<An p n∧AX p n i <= i:=by
 have h1:=Be p i;unfold AX;split
 ·exact ⟨h,Nat.zero_le _⟩
 ·rename_i hne
  have:=Bb p (show i <= n by omega);exact ⟨by omega,h1⟩
theorem Sz {x:Int} (h1:0 <= x) (h2:x<1000):wr .i64 x=x:=by
 unfold wr IntKind.wrap;simp [IntKind.bits,IntKind.signed];omega
theorem AfC (fe:Nat->Bool) (x:Nat->Ev5):∀ b,b <= 16->(∀ u,0 <= (wsF fe x b).nx u∧(wsF fe x b).nx u <= (b:Int))∧(∀ u,(wsF fe x b).lw u <= 2 * b)∧∀ i,i<b->ieq (x i).dir 2=false->0 <= (wsF fe x b).y i∧(wsF fe x b).y i<32
 | 0,_=>⟨λ_=>⟨Int.le_refl _,Int.le_refl _⟩,λ_=>Nat.le_refl _,λi hi=>absurd hi (Nat.not_lt_zero _)⟩
 | b+1,hb=>by
  obtain ⟨h1,h2,h3⟩:=AfC fe x b (by omega);have hw:wr .i64 (Af ((wsF fe x b).nx (toN (x b).th)) 1)=(wsF fe x b).nx (toN (x b).th)+1:=by
   have:=h1 (toN (x b).th);exact Sz (by unfold Af; omega) (by unfold Af; omega)
  have hp:∀ (lw:Nat->Nat) (q u u':Nat),(∀ u,lw u <= q)->FS lw u u' <= q+1:=λlw q u u' h=>by
   unfold FS sel AS;have:=h u;have:=h u';cases AE u' u <;> simp <;> omega
  refine ⟨λu=>?_,λu=>?_,λi hi hr=>?_⟩
  ·have g:=h1 u
   have g':=h1 (toN (x b).th);show 0 <= (evW (fe b) (x b) b (wsF fe x b)).nx u∧(evW (fe b) (x b) b (wsF fe x b)).nx u <= ((b+1:Nat):Int);unfold evW yW nxW Vw;cases ieq (x b).dir 2 <;> cases fe b <;> simp only [cond_true,cond_false]
   all_goals first
    | omega
    | (rw [hw]
       unfold sel;cases AE u (toN (x b).th) <;> simp <;> omega)
  ·show (evW (fe b) (x b) b (wsF fe x b)).lw u <= 2 * (b+1)
   unfold evW yW nxW Vw;cases ieq (x b).dir 2 <;> cases fe b <;> simp only [cond_true,cond_false]
   ·exact Nat.le_succ_of_le (hp _ _ _ _ h2)
   ·exact hp _ _ _ _ λu=>hp _ _ _ u h2
   ·exact Nat.le_succ_of_le (hp _ _ _ _ h2)
   ·exact hp _ _ _ _ λu=>hp _ _ _ u h2
  ·show 0 <= (evW (fe b) (x b) b (wsF fe x b)).y i∧(evW (fe b) (x b) b (wsF fe x b)).y i<32
   have g':=h1 (toN (x b).th);have hy:(evW (fe b) (x b) b (wsF fe x b)).y i=bif AE i b then yvW (x b) (wsF fe x b) else (wsF fe x b).y i:=by
    unfold evW yW nxW Vw;cases ieq (x b).dir 2 <;> cases fe b <;> rfl
   rw [hy];cases hib:AE i b with
   | true =>have:i=b:=Nat.eq_of_beq_eq_true hib;subst this;show 0 <= yvW (x i) (wsF fe x i)∧yvW (x i) (wsF fe x i)<32;unfold yvW;rw [hr,nbeq_self,hw];show 0 <= wr .i64 (A5 ((wsF fe x i).nx (toN (x i).th)+1) 1)∧wr .i64 (A5 ((wsF fe x i).nx (toN (x i).th)+1) 1)<32;rw [Sz (by unfold A5; omega) (by unfold A5; omega)];unfold A5;omega
   | false =>
    have:i ≠ b:=λhc=>by rw [hc,nbeq_self] at hib; cases hib
    exact h3 i (by omega) hr
theorem Ae4 {k:Nat} (hk:k<16):TB (B1 (Int.ofNat k))=true:=by
 have:k=0 ∨ k=1 ∨ k=2 ∨ k=3 ∨ k=4 ∨ k=5 ∨ k=6 ∨ k=7 ∨ k=8 ∨ k=9 ∨ k=10 ∨ k=11 ∨ k=12 ∨ k=13 ∨ k=14 ∨ k=15:=by omega
 rcases this with rfl | rfl | rfl | rfl | rfl | rfl | rfl | rfl | rfl | rfl | rfl | rfl | rfl | rfl | rfl | rfl <;> rfl
def W6 (p:Tg×Int):Prop:=tgB p.1.th p.1.rg p.1.lc=true∧GP p.2=true
theorem Afq {l:List (Tg×Int)} (h:∀ p,p ∈ l->W6 p):tgA l.length (gT l)=true∧Aba l.length (gW l)=true:=by
 have key:∀ i,i<l.length->W6 (l.getD i (⟨0,0,[]⟩,0)):=λi hi=>h _ (by simp [List.getD,hi]);exact ⟨A0.2 λi hi=>(key i hi).1,A0.2 λi hi=>(key i hi).2⟩
theorem VV {x:Nat->Ev5} {rg:Nat->Int} {m:Nat} (h:∀ i,i<m->ieq (x i).dir 1=true->W6 (⟨(x i).th,rg i,[]⟩,(x i).val)):∀ i,i <= m->∀ p,p ∈ evL x rg i->W6 p
 | 0,_,p,hp=>by cases hp
 | i+1,hi,p,hp=>by
  rw [evL] at hp;cases hc:ieq (x i).dir 1 with
  | true =>
   rw [hc] at hp;rcases List.mem_append.1 (show p ∈ _++_ from hp) with hp | hp
   ·exact VV h i (by omega) p hp
   ·simp only [List.mem_cons,List.not_mem_nil,or_false] at hp
    subst hp;exact h i (by omega) hc
  | false =>rw [hc] at hp;exact VV h i (by omega) p hp
theorem Abx {l:List (Tg×Int)} {ln s1:Nat->Nat} {A:Nat} (hl:∀ p,p ∈ l->W6 p) (h:∀ i,i<A->s1 i<16∧ln (s1 i) <= 1000):∀ b,b <= A->∀ p,p ∈ loL l ln s1 b->W6 p
 | 0,_,p,hp=>hl p hp
 | b+1,hb,p,hp=>by
  rw [loL] at hp;rcases List.mem_append.1 hp with hp | hp
  ·exact Abx hl h b (by omega) p hp
  ·simp only [List.mem_cons,List.not_mem_nil,or_false] at hp
   subst hp;obtain ⟨h1,h2⟩:=h b (by omega);refine ⟨?_,?_⟩
   ·show (bif ieq (-1) (-1) then (ieq 0 0 && TB (B1 (Int.ofNat (s1 b)))) else _)=true
    rw [Ae4 h1];rfl
   ·unfold GP
    rw [show ile (-2147483648) (Int.ofNat (ln (s1 b)))=true from decide_eq_true (by simp only [Int.ofNat_eq_natCast]; omega)];exact decide_eq_true (by simp only [Int.ofNat_eq_natCast]; omega)
theorem ln_le (m w:Nat->Bool) (n k:Nat):lnN m w n k <= n+1:=by
 unfold lnN Ck;refine Nat.le_trans (Be _ _) ?_;have:=lstN_le (λt=>m (rnd n (stN m n k) t)) n;omega
theorem Ahm (m w:Nat->Bool) (n i:Nat):QJ m w n i <= n+1:=by
 unfold QJ;refine Nat.le_trans (Be _ _) ?_;have:=lstN_le (λd=>m (rnd n i (n-1-d))) n;unfold H6;omega
end Go.Proofs.YtkgdhhieomndeaaGreatDoor.Em
