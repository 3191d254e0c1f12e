/-
  Two tests held against one another (SameTest): a test and itself. No conditions.
-/
import Derived.Test.YtkgdhhieomndeaaGreatDoorShVc
import Derived.Test.YtkgdhhieomndeaaGreatDoorShAc
import Derived.Test.YtkgdhhieomndeaaGreatDoorShT
namespace Go.Proofs.YtkgdhhieomndeaaGreatDoor.Em
open Go.Sy Go Go.Proofs.YtkgdhhieomndeaaGreatDoor.Ed Go.Proofs.YtkgdhhieomndeaaGreatDoor.Sh
open Int (ofNat)
set_option maxRecDepth 100000
set_option maxHeartbeats 1000000
structure In5 where
 th:Int
 rg:Int
 lc:List UInt8
 vl:List UInt8
 vn:Int
def Ht (e:In5):V:=.agg [iV e.th,iV e.rg,.str e.lc,.str e.vl,iV e.vn]
def AaH:V->Option In5
 | .agg [.val (.int .i64 a),.val (.int .i64 b),.str c,.str d,.val (.int .i64 e)]=>some ⟨a,b,c,d,e⟩
 | _=>none
def AbR (v:V):Bool:=match AaH v with
 | some _=>true
 | none=>false
def Adp (v:V):In5:=match AaH v with
 | some e=>e
 | none=>⟨0,0,[],[],0⟩
theorem Wy {v:V} (h:AbR v=true):v=Ht (Adp v):=by
 unfold AbR at h;unfold Adp;split at h
 ·rename_i e he
  unfold AaH at he;split at he
  ·cases he
   rfl
  ·cases he
 ·cases h
def Ak7:Cod In5:=⟨5,Ht,AbR,Adp,λv h S w c hv=>by rw [<- Wy h]; exact hv⟩
structure Te where
 a:Int
 nm:List UInt8
 cy:List UInt8
 k:Nat
 I:Nat->In5
 t:Nat
 lw:Nat->Nat
 cw:Nat->Nat->In4
 qt:Int
 nd:Nd
def teV (z:Te):V:=.agg [iV z.a,.str z.nm,.str z.cy,.sl 5 z.k (λi=>Ht (z.I i)),.sl 1 z.t (λu=>.sl 8 (z.lw u) (λi=>inV (z.cw u i))),iV z.qt,iV z.nd.kd,iV z.nd.th,iV z.nd.rg,.str z.nd.lc,iV z.nd.v,.sl 6 z.nd.n (BQ z.nd.X z.nd.f)]
def Ags {β:Type} (v:V) (F:Te->T β):T β:=match v with
 | .agg [.val (.int .i64 a),.str nm,.str cy,i,c,.val (.int .i64 qt),.val (.int .i64 kd),.val (.int .i64 th),.val (.int .i64 rg),.str lc,.val (.int .i64 v),ks] =>
  apG Ak7 i λk I=>apG Ak6 c λt C=>apG Ad5 ks λn g=>F ⟨a,nm,cy,k,I,t,λu=>(C u).1,λu=>(C u).2,qt,⟨kd,th,rg,lc,v,n,λi=>(g i).1,λi=>(g i).2⟩⟩
 | _=>.fail
theorem QZ {β:Type} {v:V} {F:Te->T β} {r:β} (h:(Ags v F).sem=some r) :
  ∃ z,(∀ (S:Nat->Prop) (w:World) (u:Value),VR S w v noK u->VR S w (teV z) noK u)∧(F z).sem=some r:=by
 unfold Ags at h;split at h
 ·obtain ⟨k,I,h1,h⟩:=Bz h
  obtain ⟨t,C,h2,h⟩:=Bz h;obtain ⟨n,g,h3,h⟩:=Bz h;refine ⟨_,λS w u hv=>?_,h⟩;obtain ⟨ca,e,c1,l1,e1,q1,c2,l2,e2,q2,c3,l3,e3,q3,c4,l4,e4,q4,c5,l5,e5,q5,c6,l6,e6,q6,c7,l7,e7,q7,c8,l8,e8,q8,c9,l9,e9,q9,c10,l10,e10,q10,c11,l11,e11,q11,c12,l12,e12,q12,q13⟩:=hv;exact ⟨ca,e,c1,l1,e1,q1,c2,l2,e2,q2,c3,l3,e3,q3,c4,l4,e4,h1 S w c4 q4,c5,l5,e5,h2 S w c5 q5,c6,l6,e6,q6,c7,l7,e7,q7,c8,l8,e8,q8,c9,l9,e9,q9,c10,l10,e10,q10,c11,l11,e11,q11,c12,l12,e12,h3 S w c12 q12,q13⟩
 ·cases h
def Ael (z:Te):Bool:=Af z.t && ((A4 z.t λi=>nlt (z.lw i) 40) && (Af z.k && Bn 0 z.nd.n 72))
noncomputable def sameTT:List V->AE
 | [u,v]=>Ags u λz=>Ags v λy=>.br (TS z y) (.br (Ael z) (.leaf (bV true,[])) .fail) .fail
 | _=>.fail
noncomputable def NZ:AK:=(27,R9)::(28,AbV)::[]
theorem AaX:Aq Tryz.prog Gl NZ:=.cons Ap3 <| .cons Ap7 .nil
theorem TT (n:Nat) (ln:Nat->Nat) (c:Nat->Nat->In4):R2 n ln c n ln c=true:=by
 simp [R2,ZW,Ao,ieq,seq,A4]
def YA (a:Int) (nm cy:List UInt8) (k:Nat) (I:Nat->In5) (t:Nat) (lw:Nat->Nat) (cw:Nat->Nat->In4) (qt kd th rg:Int) (lc:List UInt8) (v:Int) (n:Nat) (X:Nat->Tg) (f:Nat->Int) :St:=⟨jsV 76 0 (λ_=>A9) [(0,.agg [iV a,.str nm,.str cy,.sl 5 k (λi=>.agg [iV (I i).th,iV (I i).rg,.str (I i).lc,.str (I i).vl,iV (I i).vn]),.sl 1 t (λu=>.sl 8 (lw u) (λi=>.agg [iV (cw u i).op,iV (cw u i).d,iV 0,iV 0,iV (cw u i).imm,.str (cw u i).loc,.str [],iV 0])),iV qt,iV kd,iV th,iV rg,.str lc,iV v,.sl 6 n (λi=>.agg [iV 2,iV (X i).th,iV (X i).rg,.str (X i).lc,iV (f i),.nilS])]),(1,.agg [iV a,.str nm,.str cy,.sl 5 k (λi=>.agg [iV (I i).th,iV (I i).rg,.str (I i).lc,.str (I i).vl,iV (I i).vn]),.sl 1 t (λu=>.sl 8 (lw u) (λi=>.agg [iV (cw u i).op,iV (cw u i).d,iV 0,iV 0,iV (cw u i).imm,.str (cw u i).loc,.str [],iV 0])),iV qt,iV kd,iV th,iV rg,.str lc,iV v,.sl 6 n (λi=>.agg [iV 2,iV (X i).th,iV (X i).rg,.str (X i).lc,iV (f i),.nilS])]),(2,.ptr 0 0),(3,.ptr 1 0),(4,bV false),(5,iV 0),(6,.ptr 0 0),(7,iV a),(8,.ptr 1 0),(9,iV a),(10,bV (A5 (ieq a a))),(11,bV (A5 (ieq a a))),(12,.ptr 0 1),(13,.str nm),(14,.ptr 1 1),(15,.str nm),(16,bV (A5 (seq nm nm))),(17,bV (A5 (seq nm nm))),(18,bV (A5 (seq nm nm))),(19,.ptr 0 2),(20,.str cy),(21,.ptr 1 2),(22,.str cy),(23,bV (A5 (seq cy cy))),(24,bV (A5 (seq cy cy))),(25,bV (A5 (seq cy cy))),(26,.ptr 0 3),(27,.sl 5 k (λi=>.agg [iV (I i).th,iV (I i).rg,.str (I i).lc,.str (I i).vl,iV (I i).vn])),(28,nV k),(29,.ptr 1 3),(30,.sl 5 k (λi=>.agg [iV (I i).th,iV (I i).rg,.str (I i).lc,.str (I i).vl,iV (I i).vn])),(31,nV k),(32,bV (A5 (ieq (ofNat k) (ofNat k)))),(33,bV (A5 (ieq (ofNat k) (ofNat k)))),(34,bV (A5 (ieq (ofNat k) (ofNat k)))),(35,.ptr 0 4),(36,.sl 1 t (λu=>.sl 8 (lw u) (λi=>.agg [iV (cw u i).op,iV (cw u i).d,iV 0,iV 0,iV (cw u i).imm,.str (cw u i).loc,.str [],iV 0]))),(37,.ptr 1 4),(38,.sl 1 t (λu=>.sl 8 (lw u) (λi=>.agg [iV (cw u i).op,iV (cw u i).d,iV 0,iV 0,iV (cw u i).imm,.str (cw u i).loc,.str [],iV 0]))),(39,bV true),(40,bV (A5 true)),(41,bV (A5 true)),(42,bV (A5 true)),(43,.ptr 0 5),(44,.ptr 0 5),(45,iV qt),(46,.ptr 1 5),(47,.ptr 1 5),(48,iV qt),(49,bV (A5 (ieq qt qt))),(50,bV (A5 (ieq qt qt)))],[.cells [iV a,.str nm,.str cy,.sl 5 k (λi=>.agg [iV (I i).th,iV (I i).rg,.str (I i).lc,.str (I i).vl,iV (I i).vn]),.sl 1 t (λu=>.sl 8 (lw u) (λi=>.agg [iV (cw u i).op,iV (cw u i).d,iV 0,iV 0,iV (cw u i).imm,.str (cw u i).loc,.str [],iV 0])),iV qt,iV kd,iV th,iV rg,.str lc,iV v,.sl 6 n (λi=>.agg [iV 2,iV (X i).th,iV (X i).rg,.str (X i).lc,iV (f i),.nilS])],.cells [iV a,.str nm,.str cy,.sl 5 k (λi=>.agg [iV (I i).th,iV (I i).rg,.str (I i).lc,.str (I i).vl,iV (I i).vn]),.sl 1 t (λu=>.sl 8 (lw u) (λi=>.agg [iV (cw u i).op,iV (cw u i).d,iV 0,iV 0,iV (cw u i).imm,.str (cw u i).loc,.str [],iV 0])),iV qt,iV kd,iV th,iV rg,.str lc,iV v,.sl 6 n (λi=>.agg [iV 2,iV (X i).th,iV (X i).rg,.str (X i).lc,iV (f i),.nilS])]]⟩
def Anm (a:Int) (nm cy:List UInt8) (k:Nat) (I:Nat->In5) (t:Nat) (lw:Nat->Nat) (cw:Nat->Nat->In4) (qt kd th rg:Int) (lc:List UInt8) (v:Int) (n:Nat) (X:Nat->Tg) (f:Nat->Int):Lp:=⟨bmK 76 0 [2,3,4,5],2,bmK 76 0 [2,3,4],2,0⟩
def AeI (a:Int) (nm cy:List UInt8) (k:Nat) (I:Nat->In5) (t:Nat) (lw:Nat->Nat) (cw:Nat->Nat->In4) (qt kd th rg:Int) (lc:List UInt8) (v:Int) (n:Nat) (X:Nat->Tg) (f:Nat->Int) (b:Nat) (j:Nat->V):St:=⟨jsV 76 0 j [(2,.ptr 0 0),(3,.ptr 1 0),(4,bV false),(5,nV b)],[.cells [iV a,.str nm,.str cy,.sl 5 k (λi=>Ht (I i)),.sl 1 t (λu=>.sl 8 (lw u) (λi=>inV (cw u i))),iV qt,iV kd,iV th,iV rg,.str lc,iV v,.sl 6 n (λi=>BQ X f i)],.cells [iV a,.str nm,.str cy,.sl 5 k (λi=>Ht (I i)),.sl 1 t (λu=>.sl 8 (lw u) (λi=>inV (cw u i))),iV qt,iV kd,iV th,iV rg,.str lc,iV v,.sl 6 n (λi=>BQ X f i)]]⟩
def Vf (a:Int) (nm cy:List UInt8) (k:Nat) (I:Nat->In5) (t:Nat) (lw:Nat->Nat) (cw:Nat->Nat->In4) (qt kd th rg:Int) (lc:List UInt8) (v:Int) (n:Nat) (X:Nat->Tg) (f:Nat->Int) (b:Nat):Ex×St:=(.ex 0,⟨jsV 76 0 Aa [(2,.ptr 0 0),(3,.ptr 1 0),(4,bV false)],[.cells [iV a,.str nm,.str cy,.sl 5 k (λi=>Ht (I i)),.sl 1 t (λu=>.sl 8 (lw u) (λi=>inV (cw u i))),iV qt,iV kd,iV th,iV rg,.str lc,iV v,.sl 6 n (λi=>BQ X f i)],.cells [iV a,.str nm,.str cy,.sl 5 k (λi=>Ht (I i)),.sl 1 t (λu=>.sl 8 (lw u) (λi=>inV (cw u i))),iV qt,iV kd,iV th,iV rg,.str lc,iV v,.sl 6 n (λi=>BQ X f i)]]⟩)
noncomputable def P4 (L:LT):St->T (Ex×St):=λst=>AD tab ⟨Am NZ,L,Gl⟩ (Au Tryz.f8 0) 0 st
section
variable (L:LT) (a:Int) (nm cy:List UInt8) (k:Nat) (I:Nat->In5) (t:Nat) (lw:Nat->Nat) (cw:Nat->Nat->In4) (qt kd th rg:Int) (lc:List UInt8) (v:Int) (n:Nat) (X:Nat->Tg) (f:Nat->Int) (b:Nat)  (j:Nat->V)
include L a nm cy k I t lw cw qt kd th rg lc v n X f b j
theorem Ap0 (h0:ilt (ofNat b) (ofNat k)=false):Al (P4 L) (Anm a nm cy k I t lw cw qt kd th rg lc v n X f) (AeI a nm cy k I t lw cw qt kd th rg lc v n X f b j)=some ((.ex 0),⟨jsV 76 0 Aa [(2,.ptr 0 0),(3,.ptr 1 0),(4,bV false)],[.cells [iV a,.str nm,.str cy,.sl 5 k (λi=>.agg [iV (I i).th,iV (I i).rg,.str (I i).lc,.str (I i).vl,iV (I i).vn]),.sl 1 t (λu=>.sl 8 (lw u) (λi=>.agg [iV (cw u i).op,iV (cw u i).d,iV 0,iV 0,iV (cw u i).imm,.str (cw u i).loc,.str [],iV 0])),iV qt,iV kd,iV th,iV rg,.str lc,iV v,.sl 6 n (λi=>.agg [iV 2,iV (X i).th,iV (X i).rg,.str (X i).lc,iV (f i),.nilS])],.cells [iV a,.str nm,.str cy,.sl 5 k (λi=>.agg [iV (I i).th,iV (I i).rg,.str (I i).lc,.str (I i).vl,iV (I i).vn]),.sl 1 t (λu=>.sl 8 (lw u) (λi=>.agg [iV (cw u i).op,iV (cw u i).d,iV 0,iV 0,iV (cw u i).imm,.str (cw u i).loc,.str [],iV 0])),iV qt,iV kd,iV th,iV rg,.str lc,iV v,.sl 6 n (λi=>.agg [iV 2,iV (X i).th,iV (X i).rg,.str (X i).lc,iV (f i),.nilS])]]⟩):=by
 exact Ac (ks:=[kn h0]) (by kernel_rfl)
theorem Apz (h0:ilt (ofNat b) (ofNat k)=true) (h31:ile 0 (ofNat b)=true) (h32:seq (I b).lc (I b).lc=true) (h33:seq (I b).vl (I b).vl=true):Al (P4 L) (Anm a nm cy k I t lw cw qt kd th rg lc v n X f) (AeI a nm cy k I t lw cw qt kd th rg lc v n X f b j)=some (.nm,⟨jsV 76 0 Aa [(2,.ptr 0 0),(3,.ptr 1 0),(4,bV false),(5,iV (wr .i64 (Ak (ofNat b) 1)))],[.cells [iV a,.str nm,.str cy,.sl 5 k (λi=>.agg [iV (I i).th,iV (I i).rg,.str (I i).lc,.str (I i).vl,iV (I i).vn]),.sl 1 t (λu=>.sl 8 (lw u) (λi=>.agg [iV (cw u i).op,iV (cw u i).d,iV 0,iV 0,iV (cw u i).imm,.str (cw u i).loc,.str [],iV 0])),iV qt,iV kd,iV th,iV rg,.str lc,iV v,.sl 6 n (λi=>.agg [iV 2,iV (X i).th,iV (X i).rg,.str (X i).lc,iV (f i),.nilS])],.cells [iV a,.str nm,.str cy,.sl 5 k (λi=>.agg [iV (I i).th,iV (I i).rg,.str (I i).lc,.str (I i).vl,iV (I i).vn]),.sl 1 t (λu=>.sl 8 (lw u) (λi=>.agg [iV (cw u i).op,iV (cw u i).d,iV 0,iV 0,iV (cw u i).imm,.str (cw u i).loc,.str [],iV 0])),iV qt,iV kd,iV th,iV rg,.str lc,iV v,.sl 6 n (λi=>.agg [iV 2,iV (X i).th,iV (X i).rg,.str (X i).lc,iV (f i),.nilS])]]⟩):=by
 exact Ac (ks:=[kn h0,kA (kn h31) (kn h0),kA (kn h31) (kn h0),kN (kA (kI (I b).th) (kA (kI (I b).rg) (kA (kn h32) (kA (kA (kn h33) (kA (kI (I b).vn) kT)) kT))))]) (by kernel_rfl)
end
theorem w10 (L:LT) (p0:PT) (a:Int) (nm cy:List UInt8) (k:Nat) (I:Nat->In5) (t:Nat) (lw:Nat->Nat) (cw:Nat->Nat->In4) (qt kd th rg:Int) (lc:List UInt8) (v:Int) (n:Nat) (X:Nat->Tg) (f:Nat->Int) (h30:seq nm nm=true) (h31:seq cy cy=true) (h32:A4 t (λi=>A4 (lw i) (λ_=>Ao (ieq 0 0) (Ao (ieq 0 0) (Ao (seq [] []) (ieq 0 0)))))=true) (h33:Af t=true) (h34:A4 t (λi=>nlt (lw i) 40)=true) (h35:R2 t lw (λi i_1=>cw i i_1) t lw (λi i_1=>cw i i_1)=true) (h36:A4 n (λ_=>ieq 2 2)=true) (h37:TS (Nd.mk kd th rg lc v n X f) (Nd.mk kd th rg lc v n X f)=true) (h38:Bn 0 n 72=true) (hp0:p0 (P4 (onP 0 p0 (Vf a nm cy k I t lw cw qt kd th rg lc v n X f k) L)) (YA a nm cy k I t lw cw qt kd th rg lc v n X f)=true):(Ay (Ai tab ⟨Am NZ,onP 0 p0 (Vf a nm cy k I t lw cw qt kd th rg lc v n X f k) L,Gl⟩ Tryz.f8 [.agg [iV a,.str nm,.str cy,.sl 5 k (λi=>Ht (I i)),.sl 1 t (λu=>.sl 8 (lw u) (λi=>inV (cw u i))),iV qt,iV kd,iV th,iV rg,.str lc,iV v,.sl 6 n (λi=>BQ X f i)],.agg [iV a,.str nm,.str cy,.sl 5 k (λi=>Ht (I i)),.sl 1 t (λu=>.sl 8 (lw u) (λi=>inV (cw u i))),iV qt,iV kd,iV th,iV rg,.str lc,iV v,.sl 6 n (λi=>BQ X f i)]] [])).sem=some ((bV true),[]):=by
 exact Ac (ks:=[kN (kI a),kN (kI a),kN (kI a),kN (kI a),kN (kI a),kN (kI a),kN (kn h30),kN (kn h30),kN (kn h30),kN (kn h30),kN (kn h30),kN (kn h30),kN (kn h31),kN (kn h31),kN (kn h31),kN (kn h31),kN (kn h31),kN (kn h31),kN (kn h31),kN (kn h31),kN (kI (ofNat k)),kN (kI (ofNat k)),kN (kI (ofNat k)),kN (kI (ofNat k)),kN (kI (ofNat k)),kn h32,kn h32,kn h33,kn h34,kn h35,kN (kI (ofNat k)),kN (kI (ofNat k)),kN kT,kN kT,kN kT,kN kT,kN kT,kN kT,kN kT,kN kT,kN (kI qt),kn hp0,kn h36,kn h36,kn h37,kn h38]) (by kernel_rfl)
section
variable (a:Int) (nm cy:List UInt8) (k:Nat) (I:Nat->In5) (t:Nat) (lw:Nat->Nat) (cw:Nat->Nat->In4) (qt kd th rg:Int) (lc:List UInt8) (v:Int) (n:Nat) (X:Nat->Tg) (f:Nat->Int)
theorem AgZ (M:LT) (hk:k <= 4611686018427387904):∀ (d b:Nat) (j:Nat->V),k=b+d->LRun ⟨Am NZ,Gl⟩ (P4 M) (AeI a nm cy k I t lw cw qt kd th rg lc v n X f b j) (Vf a nm cy k I t lw cw qt kd th rg lc v n X f k)
 | 0,b,j,h=>by
  have:k=b:=by omega
  subst this;exact LRun.exit (Ap0 M a nm cy k I t lw cw qt kd th rg lc v n X f k j (Aw (Nat.le_refl _))) (by simp)
 | d+1,b,j,h=>by
  have hb:b<k:=by omega
  have h1:=Apz M a nm cy k I t lw cw qt kd th rg lc v n X f b j (ofNat_lt hb) (AX b) (Dh _) (Dh _);rw [Ap hb hk] at h1;exact LRun.round h1 (LE.refl _) (AgZ M hk d (b+1) Aa (by omega))
theorem Adf:YA a nm cy k I t lw cw qt kd th rg lc v n X f=AeI a nm cy k I t lw cw qt kd th rg lc v n X f 0 (λi=>nth (YA a nm cy k I t lw cw qt kd th rg lc v n X f).t i):=by kernel_rfl
end
theorem ApA:Ax Tryz.prog Gl 8 sameTT:=by
 refine Aj A7 mixed Tryz.func8 (by kernel_rfl) (by kernel_rfl) λvs v h' h=>?_;unfold sameTT at h;split at h
 ·rename_i u1 v1
  obtain ⟨z,a1,h⟩:=QZ h;obtain ⟨y,a2,h⟩:=QZ h;obtain ⟨hy,h⟩:=Ad h;obtain ⟨hz,h⟩:=Ad h;have:=Ab h;simp only [Prod.mk.injEq] at this;obtain ⟨rfl,rfl⟩:=this;have hy:=TR hy;subst hy;obtain ⟨a,nm,cy,k,I,t,lw,cw,qt,kd,th,rg,lc,v,n,X,f⟩:=z;simp only [Ael,Bool.and_eq_true] at hz;obtain ⟨h1,h2,h3,h4⟩:=hz;have hA:Bj [u1,v1] [.agg [iV a,.str nm,.str cy,.sl 5 k (λi=>Ht (I i)),.sl 1 t (λu=>.sl 8 (lw u) (λi=>inV (cw u i))),iV qt,iV kd,iV th,iV rg,.str lc,iV v,.sl 6 n (λi=>BQ X f i)],.agg [iV a,.str nm,.str cy,.sl 5 k (λi=>Ht (I i)),.sl 1 t (λu=>.sl 8 (lw u) (λi=>inV (cw u i))),iV qt,iV kd,iV th,iV rg,.str lc,iV v,.sl 6 n (λi=>BQ X f i)]]:=λS w cs hv=>by
   obtain ⟨c,l,rfl,q1,d,l',rfl,q2,q3⟩:=hv;exact ⟨c,_,rfl,a1 S w c q1,d,_,rfl,a2 S w d q2,q3⟩
  have hc0:Bv Tryz.prog ⟨Am NZ,Gl⟩:=(AH AaX [] (G:=Gl)).1;have hrun:∀ M,LRun ⟨Am NZ,Gl⟩ (P4 M) (YA a nm cy k I t lw cw qt kd th rg lc v n X f) (Vf a nm cy k I t lw cw qt kd th rg lc v n X f k):=λM=>by
   rw [Adf];exact AgZ a nm cy k I t lw cw qt kd th rg lc v n X f M (of_decide_eq_true h3) k 0 _ (by omega)
  exact ⟨_,⟨Am NZ,_,Gl⟩,_,hA,rfl,hc0,HH (k:=0) (r:=Vf a nm cy k I t lw cw qt kd th rg lc v n X f k) GO,w10 noL _ a nm cy k I t lw cw qt kd th rg lc v n X f (Dh _) (Dh _) (A0.2 λ_ _=>A0.2 λ_ _=>rfl) h1 h2 (TT _ _ _) (A0.2 λ_ _=>rfl) (Qn _) h4 (E1 (hrun _)),Av.refl _⟩
 ·cases h
end Go.Proofs.YtkgdhhieomndeaaGreatDoor.Em
namespace Go.Proofs.YtkgdhhieomndeaaGreatDoor.Sh
open Go.Sy Ed
open Int (ofNat)
set_option maxHeartbeats 1000000
set_option maxRecDepth 4000
theorem VQ {a:Int} {n:Nat} {f:Nat->E6} (h:IsCycle a n f) {k:Nat} (hk:k<n):shG n (λi=>f ((k+i) % n))=shG n f:=by
 have hlo:=h.lo;have key:∀ i,i<n->AY n (λi=>f ((k+i) % n)) i=AY n f i:=λi hi=>IM (by omega) hk h.may hi;have hq:shQ n (λi=>f ((k+i) % n))=shQ n f:=by
  unfold shQ;rw [FU (p:=λi=>AB (AY n (λi=>f ((k+i) % n)) i)) (q:=λi=>AB (AY n f i)) λi hi=>by rw [key i hi]]
 funext i;by_cases hi:i<n
 ·rw [Fz hi,Fz hi,hq]
  exact key _ (Nat.mod_lt _ (by omega))
 ·unfold shG Aae
  rw [decide_eq_false hi];rfl
noncomputable def tb6:AK:=(57,ofT)::(9,I5)::(52,Nr)::(69,Jc)::(78,BW λe=>bV (AB e))::(79,BW λe=>bV (AN e))::(35,GE)::[]
theorem tb6_ok:Aq Tryz.prog Gl tb6:=.cons p14 <| .cons p16 <| .cons p49 <| .cons Ed.p69 <| .cons Ed.p60 <| .cons Ed.p61 <| .cons AbK .nil
def ent6 (a:Int) (n:Nat) (f:Nat->E6) (z:Int) :St:=⟨jsV 147 0 (λ_=>A9) [(0,iV a),(1,.sl 6 n (λi=>eV (f i))),(2,iV z),(6,bV false),(7,.ptr 4 0),(8,iV 0),(9,iV 0),(10,iV (BK a n f)),(11,iV (D4 a n f)),(12,.ptr 10 0),(13,iV 0),(14,iV 0),(15,.ptr 15 0),(16,iV 0),(17,iV 0),(18,iV 0),(19,iV 0),(20,iV 0),(23,.tup [.agg [iV a,.ref 0,.ref 1,iV (ofNat (ttN n (shG n f))),iV (ofNat (kkN n (shG n f))),.ref 2,.jref 3],iV 0,iV 0]),(24,iV a),(25,.sl 6 n (λi=>eV (f i))),(26,.tup [.agg [iV a,.ref 0,.ref 1,iV (ofNat (ttN n (shG n f))),iV (ofNat (kkN n (shG n f))),.ref 2,.jref 3],iV 0,iV 0]),(27,.agg [iV a,.ref 0,.ref 1,iV (ofNat (ttN n (shG n f))),iV (ofNat (kkN n (shG n f))),.ref 2,.jref 3]),(28,iV 0),(29,iV 0),(30,.tup [iV (BK a n f),iV (D4 a n f)]),(31,iV a),(32,.sl 6 n (λi=>eV (f i))),(33,.tup [iV (BK a n f),iV (D4 a n f)]),(34,iV (BK a n f)),(35,iV (D4 a n f)),(36,iV 0),(37,iV (BK a n f)),(38,bV (A5 (ieq 0 (BK a n f)))),(39,bV (A5 (ieq 0 (BK a n f)))),(40,bV true),(41,bV (A5 true)),(42,bV (A5 true)),(43,iV 0),(44,bV (A5 (ieq 0 0))),(59,.tup [.agg [iV a,.ref 6,.ref 7,iV (ofNat (ttN n (shG n (λi=>AT n f z i)))),iV (ofNat (kkN n (shG n (λi=>AT n f z i)))),.ref 8,.jref 9],iV 0,iV 0]),(60,iV a),(61,.sl 6 n (λi=>eV (f i))),(62,iV z),(63,.ref 5),(64,.tup [.agg [iV a,.ref 6,.ref 7,iV (ofNat (ttN n (shG n (λi=>AT n f z i)))),iV (ofNat (kkN n (shG n (λi=>AT n f z i)))),.ref 8,.jref 9],iV 0,iV 0]),(65,.agg [iV a,.ref 6,.ref 7,iV (ofNat (ttN n (shG n (λi=>AT n f z i)))),iV (ofNat (kkN n (shG n (λi=>AT n f z i)))),.ref 8,.jref 9]),(66,iV 0),(67,iV 0),(68,.tup [.agg [iV a,.ref 11,.ref 12,iV (ofNat (ttN n (shG n (λi=>shG n f i)))),iV (ofNat (kkN n (shG n (λi=>shG n f i)))),.ref 13,.jref 14],iV 0,iV 0]),(69,iV a),(70,.ptr 4 1),(71,.ref 0),(72,.tup [.agg [iV a,.ref 11,.ref 12,iV (ofNat (ttN n (shG n (λi=>shG n f i)))),iV (ofNat (kkN n (shG n (λi=>shG n f i)))),.ref 13,.jref 14],iV 0,iV 0]),(73,.agg [iV a,.ref 11,.ref 12,iV (ofNat (ttN n (shG n (λi=>shG n f i)))),iV (ofNat (kkN n (shG n (λi=>shG n f i)))),.ref 13,.jref 14]),(74,iV 0),(75,iV 0)],[.row 92 6 n (λi=>eV (shG n f i)),.row 80 5 n (λi=>evV (evF n (shG n f) (λ_=>true) i)),.row 3 1 n (λi=>iV (rfF n (shG n f) (λ_=>true) i)),.jag (Jag.mk 24 1 (kkN n (shG n f)) Aa 0 3 1 (λ_=>true) (lnN (mbF (shG n f)) (wrF (shG n f)) n) (λk i=>iV (ofNat (coN (mbF (shG n f)) (wrF (shG n f)) n k i)))),.cells [iV a,.ref 0,.ref 1,iV (ofNat (ttN n (shG n f))),iV (ofNat (kkN n (shG n f))),.ref 2,.jref 3],.row 92 6 n (λi=>eV (AT n f z i)),.row 92 6 n (λi=>eV (shG n (λi=>AT n f z i) i)),.row 80 5 n (λi=>.agg [iV (evF n (shG n (λi=>AT n f z i)) (λ_=>true) i).th,iV (evF n (shG n (λi=>AT n f z i)) (λ_=>true) i).pl,iV (evF n (shG n (λi=>AT n f z i)) (λ_=>true) i).dir,iV (evF n (shG n (λi=>AT n f z i)) (λ_=>true) i).loc,iV (evF n (shG n (λi=>AT n f z i)) (λ_=>true) i).val]),.row 3 1 n (λi=>iV (rfF n (shG n (λi=>AT n f z i)) (λ_=>true) i)),.jag (Jag.mk 24 1 (kkN n (shG n (λi=>AT n f z i))) Aa 0 3 1 (λ_=>true) (lnN (mbF (shG n (λi=>AT n f z i))) (wrF (shG n (λi=>AT n f z i))) n) (λk i=>iV (ofNat (coN (mbF (shG n (λi=>AT n f z i))) (wrF (shG n (λi=>AT n f z i))) n k i)))),.cells [iV a,.ref 6,.ref 7,iV (ofNat (ttN n (shG n (λi=>AT n f z i)))),iV (ofNat (kkN n (shG n (λi=>AT n f z i)))),.ref 8,.jref 9],.row 92 6 n (λi=>eV (shG n (λi=>shG n f i) i)),.row 80 5 n (λi=>.agg [iV (evF n (shG n (λi=>shG n f i)) (λ_=>true) i).th,iV (evF n (shG n (λi=>shG n f i)) (λ_=>true) i).pl,iV (evF n (shG n (λi=>shG n f i)) (λ_=>true) i).dir,iV (evF n (shG n (λi=>shG n f i)) (λ_=>true) i).loc,iV (evF n (shG n (λi=>shG n f i)) (λ_=>true) i).val]),.row 3 1 n (λi=>iV (rfF n (shG n (λi=>shG n f i)) (λ_=>true) i)),.jag (Jag.mk 24 1 (kkN n (shG n (λi=>shG n f i))) Aa 0 3 1 (λ_=>true) (lnN (mbF (shG n (λi=>shG n f i))) (wrF (shG n (λi=>shG n f i))) n) (λk i=>iV (ofNat (coN (mbF (shG n (λi=>shG n f i))) (wrF (shG n (λi=>shG n f i))) n k i)))),.cells [iV a,.ref 11,.ref 12,iV (ofNat (ttN n (shG n (λi=>shG n f i)))),iV (ofNat (kkN n (shG n (λi=>shG n f i)))),.ref 13,.jref 14]]⟩
def lp6 (a:Int) (n:Nat) (f:Nat->E6) (z:Int):Lp:=⟨bmK 147 0 [1,6,7,12,13,15,16,18,19,20],16,bmK 147 0 [1,6,7,12,13,15,16,18,19],16,18⟩
def st6 (a:Int) (n:Nat) (f:Nat->E6) (z:Int) (o m b:Nat) (j:Nat->V):St:=⟨jsV 147 0 j [(1,.sl 6 n λi=>eV (f i)),(6,bV false),(7,.ptr 4 0),(12,.ptr 10 0),(13,iV 0),(15,.ptr 15 0),(16,iV 0),(18,nV o),(19,nV m),(20,nV b)],[.row 92 6 n (λi=>eV (shG n f i)),.row 80 5 n (λi=>evV (evF n (shG n f) (λ_=>true) i)),.row 3 1 n (λi=>iV (rfF n (shG n f) (λ_=>true) i)),.jag (Jag.mk 24 1 (kkN n (shG n f)) Aa 0 3 1 (λ_=>true) (lnN (mbF (shG n f)) (wrF (shG n f)) n) (λk i=>iV (ofNat (coN (mbF (shG n f)) (wrF (shG n f)) n k i)))),.cells [iV a,.ref 0,.ref 1,iV (ofNat (ttN n (shG n f))),iV (ofNat (kkN n (shG n f))),.ref 2,.jref 3],.row 92 6 n (λi=>eV (AT n f z i)),.row 92 6 n (λi=>eV (shG n (λi=>AT n f z i) i)),.row 80 5 n (λi=>.agg [iV (evF n (shG n (λi=>AT n f z i)) (λ_=>true) i).th,iV (evF n (shG n (λi=>AT n f z i)) (λ_=>true) i).pl,iV (evF n (shG n (λi=>AT n f z i)) (λ_=>true) i).dir,iV (evF n (shG n (λi=>AT n f z i)) (λ_=>true) i).loc,iV (evF n (shG n (λi=>AT n f z i)) (λ_=>true) i).val]),.row 3 1 n (λi=>iV (rfF n (shG n (λi=>AT n f z i)) (λ_=>true) i)),.jag (Jag.mk 24 1 (kkN n (shG n (λi=>AT n f z i))) Aa 0 3 1 (λ_=>true) (lnN (mbF (shG n (λi=>AT n f z i))) (wrF (shG n (λi=>AT n f z i))) n) (λk i=>iV (ofNat (coN (mbF (shG n (λi=>AT n f z i))) (wrF (shG n (λi=>AT n f z i))) n k i)))),.cells [iV a,.ref 6,.ref 7,iV (ofNat (ttN n (shG n (λi=>AT n f z i)))),iV (ofNat (kkN n (shG n (λi=>AT n f z i)))),.ref 8,.jref 9],.row 92 6 n (λi=>eV (shG n (λi=>shG n f i) i)),.row 80 5 n (λi=>.agg [iV (evF n (shG n (λi=>shG n f i)) (λ_=>true) i).th,iV (evF n (shG n (λi=>shG n f i)) (λ_=>true) i).pl,iV (evF n (shG n (λi=>shG n f i)) (λ_=>true) i).dir,iV (evF n (shG n (λi=>shG n f i)) (λ_=>true) i).loc,iV (evF n (shG n (λi=>shG n f i)) (λ_=>true) i).val]),.row 3 1 n (λi=>iV (rfF n (shG n (λi=>shG n f i)) (λ_=>true) i)),.jag (Jag.mk 24 1 (kkN n (shG n (λi=>shG n f i))) Aa 0 3 1 (λ_=>true) (lnN (mbF (shG n (λi=>shG n f i))) (wrF (shG n (λi=>shG n f i))) n) (λk i=>iV (ofNat (coN (mbF (shG n (λi=>shG n f i))) (wrF (shG n (λi=>shG n f i))) n k i)))),.cells [iV a,.ref 11,.ref 12,iV (ofNat (ttN n (shG n (λi=>shG n f i)))),iV (ofNat (kkN n (shG n (λi=>shG n f i)))),.ref 13,.jref 14]]⟩
def en6e (a:Int) (n:Nat) (f:Nat->E6) (z:Int) (o m b:Nat):Ex×St:=(.ex 0,⟨jsV 147 0 Aa [(1,.sl 6 n λi=>eV (f i)),(6,bV false),(7,.ptr 4 0),(12,.ptr 10 0),(13,iV 0),(15,.ptr 15 0),(16,iV 0),(18,nV o),(19,nV m)],[.row 92 6 n (λi=>eV (shG n f i)),.row 80 5 n (λi=>evV (evF n (shG n f) (λ_=>true) i)),.row 3 1 n (λi=>iV (rfF n (shG n f) (λ_=>true) i)),.jag (Jag.mk 24 1 (kkN n (shG n f)) Aa 0 3 1 (λ_=>true) (lnN (mbF (shG n f)) (wrF (shG n f)) n) (λk i=>iV (ofNat (coN (mbF (shG n f)) (wrF (shG n f)) n k i)))),.cells [iV a,.ref 0,.ref 1,iV (ofNat (ttN n (shG n f))),iV (ofNat (kkN n (shG n f))),.ref 2,.jref 3],.row 92 6 n (λi=>eV (AT n f z i)),.row 92 6 n (λi=>eV (shG n (λi=>AT n f z i) i)),.row 80 5 n (λi=>.agg [iV (evF n (shG n (λi=>AT n f z i)) (λ_=>true) i).th,iV (evF n (shG n (λi=>AT n f z i)) (λ_=>true) i).pl,iV (evF n (shG n (λi=>AT n f z i)) (λ_=>true) i).dir,iV (evF n (shG n (λi=>AT n f z i)) (λ_=>true) i).loc,iV (evF n (shG n (λi=>AT n f z i)) (λ_=>true) i).val]),.row 3 1 n (λi=>iV (rfF n (shG n (λi=>AT n f z i)) (λ_=>true) i)),.jag (Jag.mk 24 1 (kkN n (shG n (λi=>AT n f z i))) Aa 0 3 1 (λ_=>true) (lnN (mbF (shG n (λi=>AT n f z i))) (wrF (shG n (λi=>AT n f z i))) n) (λk i=>iV (ofNat (coN (mbF (shG n (λi=>AT n f z i))) (wrF (shG n (λi=>AT n f z i))) n k i)))),.cells [iV a,.ref 6,.ref 7,iV (ofNat (ttN n (shG n (λi=>AT n f z i)))),iV (ofNat (kkN n (shG n (λi=>AT n f z i)))),.ref 8,.jref 9],.row 92 6 n (λi=>eV (shG n (λi=>shG n f i) i)),.row 80 5 n (λi=>.agg [iV (evF n (shG n (λi=>shG n f i)) (λ_=>true) i).th,iV (evF n (shG n (λi=>shG n f i)) (λ_=>true) i).pl,iV (evF n (shG n (λi=>shG n f i)) (λ_=>true) i).dir,iV (evF n (shG n (λi=>shG n f i)) (λ_=>true) i).loc,iV (evF n (shG n (λi=>shG n f i)) (λ_=>true) i).val]),.row 3 1 n (λi=>iV (rfF n (shG n (λi=>shG n f i)) (λ_=>true) i)),.jag (Jag.mk 24 1 (kkN n (shG n (λi=>shG n f i))) Aa 0 3 1 (λ_=>true) (lnN (mbF (shG n (λi=>shG n f i))) (wrF (shG n (λi=>shG n f i))) n) (λk i=>iV (ofNat (coN (mbF (shG n (λi=>shG n f i))) (wrF (shG n (λi=>shG n f i))) n k i)))),.cells [iV a,.ref 11,.ref 12,iV (ofNat (ttN n (shG n (λi=>shG n f i)))),iV (ofNat (kkN n (shG n (λi=>shG n f i)))),.ref 13,.jref 14]]⟩)
theorem ent6_eq (a:Int) (n:Nat) (f:Nat->E6) (z:Int):ent6 a n f z=st6 a n f z 0 0 0 (λi=>nth (ent6 a n f z).t i):=by kernel_rfl
end Go.Proofs.YtkgdhhieomndeaaGreatDoor.Sh
