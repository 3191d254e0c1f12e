/-
  Two nodes held against one another (SameNode): a node and itself. No conditions.
-/
import Derived.Test.YtkgdhhieomndeaaGreatDoorShS
import Derived.Test.YtkgdhhieomndeaaGreatDoorShBa
import Derived.Shelf.Strings.OnBuilder
import Derived.Test.YtkgdhhieomndeaaGreatDoorCyT
namespace Go.Proofs.YtkgdhhieomndeaaGreatDoor.Em
open Go.Sy Go Go.Proofs.YtkgdhhieomndeaaGreatDoor.Ed Go.Proofs.YtkgdhhieomndeaaGreatDoor.Sh
open Int (ofNat)
set_option maxRecDepth 100000
noncomputable def SX {α:Type} (x y:α):Bool:=@decide (x=y) (Classical.propDecidable _)
theorem IG {α:Type} (x:α):SX x x=true:=@decide_eq_true _ (Classical.propDecidable _) rfl
theorem SW {α:Type} {x y:α} (h:SX x y=true):x=y:=@of_decide_eq_true _ (Classical.propDecidable _) h
theorem LRun.round {Γ:Cx0} {f:St->T (Ex×St)} {l:Lp} {st st2 st3:St} {r:Ex×St} (h:Ah f l st=some (.nm,st2)) (hle:LE Γ st2 st3) (hr:LRun Γ f st3 r):LRun Γ f st r:=by
 unfold Ah at h;obtain ⟨⟨e,st1⟩,h1,h2⟩:=Ai h;have h2:=Ac h2;cases e with
 | nm =>simp only [MK,Prod.mk.injEq,true_and] at h2;subst h2;exact .next h1 (LE.trans (JW _ _ _) hle) hr
 | ex i=>simp [MK] at h2
 | rt=>simp [MK] at h2
theorem LRun.exit {Γ:Cx0} {f:St->T (Ex×St)} {l:Lp} {st st2:St} {e:Ex} (h:Ah f l st=some (e,st2)) (hne:e ≠ .nm):LRun Γ f st (e,st2):=by
 unfold Ah at h;obtain ⟨⟨e',st1⟩,h1,h2⟩:=Ai h;have h2:=Ac h2;cases e' with
 | nm =>simp only [MK,Prod.mk.injEq] at h2;exact absurd h2.1 hne
 | ex i =>simp only [MK,Prod.mk.injEq] at h2;obtain ⟨rfl,rfl⟩:=h2;exact .stop h1 hne (JW _ _ _)
 | rt =>simp only [MK,Prod.mk.injEq] at h2;obtain ⟨rfl,rfl⟩:=h2;exact .stop h1 hne (JW _ _ _)
structure Nd where
 kd:Int
 th:Int
 rg:Int
 lc:List UInt8
 v:Int
 n:Nat
 X:Nat->Tg
 f:Nat->Int
def ndV (z:Nd):V:=.agg [iV z.kd,iV z.th,iV z.rg,.str z.lc,iV z.v,.sl 6 z.n (BE z.X z.f)]
def ZF:V->Option (Tg×Int)
 | .agg [.val (.int .i64 a),.val (.int .i64 t),.val (.int .i64 r),.str l,.val (.int .i64 v),.nilS]=>bif ieq a 2 then some (⟨t,r,l⟩,v) else none
 | _=>none
def AaW (v:V):Bool:=match ZF v with
 | some _=>true
 | none=>false
def Acu (v:V):Tg×Int:=match ZF v with
 | some e=>e
 | none=>(⟨0,0,[]⟩,0)
def Ag9 (p:Tg×Int):V:=.agg [iV 2,iV p.1.th,iV p.1.rg,.str p.1.lc,iV p.2,.nilS]
theorem V2 {v:V} (h:AaW v=true):v=Ag9 (Acu v):=by
 unfold AaW at h;unfold Acu;split at h
 ·rename_i e he
  unfold ZF at he;split at he
  ·rename_i a t r l v
   cases ha:ieq a 2 with
   | true =>rw [ha] at he;cases he;rw [show a=2 by simpa [ieq] using ha];rfl
   | false=>rw [ha] at he; cases he
  ·cases he
 ·cases h
def AcB:Cod (Tg×Int):=⟨6,Ag9,AaW,Acu,λv h S w c hv=>by rw [<- V2 h]; exact hv⟩
def Afs {β:Type} (v:V) (F:Nd->T β):T β:=match v with
 | .agg [.val (.int .i64 a),.val (.int .i64 t),.val (.int .i64 r),.str l,.val (.int .i64 x),k]=>apG AcB k λn g=>F ⟨a,t,r,l,x,n,λi=>(g i).1,λi=>(g i).2⟩
 | _=>.fail
theorem QC {β:Type} {v:V} {F:Nd->T β} {r:β} (h:(Afs v F).sem=some r) :
  ∃ z,(∀ (S:Nat->Prop) (w:World) (u:Value),VR S w v noK u->VR S w (ndV z) noK u)∧(F z).sem=some r:=by
 unfold Afs at h;split at h
 ·obtain ⟨n,g,h1,h2⟩:=Bs h
  refine ⟨_,λS w u hv=>?_,h2⟩;obtain ⟨ca,e,c1,l1,e1,q1,c2,l2,e2,q2,c3,l3,e3,q3,c4,l4,e4,q4,c5,l5,e5,q5,c6,l6,e6,q6,q7⟩:=hv;exact ⟨ca,e,c1,l1,e1,q1,c2,l2,e2,q2,c3,l3,e3,q3,c4,l4,e4,q4,c5,l5,e5,q5,c6,l6,e6,h1 S w c6 q6,q7⟩
 ·cases h
noncomputable def Abb:List V->AR
 | [u,v]=>Afs u λz=>Afs v λy=>.br (SX z y) (.br (Ba 0 z.n 72) (.leaf (bV true,[])) .fail) .fail
 | _=>.fail
def lp27 (kd th rg:Int) (lc:List UInt8) (v:Int) (n:Nat) (X:Nat->Tg) (f:Nat->Int):Lp:=⟨bmK 70 0 [2,3,4,5,6],4,bmK 70 0 [4],2,0⟩
def st27 (kd th rg:Int) (lc:List UInt8) (v:Int) (n:Nat) (X:Nat->Tg) (f:Nat->Int) (c:Nat) (j:Nat->V):St:=⟨jsV 70 0 j [(2,.ptr 0 0),(3,.ptr 1 0),(4,bV false),(5,.ref 2),(6,.ref 3)],[.cells [iV kd,iV th,iV rg,.str lc,iV v,.sl 6 n λi=>BE X f i],.cells [iV kd,iV th,iV rg,.str lc,iV v,.sl 6 n λi=>BE X f i],.row 35 6 c (λi=>BE X f i),.row 35 6 c (λi=>BE X f i)]⟩
def en27e (kd th rg:Int) (lc:List UInt8) (v:Int) (n:Nat) (X:Nat->Tg) (f:Nat->Int) (c:Nat):Ex×St:=(.ex 0,⟨jsV 70 0 Aa [(4,bV false)],[.cells [iV kd,iV th,iV rg,.str lc,iV v,.sl 6 n λi=>BE X f i],.cells [iV kd,iV th,iV rg,.str lc,iV v,.sl 6 n λi=>BE X f i]]⟩)
noncomputable def body27 (L:LT):St->T (Ex×St):=λst=>A7 tab ⟨Ap tb0,L,Gl⟩ (Ar Tryz.f28 0) 0 st
section
variable (L:LT) (kd th rg:Int) (lc:List UInt8) (v:Int) (n:Nat) (X:Nat->Tg) (f:Nat->Int) (c:Nat)  (j:Nat->V)
include L kd th rg lc v n X f c j
theorem r27e (h0:ilt 0 (ofNat c)=false):Ah (body27 L) (lp27 kd th rg lc v n X f) (st27 kd th rg lc v n X f c j)=some ((.ex 0),⟨jsV 70 0 Aa [(4,bV false)],[.cells [iV kd,iV th,iV rg,.str lc,iV v,.sl 6 n (λi=>.agg [iV 2,iV (X i).th,iV (X i).rg,.str (X i).lc,iV (f i),.nilS])],.cells [iV kd,iV th,iV rg,.str lc,iV v,.sl 6 n (λi=>.agg [iV 2,iV (X i).th,iV (X i).rg,.str (X i).lc,iV (f i),.nilS])]]⟩):=by
 exact Ab (ks:=[kn h0]) (by kernel_rfl)
theorem Aoc (h0:ilt 0 (ofNat c)=true) (h30:Al (ile 0 (wr .i64 (A5 (ofNat c) 1))) (ilt (wr .i64 (A5 (ofNat c) 1)) (ofNat c))=true) (h31:nlt (toN (wr .i64 (A5 (ofNat c) 1))) c=true) (h32:seq (X (toN (wr .i64 (A5 (ofNat c) 1)))).lc (X (toN (wr .i64 (A5 (ofNat c) 1)))).lc=true) (h33:Al (ile 0 (wr .i64 (A5 (ofNat c) 1))) (ile (wr .i64 (A5 (ofNat c) 1)) (ofNat c))=true) (h34:Ba (toN (wr .i64 (A5 (ofNat c) 1))) 0 72=true):Ah (body27 L) (lp27 kd th rg lc v n X f) (st27 kd th rg lc v n X f c j)=some (.nm,⟨jsV 70 0 Aa [(2,.ptr 0 0),(3,.ptr 1 0),(4,bV false),(5,.ref 2),(6,.ref 3)],[.cells [iV kd,iV th,iV rg,.str lc,iV v,.sl 6 n (λi=>.agg [iV 2,iV (X i).th,iV (X i).rg,.str (X i).lc,iV (f i),.nilS])],.cells [iV kd,iV th,iV rg,.str lc,iV v,.sl 6 n (λi=>.agg [iV 2,iV (X i).th,iV (X i).rg,.str (X i).lc,iV (f i),.nilS])],.row 35 6 (AS (toN (wr .i64 (A5 (ofNat c) 1))) 0) (Bn (toN (wr .i64 (A5 (ofNat c) 1))) 0 (λi=>.agg [iV 2,iV (X i).th,iV (X i).rg,.str (X i).lc,iV (f i),.nilS]) Aa),.row 35 6 (AS (toN (wr .i64 (A5 (ofNat c) 1))) 0) (Bn (toN (wr .i64 (A5 (ofNat c) 1))) 0 (λi=>.agg [iV 2,iV (X i).th,iV (X i).rg,.str (X i).lc,iV (f i),.nilS]) Aa)]⟩):=by
 exact Ab (ks:=[kn h0,kn h30,kn h31,kn h30,kn h31,kI (wr .i64 (A5 (ofNat c) 1)),kn h30,kJ (toN (wr .i64 (A5 (ofNat c) 1))),kn h31,kI 2,kI (X (toN (wr .i64 (A5 (ofNat c) 1)))).th,kI (X (toN (wr .i64 (A5 (ofNat c) 1)))).rg,kn h32,kI (f (toN (wr .i64 (A5 (ofNat c) 1)))),kI (wr .i64 (A5 (ofNat c) 1)),kn h30,kJ (toN (wr .i64 (A5 (ofNat c) 1))),kn h31,kI 2,kI (X (toN (wr .i64 (A5 (ofNat c) 1)))).th,kI (X (toN (wr .i64 (A5 (ofNat c) 1)))).rg,kn h32,kI (f (toN (wr .i64 (A5 (ofNat c) 1)))),kI (wr .i64 (A5 (ofNat c) 1)),kn h30,kJ (toN (wr .i64 (A5 (ofNat c) 1))),kn h31,kI 2,kI (X (toN (wr .i64 (A5 (ofNat c) 1)))).th,kI (X (toN (wr .i64 (A5 (ofNat c) 1)))).rg,kn h32,kI (f (toN (wr .i64 (A5 (ofNat c) 1)))),kI (wr .i64 (A5 (ofNat c) 1)),kn h30,kJ (toN (wr .i64 (A5 (ofNat c) 1))),kn h31,kI 2,kI (X (toN (wr .i64 (A5 (ofNat c) 1)))).th,kI (X (toN (wr .i64 (A5 (ofNat c) 1)))).rg,kn h32,kI (f (toN (wr .i64 (A5 (ofNat c) 1)))),kI (wr .i64 (A5 (ofNat c) 1)),kn h30,kJ (toN (wr .i64 (A5 (ofNat c) 1))),kn h31,kI 2,kI (X (toN (wr .i64 (A5 (ofNat c) 1)))).th,kI (X (toN (wr .i64 (A5 (ofNat c) 1)))).rg,kn h32,kI (f (toN (wr .i64 (A5 (ofNat c) 1)))),kI (wr .i64 (A5 (ofNat c) 1)),kn h30,kJ (toN (wr .i64 (A5 (ofNat c) 1))),kn h31,kI 2,kI (X (toN (wr .i64 (A5 (ofNat c) 1)))).th,kI (X (toN (wr .i64 (A5 (ofNat c) 1)))).rg,kn h32,kI (f (toN (wr .i64 (A5 (ofNat c) 1)))),kI (wr .i64 (A5 (ofNat c) 1)),kn h30,kJ (toN (wr .i64 (A5 (ofNat c) 1))),kn h31,kI 2,kI (X (toN (wr .i64 (A5 (ofNat c) 1)))).th,kI (X (toN (wr .i64 (A5 (ofNat c) 1)))).rg,kn h32,kI (f (toN (wr .i64 (A5 (ofNat c) 1)))),kn h33,kn h33,kN (kI 2),kN (kI 2),kN (kI 2),kN (kI 2),kN (kI 2),kN (kI 2),kN (kA (kI (X (toN (wr .i64 (A5 (ofNat c) 1)))).th) (kA (kI (X (toN (wr .i64 (A5 (ofNat c) 1)))).rg) (kA (kn h32) kT))),kN (kA (kI (X (toN (wr .i64 (A5 (ofNat c) 1)))).th) (kA (kI (X (toN (wr .i64 (A5 (ofNat c) 1)))).rg) (kA (kn h32) kT))),kN (kA (kI (X (toN (wr .i64 (A5 (ofNat c) 1)))).th) (kA (kI (X (toN (wr .i64 (A5 (ofNat c) 1)))).rg) (kA (kn h32) kT))),kN (kA (kI (X (toN (wr .i64 (A5 (ofNat c) 1)))).th) (kA (kI (X (toN (wr .i64 (A5 (ofNat c) 1)))).rg) (kA (kn h32) kT))),kN (kA (kI (X (toN (wr .i64 (A5 (ofNat c) 1)))).th) (kA (kI (X (toN (wr .i64 (A5 (ofNat c) 1)))).rg) (kA (kn h32) kT))),kN (kA (kI (X (toN (wr .i64 (A5 (ofNat c) 1)))).th) (kA (kI (X (toN (wr .i64 (A5 (ofNat c) 1)))).rg) (kA (kn h32) kT))),kN (kI (f (toN (wr .i64 (A5 (ofNat c) 1))))),kN (kI (f (toN (wr .i64 (A5 (ofNat c) 1))))),kN (kI (f (toN (wr .i64 (A5 (ofNat c) 1))))),kN (kI (f (toN (wr .i64 (A5 (ofNat c) 1))))),kN (kI (f (toN (wr .i64 (A5 (ofNat c) 1))))),kN (kI (f (toN (wr .i64 (A5 (ofNat c) 1))))),kN (kI (f (toN (wr .i64 (A5 (ofNat c) 1))))),kN (kI (f (toN (wr .i64 (A5 (ofNat c) 1))))),kN (kI 0),kn h34,kn h34]) (by kernel_rfl)
end
def XA (kd th rg:Int) (lc:List UInt8) (v:Int) (n:Nat) (X:Nat->Tg) (f:Nat->Int) :St:=⟨jsV 70 0 (λ_=>A9) [(0,.agg [iV kd,iV th,iV rg,.str lc,iV v,.sl 6 n (λi=>.agg [iV 2,iV (X i).th,iV (X i).rg,.str (X i).lc,iV (f i),.nilS])]),(1,.agg [iV kd,iV th,iV rg,.str lc,iV v,.sl 6 n (λi=>.agg [iV 2,iV (X i).th,iV (X i).rg,.str (X i).lc,iV (f i),.nilS])]),(2,.ptr 0 0),(3,.ptr 1 0),(4,bV false),(5,.ref 2),(6,.ref 3),(10,.agg [iV kd,iV th,iV rg,.str lc,iV v,.sl 6 n (λi=>.agg [iV 2,iV (X i).th,iV (X i).rg,.str (X i).lc,iV (f i),.nilS])]),(11,.ref 2),(12,.agg [iV kd,iV th,iV rg,.str lc,iV v,.sl 6 n (λi=>.agg [iV 2,iV (X i).th,iV (X i).rg,.str (X i).lc,iV (f i),.nilS])]),(13,.ref 3)],[.cells [iV kd,iV th,iV rg,.str lc,iV v,.sl 6 n (λi=>.agg [iV 2,iV (X i).th,iV (X i).rg,.str (X i).lc,iV (f i),.nilS])],.cells [iV kd,iV th,iV rg,.str lc,iV v,.sl 6 n (λi=>.agg [iV 2,iV (X i).th,iV (X i).rg,.str (X i).lc,iV (f i),.nilS])],.row 35 6 1 (Hs 1 [.agg [iV kd,iV th,iV rg,.str lc,iV v,.sl 6 n (λi=>.agg [iV 2,iV (X i).th,iV (X i).rg,.str (X i).lc,iV (f i),.nilS])]]),.row 35 6 1 (Hs 1 [.agg [iV kd,iV th,iV rg,.str lc,iV v,.sl 6 n (λi=>.agg [iV 2,iV (X i).th,iV (X i).rg,.str (X i).lc,iV (f i),.nilS])]])]⟩
def AfI (kd th rg:Int) (lc:List UInt8) (v:Int) (n:Nat) (X:Nat->Tg) (f:Nat->Int) (j:Nat->V):St:=⟨jsV 70 0 j [(2,.ptr 0 0),(3,.ptr 1 0),(4,bV false),(5,.ref 2),(6,.ref 3)],[.cells [iV kd,iV th,iV rg,.str lc,iV v,.sl 6 n λi=>BE X f i],.cells [iV kd,iV th,iV rg,.str lc,iV v,.sl 6 n λi=>BE X f i],.row 35 6 1 (λ_=>.agg [iV kd,iV th,iV rg,.str lc,iV v,.sl 6 n λi=>BE X f i]),.row 35 6 1 (λ_=>.agg [iV kd,iV th,iV rg,.str lc,iV v,.sl 6 n λi=>BE X f i])]⟩
theorem Aod (L:LT) (kd th rg:Int) (lc:List UInt8) (v:Int) (n:Nat) (X:Nat->Tg) (f:Nat->Int) (j:Nat->V) (h28:nlt (toN 0) 1=true) (h29:seq lc lc=true) (h30:Ba (toN 0) n 72=true):Ah (body27 L) (lp27 kd th rg lc v n X f) (AfI kd th rg lc v n X f j)=some (.nm,⟨jsV 70 0 Aa [(2,.ptr 0 0),(3,.ptr 1 0),(4,bV false),(5,.ref 2),(6,.ref 3)],[.cells [iV kd,iV th,iV rg,.str lc,iV v,.sl 6 n (λi=>.agg [iV 2,iV (X i).th,iV (X i).rg,.str (X i).lc,iV (f i),.nilS])],.cells [iV kd,iV th,iV rg,.str lc,iV v,.sl 6 n (λi=>.agg [iV 2,iV (X i).th,iV (X i).rg,.str (X i).lc,iV (f i),.nilS])],.row 35 6 (AS (toN 0) n) (Bn (toN 0) n (λ_=>.agg [iV kd,iV th,iV rg,.str lc,iV v,.sl 6 n λi=>BE X f i]) (λi=>BE X f i)),.row 35 6 (AS (toN 0) n) (Bn (toN 0) n (λ_=>.agg [iV kd,iV th,iV rg,.str lc,iV v,.sl 6 n λi=>BE X f i]) (λi=>BE X f i))]⟩):=NI (bbK 51 1688850128699391) ((λc0 c1 c2 c3 c4 c5 c6 c7 c8=>[ilt 0 1,c0,c1,c0,c1,c2,c0,c3,c2,c0,c3,c2,c0,c3,c2,c0,c3,c2,c0,c3,c2,c0,c3,c2,c0,c3,c4,c4,c5,c5,c5,c5,c5,c5,c6,c6,c6,c6,c6,c6,c7,c7,c7,c7,c7,c7,c7,c7,A6 (ieq (ofNat n) (ofNat n)),c8,c8]) (Al (ile 0 0) (ilt 0 1)) (nlt (toN 0) 1) (ieq 0 0) (AE (toN 0) (toN 0)) (Al (ile 0 0) (ile 0 1)) (A6 (ieq kd kd)) (A6 (Al (ieq th th) (Al (ieq rg rg) (Al (seq lc lc) true)))) (A6 (ieq v v)) (Ba (toN 0) n 72)) (by kernel_rfl) (by simp only [*,Bm,nbeq_self] <;> rfl)
theorem w27 (L:LT) (p0:PT) (kd th rg:Int) (lc:List UInt8) (v:Int) (n:Nat) (X:Nat->Tg) (f:Nat->Int)  (hp0:p0 (body27 (onP 0 p0 (en27e kd th rg lc v n X f 0) L)) (XA kd th rg lc v n X f)=true):(Az (Ak tab ⟨Ap tb0,onP 0 p0 (en27e kd th rg lc v n X f 0) L,Gl⟩ Tryz.f28 [.agg [iV kd,iV th,iV rg,.str lc,iV v,.sl 6 n λi=>BE X f i],.agg [iV kd,iV th,iV rg,.str lc,iV v,.sl 6 n λi=>BE X f i]] [])).sem=some ((bV true),[]):=by
 exact Ab (ks:=[kn hp0]) (by kernel_rfl)
section
variable (kd th rg:Int) (lc:List UInt8) (v:Int) (n:Nat) (X:Nat->Tg) (f:Nat->Int)
theorem run27 (M:LT) (hn:n * 72 <= 140737488355328):∀ (c:Nat) (j:Nat->V),c <= n->LRun ⟨Ap tb0,Gl⟩ (body27 M) (st27 kd th rg lc v n X f c j) (en27e kd th rg lc v n X f 0)
 | 0,j,_=>LRun.exit (r27e M kd th rg lc v n X f 0 j rfl) (by simp)
 | c+1,j,h=>by
  have hw:wr .i64 (A5 (ofNat (c+1)) 1)=ofNat c:=MX (by omega);have h1:=Aoc M kd th rg lc v n X f (c+1) j (decide_eq_true (by simp only [Int.ofNat_eq_natCast]; omega));rw [hw] at h1;refine LRun.round (h1 (Ao (by omega)) (decide_eq_true (by show c<c+1; omega)) (CT _) (by simp [Al,ile]; omega) (decide_eq_true (by show (c+0) * 72 <= _; omega))) ?_ (run27 M hn c Aa (by omega));refine LE.trans (Fe (i:=2) (n:=c) (g':=BE X f) rfl λq hq=>?_) (Fe (i:=3) (n:=c) (g':=BE X f) rfl λq hq=>?_)
  ·exact (Hz c 0 _ _ q hq).symm
  ·exact (Hz c 0 _ _ q hq).symm
end
theorem Aoy:Ax Tryz.prog Gl 28 Abb:=by
 refine Am A8 mixed Tryz.func28 (by kernel_rfl) (by kernel_rfl) λvs v h' h=>?_;unfold Abb at h;split at h
 ·rename_i u1 v1
  obtain ⟨z,a1,h⟩:=QC h;obtain ⟨y,a2,h⟩:=QC h;obtain ⟨hy,h⟩:=Ad h;obtain ⟨hn,h⟩:=Ad h;have:=Ac h;have hy:=SW hy;subst hy;simp only [Prod.mk.injEq] at this;obtain ⟨rfl,rfl⟩:=this;obtain ⟨kd,th,rg,lc,v,n,X,f⟩:=z;have hn:(0+n) * 72 <= 140737488355328:=of_decide_eq_true hn;have hA:Bf [u1,v1] [.agg [iV kd,iV th,iV rg,.str lc,iV v,.sl 6 n λi=>BE X f i],.agg [iV kd,iV th,iV rg,.str lc,iV v,.sl 6 n λi=>BE X f i]]:=λS w cs hv=>by
   obtain ⟨c,l,rfl,q1,d,l',rfl,q2,q3⟩:=hv;exact ⟨c,_,rfl,a1 S w c q1,d,_,rfl,a2 S w d q2,q3⟩
  have hr:∀ M,LRun ⟨Ap tb0,Gl⟩ (body27 M) (XA kd th rg lc v n X f) (en27e kd th rg lc v n X f 0):=λM=>by
   refine .weak (st1:=AfI kd th rg lc v n X f (λi=>nth (XA kd th rg lc v n X f).t i)) (LE.trans (Fe (i:=2) (n:=1) (g':=λ_=>.agg [iV kd,iV th,iV rg,.str lc,iV v,.sl 6 n λi=>BE X f i]) rfl λq hq=>?_) (Fe (i:=3) (n:=1) (g':=λ_=>.agg [iV kd,iV th,iV rg,.str lc,iV v,.sl 6 n λi=>BE X f i]) rfl λq hq=>?_)) ?_
   ·rw [show q=0 by omega]
    rfl
   ·rw [show q=0 by omega]
    rfl
   have h1:=Aod M kd th rg lc v n X f (λi=>nth (XA kd th rg lc v n X f).t i) rfl (CT _) (decide_eq_true hn);rw [show AS (toN 0) n=n from Nat.zero_add n] at h1;have hg:∀ (G:V) (q:Nat),q<n->BE X f q=Bn (toN 0) n (λ_=>G) (λi=>BE X f i) q:=λG q hq=>by
    have:=JC 0 n (λ_=>G) (BE X f) q hq;rw [Nat.zero_add] at this;exact this.symm
   exact LRun.round h1 (LE.trans (Fe (i:=2) (n:=n) (g':=BE X f) rfl (hg _)) (Fe (i:=3) (n:=n) (g':=BE X f) rfl (hg _))) (run27 kd th rg lc v n X f M (by omega) n Aa (Nat.le_refl _))
  exact ⟨_,⟨Ap tb0,_,Gl⟩,_,hA,rfl,D3 rfl C8,Hp (k:=0) (r:=en27e kd th rg lc v n X f 0) G2,w27 _ _ kd th rg lc v n X f (DZ (hr _)),Aw.refl _⟩
 ·cases h
end Go.Proofs.YtkgdhhieomndeaaGreatDoor.Em
namespace Go.Proofs.YtkgdhhieomndeaaGreatDoor.Em
open Go.Sy Go Go.Proofs.YtkgdhhieomndeaaGreatDoor.Ed
open Int (ofNat)
set_option maxRecDepth 100000
noncomputable def tb18:AP:=[]
theorem tb18_ok:Av Tryz.prog Gl tb18:=.nil
def lp18 (s:List UInt8):Lp:=⟨bmK 34 0 [0,2,3],0,bmK 34 0 [0,2],0,Bu s+1⟩
def st18 (s:List UInt8) (b:Nat) (j:Nat->V):St:=⟨jsV 34 0 j [(0,.str s),(2,bV false),(3,nV b)],[]⟩
def Acs (s:List UInt8) (b:Nat):Ex×St:=(.ex 0,⟨jsV 34 0 Aa [(0,.str s),(2,bV false)],[]⟩)
def Acr (s:List UInt8) (b:Nat):Ex×St:=(.rt,⟨jsV 34 0 Aa [(0,.str s),(2,bV false)],[]⟩)
noncomputable def Iy (L:LT):St->T (Ex×St):=λst=>A7 tab ⟨Ap tb18,L,Gl⟩ (Ar Tryz.f15 0) 0 st
section
variable (L:LT) (s:List UInt8) (b:Nat)  (j:Nat->V)
include L s b j
theorem Aoq (h0:ilt (ofNat b) (ofNat (Bu s))=false):Ah (Iy L) (lp18 s) (st18 s b j)=some ((.ex 0),⟨jsV 34 0 Aa [(0,.str s),(2,bV false)],[]⟩):=by
 exact Ab (ks:=[kn h0]) (by kernel_rfl)
theorem Aoo (h0:ilt (ofNat b) (ofNat (Bu s))=true) (h22:ile 0 (ofNat b)=true) (h23:ilt (Ek s b) 33=true):Ah (Iy L) (lp18 s) (st18 s b j)=some (.rt,⟨jsV 34 0 Aa [(0,.str s),(2,bV false)],[]⟩):=by
 exact Ab (ks:=[kn h0,kA (kn h22) (kn h0),kn h23,kn h23,kn h23,kn h23,kn h23,kT,kT,kT,kT,kT,kT]) (by kernel_rfl)
theorem Aop (h0:ilt (ofNat b) (ofNat (Bu s))=true) (h23:ile 0 (ofNat b)=true) (h24:ilt (Ek s b) 33=false) (h25:ilt 126 (Ek s b)=true):Ah (Iy L) (lp18 s) (st18 s b j)=some (.rt,⟨jsV 34 0 Aa [(0,.str s),(2,bV false)],[]⟩):=by
 exact Ab (ks:=[kn h0,kA (kn h23) (kn h0),kn h24,kn h24,kn h24,kA (kn h23) (kn h0),kn h24,kn h24,kn h25,kn h25,kn h25,kn h25,kn h25,kT]) (by kernel_rfl)
theorem Aom (h0:ilt (ofNat b) (ofNat (Bu s))=true) (h24:ile 0 (ofNat b)=true) (h25:ilt (Ek s b) 33=false) (h26:ilt 126 (Ek s b)=false) (h27:ieq (Ek s b) 34=true):Ah (Iy L) (lp18 s) (st18 s b j)=some (.rt,⟨jsV 34 0 Aa [(0,.str s),(2,bV false)],[]⟩):=by
 exact Ab (ks:=[kn h0,kA (kn h24) (kn h0),kn h25,kn h25,kn h25,kA (kn h24) (kn h0),kn h25,kn h25,kn h26,kn h26,kn h26,kA (kn h24) (kn h0),kn h26,kn h26,kn h27]) (by kernel_rfl)
theorem Aon (h0:ilt (ofNat b) (ofNat (Bu s))=true) (h24:ile 0 (ofNat b)=true) (h25:ilt (Ek s b) 33=false) (h26:ilt 126 (Ek s b)=false) (h27:ieq (Ek s b) 34=false):Ah (Iy L) (lp18 s) (st18 s b j)=some (.nm,⟨jsV 34 0 Aa [(0,.str s),(2,bV false),(3,iV (wr .i64 (Af (ofNat b) 1)))],[]⟩):=by
 exact Ab (ks:=[kn h0,kA (kn h24) (kn h0),kn h25,kn h25,kn h25,kA (kn h24) (kn h0),kn h25,kn h25,kn h26,kn h26,kn h26,kA (kn h24) (kn h0),kn h26,kn h26,kn h27]) (by kernel_rfl)
end
def ent18 (s:List UInt8) :St:=⟨jsV 34 0 (λ_=>A9) [(0,.str s),(2,bV false),(3,iV 0),(4,.str s),(5,iV (ofNat (Bu s))),(6,bV (ilt (ofNat (Bu s)) 1)),(7,bV (ilt (ofNat (Bu s)) 1)),(8,.str s),(9,iV (ofNat (Bu s))),(10,bV (ilt 1024 (ofNat (Bu s)))),(11,bV (ilt 1024 (ofNat (Bu s))))],[]⟩
section
variable (L:LT) (p0:PT) (s:List UInt8) (b:Nat)
include L p0 s b
theorem AnH (h0:ilt (ofNat (Bu s)) 1=false) (h1:ilt 1024 (ofNat (Bu s))=false) (hp0:p0 (Iy (onP 0 p0 (Acs s b) L)) (ent18 s)=true):(Az (Ak tab ⟨Ap tb18,onP 0 p0 (Acs s b) L,Gl⟩ Tryz.f15 [.str s] [])).sem=some ((bV true),[]):=by
 exact Ab (ks:=[kn h0,kn h0,kn h0,kn h0,kn h1,kn hp0]) (by kernel_rfl)
theorem AnG (h0:ilt (ofNat (Bu s)) 1=false) (h1:ilt 1024 (ofNat (Bu s))=false) (hp0:p0 (Iy (onP 0 p0 (Acr s b) L)) (ent18 s)=true):(Az (Ak tab ⟨Ap tb18,onP 0 p0 (Acr s b) L,Gl⟩ Tryz.f15 [.str s] [])).sem=some ((bV false),[]):=by
 exact Ab (ks:=[kn h0,kn h0,kn h0,kn h0,kn h1,kn hp0]) (by kernel_rfl)
end
def ZH (s:List UInt8):Nat->Nat->Bool
 | 0,_=>true
 | d+1,i=>bif ilt (Ek s i) 33 then false else bif ilt 126 (Ek s i) then false else bif ieq (Ek s i) 34 then false else ZH s d (i+1)
def Kc (s:List UInt8):Bool:=bif ilt (ofNat (Bu s)) 1 then false else bif ilt 1024 (ofNat (Bu s)) then false else ZH s s.length 0
def Yi:List V->AR
 | [.str s]=>out (bV (Kc s))
 | _=>.fail
theorem AfX (L:LT) (s:List UInt8) (hs:s.length <= 1024):∀ (d i:Nat) (j:Nat->V) (q:Nat),s.length=i+d->d<q ->
  (A3 (Iy L) (lp18 s) q (st18 s i j)).sem=some (bif ZH s d i then Acs s 0 else Acr s 0)
 | 0,i,j,q+1,h,_=>by
  have hl:Bu s=s.length:=rfl;exact Ae (Aoq L s i j (A1 (by omega)))
 | d+1,i,j,q+1,h,h2=>by
  have hl:Bu s=s.length:=rfl;have h0:ilt (ofNat i) (ofNat (Bu s))=true:=ofNat_lt (by omega);rw [ZH];cases h3:ilt (Ek s i) 33 with
  | true=>exact Ae (Aoo L s i j h0 (AF i) h3)
  | false =>
   cases h4:ilt 126 (Ek s i) with
   | true=>exact Ae (Aop L s i j h0 (AF i) h3 h4)
   | false =>
    cases h5:ieq (Ek s i) 34 with
    | true=>exact Ae (Aom L s i j h0 (AF i) h3 h4 h5)
    | false =>rw [Ae (Aon L s i j h0 (AF i) h3 h4 h5),Ay,Aq (n:=s.length) (by omega) (by omega)];exact AfX L s hs d (i+1) Aa q (by omega) (by omega)
theorem ent18_eq (s:List UInt8):ent18 s=st18 s 0 (λi=>nth (ent18 s).t i):=by kernel_rfl
theorem WA (s:List UInt8):(Az (Ak tab (AC Gl tb18 [(0,lp18 s)]) Tryz.f15 [.str s] [])).sem=some (bV (Kc s),[]):=by
 have hL:=AL [(0,lp18 s)];unfold Kc;cases h1:ilt (ofNat (Bu s)) 1 with
 | true=>exact Ab (ks:=[kn h1,kn h1,kn h1,kn h1,kT]) (by kernel_rfl)
 | false =>
  cases h2:ilt 1024 (ofNat (Bu s)) with
  | true=>exact Ab (ks:=[kn h1,kn h1,kn h1,kn h1,kn h2]) (by kernel_rfl)
  | false =>
   have hs:s.length <= 1024:=by
    rw [show (1024:Int)=ofNat 1024 from rfl,BV] at h2;have:=of_decide_eq_false h2;unfold Bu at this;omega
   have hr:=λM=>AfX M s hs s.length 0 (λi=>nth (ent18 s).t i) (Bu s+1) (by omega) (Nat.lt_succ_self _);cases h3:ZH s s.length 0 with
   | true =>rw [h3] at hr;exact AH (AA hL hL) _ (AnH (AW [(0,lp18 s)]) _ s 0 h1 h2 (Au (by rw [ent18_eq]; exact hr _)))
   | false =>rw [h3] at hr;exact AH (AA hL hL) _ (AnG (AW [(0,lp18 s)]) _ s 0 h1 h2 (Au (by rw [ent18_eq]; exact hr _)))
theorem p18:Ax Tryz.prog Gl 15 Yi:=by
 refine Am A8 mixed Tryz.func15 (by kernel_rfl) (by kernel_rfl) λvs v h' h=>?_;unfold Yi at h;split at h
 ·rename_i s
  have:=Ac h;simp only [Prod.mk.injEq] at this;obtain ⟨rfl,rfl⟩:=this;have hx:=AI tb18_ok [(0,lp18 s)];exact ⟨_,AC Gl tb18 [(0,lp18 s)],_,Bf.refl _,rfl,hx.1,hx.2,WA s,Aw.refl _⟩
 ·cases h
theorem e8 (Γ:Cx) (vs:List V) (h:List Blk):Ak tab Γ Tryz.f22 vs h=Ak tab Γ Tryz.f15 vs h:=by kernel_rfl
theorem p8:Ax Tryz.prog Gl 22 Yi:=by
 refine Am A8 mixed Tryz.func22 (by kernel_rfl) (by kernel_rfl) λvs v h' h=>?_;unfold Yi at h;split at h
 ·rename_i s
  have:=Ac h;simp only [Prod.mk.injEq] at this;obtain ⟨rfl,rfl⟩:=this;have hx:=AI tb18_ok [(0,lp18 s)];exact ⟨_,AC Gl tb18 [(0,lp18 s)],_,Bf.refl _,rfl,hx.1,hx.2,by rw [e8]; exact WA s,Aw.refl _⟩
 ·cases h
end Go.Proofs.YtkgdhhieomndeaaGreatDoor.Em
namespace Go.Proofs.YtkgdhhieomndeaaGreatDoor.Ed
open Go.Sy Go.Shelf Go.Proofs Go.RowKit
def Xp:Go.Shelf.Ren:=⟨λ| 156=>40 | 165=>62 | 166=>63 | 169=>64 | 240=>94 | 241=>95 | 276=>120 | 277=>121 | n=>n,λ| 31=>95 | 9=>9 | 3=>3 | 4=>4 | 0=>0 | 20=>20 | 72=>118 | 76=>122 | 70=>115 | 37=>116 | 75=>121 | 127=>150 | 164=>162 | 5=>5 | 80=>124 | n=>n,λ| n=>n⟩
theorem T7:Go.Proofs.Lays.n156 Tryz.prog Xp:={
 mixed:=by kernel_rfl
 f156:=Tryz.func40.trans (congrArg some (by kernel_rfl))
 f165:=Tryz.func62.trans (congrArg some (by kernel_rfl))
 f166:=Tryz.func63.trans (congrArg some (by kernel_rfl))
 f169:=Tryz.func64.trans (congrArg some (by kernel_rfl))
 f240:=Tryz.func94.trans (congrArg some (by kernel_rfl))
 f241:=Tryz.func95.trans (congrArg some (by kernel_rfl))
 f276:=Tryz.func120.trans (congrArg some (by kernel_rfl))
 f277:=Tryz.func121.trans (congrArg some (by kernel_rfl))
 t0:=Tryz.underlying0
 a0:=Tryz.isAgg0
 z0:=Tryz.sizeOf0
 v0:=Tryz.zeroValue0
 t3:=Tryz.underlying3
 a3:=Tryz.isAgg3
 z3:=Tryz.sizeOf3
 v3:=Tryz.zeroValue3
 t4:=Tryz.underlying4
 a4:=Tryz.isAgg4
 z4:=Tryz.sizeOf4
 v4:=Tryz.zeroValue4
 t9:=Tryz.underlying9
 a9:=Tryz.isAgg9
 z9:=Tryz.sizeOf9
 v9:=Tryz.zeroValue9
 t20:=Tryz.underlying20
 a20:=Tryz.isAgg20
 z20:=Tryz.sizeOf20
 v20:=Tryz.zeroValue20
 t31:=Tryz.underlying95
 a31:=Tryz.isAgg95
 z31:=Tryz.sizeOf95
 v31:=Tryz.zeroValue95
 t37:=Tryz.underlying116
 a37:=Tryz.isAgg116
 z37:=Tryz.sizeOf116
 v37:=Tryz.zeroValue116
 t70:=Tryz.underlying115
 a70:=Tryz.isAgg115
 z70:=Tryz.sizeOf115
 v70:=Tryz.zeroValue115
 t72:=Tryz.underlying118
 a72:=Tryz.isAgg118
 z72:=Tryz.sizeOf118
 v72:=Tryz.zeroValue118
 t75:=Tryz.underlying121
 a75:=Tryz.isAgg121
 z75:=Tryz.sizeOf121
 v75:=Tryz.zeroValue121
 t76:=Tryz.underlying122
 a76:=Tryz.isAgg122
 z76:=Tryz.sizeOf122
 v76:=Tryz.zeroValue122
 t127:=Tryz.underlying150
 a127:=Tryz.isAgg150
 z127:=Tryz.sizeOf150
 v127:=Tryz.zeroValue150
 t164:=Tryz.underlying162
 a164:=Tryz.isAgg162
 z164:=Tryz.sizeOf162
 v164:=Tryz.zeroValue162 }
theorem Qn:Builder.Extra Tryz.prog Xp:={
 sizeBuilder:=by kernel_rfl
 liesBuilder:=by kernel_rfl
 t5:=Tryz.underlying5
 a5:=Tryz.isAgg5
 z5:=Tryz.sizeOf5
 v5:=Tryz.zeroValue5
 infoByte:=by kernel_rfl
 cellsByte:=by kernel_rfl
 sizeByte:=by kernel_rfl
 neB5:=by decide }
open Go.RowKit in
theorem strings_Join_none (a:Option Addr) (c:Nat) (sep:ByteArray) (w:World) :
  Calls Tryz.prog 40 #[.slice a 0 c,.string sep] w λe w'=>e = .returned (.string ⟨#[]⟩)∧w'=w:=Any.strings_Join_none T7 Qn a c sep w
open Go.RowKit in
theorem strings_Join (bk o c:Nat) (xs:List ByteArray) (sep:ByteArray) (w:World) (hcells:∀ (j:Nat) x,xs[j]? = some x->w.cell? ⟨bk,o+j,none⟩=some (.string x)) (hbk:bk<w.heap.size) (hN:xs.length <= 140737488355328) (hcap:xs.length <= c) (hlen:(Lib.join (xs.map (·.data.toList)) sep.data.toList).length <= 140737488355328) :
  Calls Tryz.prog 40 #[.slice (some ⟨bk,o,none⟩) xs.length c,.string sep] w λe w'=>e = .returned (.string ⟨(Lib.join (xs.map (·.data.toList)) sep.data.toList).toArray⟩)∧Below w.heap.size w w':=Any.strings_Join T7 Qn bk o c xs sep w hcells hbk hN hcap hlen
def okS (v:V):Bool:=match gS v with
 | some _=>true
 | none=>false
def edS (v:V):List UInt8:=match gS v with
 | some e=>e
 | none=>[]
theorem AaV {v:V} (h:okS v=true):v = .str (edS v):=by
 unfold okS at h;unfold edS;split at h
 ·rename_i e he
  exact X1 he
 ·cases h
def Ak8 (n:Nat) (f:Nat->List UInt8):V:=.sl 1 n λi=>.str (f i)
def apS {α:Type} (v:V) (F:Nat->(Nat->List UInt8)->T α):T α :=
 match YQ v with
 | some (n,g)=>.br (AB n λi=>okS (g i)) (F n λi=>edS (g i)) .fail
 | none=>.fail
theorem apS_some {α:Type} {v:V} {F:Nat->(Nat->List UInt8)->T α} {r:α} (h:(apS v F).sem=some r) :
  ∃ n f,(∀ (S:Nat->Prop) (w:World) (c:Value),VR S w v noK c->VR S w (Ak8 n f) noK c)∧(F n f).sem=some r:=by
 unfold apS at h;split at h
 ·rename_i n g hg
  obtain ⟨h1,h2⟩:=Ad h;have h1:=A0.1 h1;refine ⟨n,_,λS w c hv=>?_,h2⟩;unfold YQ at hg;split at hg
  ·rename_i s n' g'
   split at hg
   ·rename_i hs
    simp only [Option.some.injEq,Prod.mk.injEq] at hg;obtain ⟨rfl,rfl⟩:=hg;have hs:s=1:=Nat.eq_of_beq_eq_true hs;subst hs;obtain ⟨a,cap,e,hc,hb⟩:=hv;refine ⟨a,cap,e,hc,hb.imp id ?_⟩
    rintro ⟨b,o,ea,hel⟩
    refine ⟨b,o,ea,λi hi=>?_⟩;have:=hel i hi;rw [AaV (h1 i hi)] at this;exact this
   ·cases hg
  ·cases hg
 ·cases h
def Qm (n:Nat) (g:Nat->List UInt8) (sep:List UInt8):List UInt8:=Lib.join ((List.range n).map g) sep
def O1 (n:Nat) (g:Nat->List UInt8) (sep:List UInt8):Bool:=decide (n <= 140737488355328) && decide ((Qm n g sep).length <= 140737488355328)
def Ab7:List V->AR
 | [v,.str sep]=>apS v λn g=>.br (O1 n g sep) (out (.str (Qm n g sep))) .fail
 | _=>.fail
theorem YU {S:Nat->Prop} {w w':World} (h:Below w.heap.size w w'):Ext noK S [] w noK S [] w' :=
 Ext.ofNil h.os h.tape h.output h.size (λb hb _=>h.block b hb) (λi b hb=>absurd hb (Dd _ _ _)) (λ_ hb=>.inl hb) (λ_ hb=>hb) λ_ _ hb=>by simp at hb
theorem Ao6:Ax Tryz.prog Gl 40 Ab7:=by
 refine ⟨⟨Tryz.f40,Tryz.func40,by decide,by kernel_rfl⟩,λvs cs S w v h' hS hE hv he=>?_⟩;unfold Ab7 at he;split at he
 ·rename_i u sep
  obtain ⟨n,g,ha,h1⟩:=apS_some he;obtain ⟨hk,hq⟩:=Ad h1;have:=Ac hq;simp only [Prod.mk.injEq] at this;obtain ⟨rfl,rfl⟩:=this;simp only [O1,Bool.and_eq_true,decide_eq_true_eq] at hk;obtain ⟨hn,hlen⟩:=hk;obtain ⟨c,l,rfl,q1,c2,l2,rfl,q2,q3⟩:=hv;have q3:l2=[]:=q3;subst q3;have q2:c2 = .string ⟨sep.toArray⟩:=q2;subst q2;obtain ⟨a,cap,rfl,hcap,hel⟩:=ha S w c q1;refine ⟨λi b hb=>by simp at hb,?_⟩;cases n with
  | zero =>
   refine (strings_Join_none a cap ⟨sep.toArray⟩ w).mono ?_
   rintro e w' ⟨he,rfl⟩
   exact ⟨_,noK,S,he,Good.empty hS,rfl,Ext.refl _ _ _ _⟩
  | succ m =>
   rcases hel with h0 | ⟨b,o,rfl,hel⟩
   ·cases h0
   ·have hl:((List.range (m+1)).map λi=>(⟨(g i).toArray⟩:ByteArray)).length=m+1:=by simp
    have hd:((List.range (m+1)).map λi=>(⟨(g i).toArray⟩:ByteArray)).map (·.data.toList)=(List.range (m+1)).map g:=by
     rw [List.map_map];apply List.map_congr_left;intro i _;simp
    have hcell:∀ j,j<m+1->S b∧w.cell? ⟨b,o+j,none⟩=some (.string ⟨(g j).toArray⟩):=λj hj=>by
     obtain ⟨ci,r1,_,_,r4⟩:=hel j hj;have r1:ci = .string ⟨(g j).toArray⟩:=r1;subst r1;have:=r4 0 (.string ⟨(g j).toArray⟩) rfl;rw [Nat.mul_one,Nat.add_zero] at this;exact this
    have hJ:=strings_Join b o cap ((List.range (m+1)).map λi=>(⟨(g i).toArray⟩:ByteArray)) ⟨sep.toArray⟩ w (λj x hx=>by
     rw [List.getElem?_map] at hx;rcases Nat.lt_or_ge j (m+1) with hj | hj
     ·rw [List.getElem?_range hj] at hx
      simp at hx;rw [<- hx];exact (hcell j hj).2
     ·rw [List.getElem?_eq_none (by simpa using hj)] at hx
      cases hx) (hS b (hcell 0 (Nat.succ_pos m)).1) (by rw [hl]; exact hn) (by rw [hl]; exact hcap) (by rw [hd]; simpa [Qm] using hlen)
    rw [hl,hd] at hJ;refine hJ.mono ?_
    rintro e w' ⟨he,hb⟩
    refine ⟨_,noK,S,he,Good.empty (λk hk=>Nat.lt_of_lt_of_le (hS k hk) hb.size),?_,YU hb⟩;show _=_;simp [Qm]
 ·cases he
end Go.Proofs.YtkgdhhieomndeaaGreatDoor.Ed
