/-
  Two nodes held against one another (SameNode): a node and itself. No conditions.
-/
import Derived.Test.YtkgdhhieomndeaaGreatDoorShS
import Derived.Test.YtkgdhhieomndeaaGreatDoorShBa
import Derived.Shelf.Strings.OnBuilder
import Derived.Test.YtkgdhhieomndeaaGreatDoorCyT
namespace Go.Proofs.YtkgdhhieomndeaaGreatDoor.Em
open Go.Sy Go Go.Proofs.YtkgdhhieomndeaaGreatDoor.Ed Go.Proofs.YtkgdhhieomndeaaGreatDoor.Sh
open Int (ofNat)
set_option maxRecDepth 100000
noncomputable def TS {α:Type} (x y:α):Bool:=@decide (x=y) (Classical.propDecidable _)
theorem Qn {α:Type} (x:α):TS x x=true:=@decide_eq_true _ (Classical.propDecidable _) rfl
theorem TR {α:Type} {x y:α} (h:TS x y=true):x=y:=@of_decide_eq_true _ (Classical.propDecidable _) h
theorem LRun.round {Γ:Cx0} {f:St->T (Ex×St)} {l:Lp} {st st2 st3:St} {r:Ex×St} (h:Al f l st=some (.nm,st2)) (hle:LE Γ st2 st3) (hr:LRun Γ f st3 r):LRun Γ f st r:=by
 unfold Al at h;obtain ⟨⟨e,st1⟩,h1,h2⟩:=Ah h;have h2:=Ab h2;cases e with
 | nm =>simp only [Xn,Prod.mk.injEq,true_and] at h2;subst h2;exact .next h1 (LE.trans (Kp _ _ _) hle) hr
 | ex i=>simp [Xn] at h2
 | rt=>simp [Xn] at h2
theorem LRun.exit {Γ:Cx0} {f:St->T (Ex×St)} {l:Lp} {st st2:St} {e:Ex} (h:Al f l st=some (e,st2)) (hne:e ≠ .nm):LRun Γ f st (e,st2):=by
 unfold Al at h;obtain ⟨⟨e',st1⟩,h1,h2⟩:=Ah h;have h2:=Ab h2;cases e' with
 | nm =>simp only [Xn,Prod.mk.injEq] at h2;exact absurd h2.1 hne
 | ex i =>simp only [Xn,Prod.mk.injEq] at h2;obtain ⟨rfl,rfl⟩:=h2;exact .stop h1 hne (Kp _ _ _)
 | rt =>simp only [Xn,Prod.mk.injEq] at h2;obtain ⟨rfl,rfl⟩:=h2;exact .stop h1 hne (Kp _ _ _)
structure Nd where
 kd:Int
 th:Int
 rg:Int
 lc:List UInt8
 v:Int
 n:Nat
 X:Nat->Tg
 f:Nat->Int
def ndV (z:Nd):V:=.agg [iV z.kd,iV z.th,iV z.rg,.str z.lc,iV z.v,.sl 6 z.n (BQ z.X z.f)]
def AaG:V->Option (Tg×Int)
 | .agg [.val (.int .i64 a),.val (.int .i64 t),.val (.int .i64 r),.str l,.val (.int .i64 v),.nilS]=>bif ieq a 2 then some (⟨t,r,l⟩,v) else none
 | _=>none
def AbQ (v:V):Bool:=match AaG v with
 | some _=>true
 | none=>false
def Ado (v:V):Tg×Int:=match AaG v with
 | some e=>e
 | none=>(⟨0,0,[]⟩,0)
def AhF (p:Tg×Int):V:=.agg [iV 2,iV p.1.th,iV p.1.rg,.str p.1.lc,iV p.2,.nilS]
theorem Wx {v:V} (h:AbQ v=true):v=AhF (Ado v):=by
 unfold AbQ at h;unfold Ado;split at h
 ·rename_i e he
  unfold AaG at he;split at he
  ·rename_i a t r l v
   cases ha:ieq a 2 with
   | true =>rw [ha] at he;cases he;rw [show a=2 by simpa [ieq] using ha];rfl
   | false=>rw [ha] at he; cases he
  ·cases he
 ·cases h
def Ad5:Cod (Tg×Int):=⟨6,AhF,AbQ,Ado,λv h S w c hv=>by rw [<- Wx h]; exact hv⟩
def Agt {β:Type} (v:V) (F:Nd->T β):T β:=match v with
 | .agg [.val (.int .i64 a),.val (.int .i64 t),.val (.int .i64 r),.str l,.val (.int .i64 x),k]=>apG Ad5 k λn g=>F ⟨a,t,r,l,x,n,λi=>(g i).1,λi=>(g i).2⟩
 | _=>.fail
theorem Ra {β:Type} {v:V} {F:Nd->T β} {r:β} (h:(Agt v F).sem=some r) :
  ∃ z,(∀ (S:Nat->Prop) (w:World) (u:Value),VR S w v noK u->VR S w (ndV z) noK u)∧(F z).sem=some r:=by
 unfold Agt at h;split at h
 ·obtain ⟨n,g,h1,h2⟩:=Bz h
  refine ⟨_,λS w u hv=>?_,h2⟩;obtain ⟨ca,e,c1,l1,e1,q1,c2,l2,e2,q2,c3,l3,e3,q3,c4,l4,e4,q4,c5,l5,e5,q5,c6,l6,e6,q6,q7⟩:=hv;exact ⟨ca,e,c1,l1,e1,q1,c2,l2,e2,q2,c3,l3,e3,q3,c4,l4,e4,q4,c5,l5,e5,q5,c6,l6,e6,h1 S w c6 q6,q7⟩
 ·cases h
noncomputable def AbV:List V->AE
 | [u,v]=>Agt u λz=>Agt v λy=>.br (TS z y) (.br (Bn 0 z.n 72) (.leaf (bV true,[])) .fail) .fail
 | _=>.fail
def lp27 (kd th rg:Int) (lc:List UInt8) (v:Int) (n:Nat) (X:Nat->Tg) (f:Nat->Int):Lp:=⟨bmK 70 0 [2,3,4,5,6],4,bmK 70 0 [4],2,0⟩
def st27 (kd th rg:Int) (lc:List UInt8) (v:Int) (n:Nat) (X:Nat->Tg) (f:Nat->Int) (c:Nat) (j:Nat->V):St:=⟨jsV 70 0 j [(2,.ptr 0 0),(3,.ptr 1 0),(4,bV false),(5,.ref 2),(6,.ref 3)],[.cells [iV kd,iV th,iV rg,.str lc,iV v,.sl 6 n λi=>BQ X f i],.cells [iV kd,iV th,iV rg,.str lc,iV v,.sl 6 n λi=>BQ X f i],.row 35 6 c (λi=>BQ X f i),.row 35 6 c (λi=>BQ X f i)]⟩
def en27e (kd th rg:Int) (lc:List UInt8) (v:Int) (n:Nat) (X:Nat->Tg) (f:Nat->Int) (c:Nat):Ex×St:=(.ex 0,⟨jsV 70 0 Aa [(4,bV false)],[.cells [iV kd,iV th,iV rg,.str lc,iV v,.sl 6 n λi=>BQ X f i],.cells [iV kd,iV th,iV rg,.str lc,iV v,.sl 6 n λi=>BQ X f i]]⟩)
noncomputable def body27 (L:LT):St->T (Ex×St):=λst=>AD tab ⟨Am tb0,L,Gl⟩ (Au Tryz.f28 0) 0 st
section
variable (L:LT) (kd th rg:Int) (lc:List UInt8) (v:Int) (n:Nat) (X:Nat->Tg) (f:Nat->Int) (c:Nat)  (j:Nat->V)
include L kd th rg lc v n X f c j
theorem r27e (h0:ilt 0 (ofNat c)=false):Al (body27 L) (lp27 kd th rg lc v n X f) (st27 kd th rg lc v n X f c j)=some ((.ex 0),⟨jsV 70 0 Aa [(4,bV false)],[.cells [iV kd,iV th,iV rg,.str lc,iV v,.sl 6 n (λi=>.agg [iV 2,iV (X i).th,iV (X i).rg,.str (X i).lc,iV (f i),.nilS])],.cells [iV kd,iV th,iV rg,.str lc,iV v,.sl 6 n (λi=>.agg [iV 2,iV (X i).th,iV (X i).rg,.str (X i).lc,iV (f i),.nilS])]]⟩):=by
 exact Ac (ks:=[kn h0]) (by kernel_rfl)
theorem Apk (h0:ilt 0 (ofNat c)=true) (h30:Ao (ile 0 (wr .i64 (AC (ofNat c) 1))) (ilt (wr .i64 (AC (ofNat c) 1)) (ofNat c))=true) (h31:nlt (toN (wr .i64 (AC (ofNat c) 1))) c=true) (h32:seq (X (toN (wr .i64 (AC (ofNat c) 1)))).lc (X (toN (wr .i64 (AC (ofNat c) 1)))).lc=true) (h33:Ao (ile 0 (wr .i64 (AC (ofNat c) 1))) (ile (wr .i64 (AC (ofNat c) 1)) (ofNat c))=true) (h34:Bn (toN (wr .i64 (AC (ofNat c) 1))) 0 72=true):Al (body27 L) (lp27 kd th rg lc v n X f) (st27 kd th rg lc v n X f c j)=some (.nm,⟨jsV 70 0 Aa [(2,.ptr 0 0),(3,.ptr 1 0),(4,bV false),(5,.ref 2),(6,.ref 3)],[.cells [iV kd,iV th,iV rg,.str lc,iV v,.sl 6 n (λi=>.agg [iV 2,iV (X i).th,iV (X i).rg,.str (X i).lc,iV (f i),.nilS])],.cells [iV kd,iV th,iV rg,.str lc,iV v,.sl 6 n (λi=>.agg [iV 2,iV (X i).th,iV (X i).rg,.str (X i).lc,iV (f i),.nilS])],.row 35 6 (AV (toN (wr .i64 (AC (ofNat c) 1))) 0) (Bu (toN (wr .i64 (AC (ofNat c) 1))) 0 (λi=>.agg [iV 2,iV (X i).th,iV (X i).rg,.str (X i).lc,iV (f i),.nilS]) Aa),.row 35 6 (AV (toN (wr .i64 (AC (ofNat c) 1))) 0) (Bu (toN (wr .i64 (AC (ofNat c) 1))) 0 (λi=>.agg [iV 2,iV (X i).th,iV (X i).rg,.str (X i).lc,iV (f i),.nilS]) Aa)]⟩):=by
 exact Ac (ks:=[kn h0,kn h30,kn h31,kn h30,kn h31,kI (wr .i64 (AC (ofNat c) 1)),kn h30,kJ (toN (wr .i64 (AC (ofNat c) 1))),kn h31,kI 2,kI (X (toN (wr .i64 (AC (ofNat c) 1)))).th,kI (X (toN (wr .i64 (AC (ofNat c) 1)))).rg,kn h32,kI (f (toN (wr .i64 (AC (ofNat c) 1)))),kI (wr .i64 (AC (ofNat c) 1)),kn h30,kJ (toN (wr .i64 (AC (ofNat c) 1))),kn h31,kI 2,kI (X (toN (wr .i64 (AC (ofNat c) 1)))).th,kI (X (toN (wr .i64 (AC (ofNat c) 1)))).rg,kn h32,kI (f (toN (wr .i64 (AC (ofNat c) 1)))),kI (wr .i64 (AC (ofNat c) 1)),kn h30,kJ (toN (wr .i64 (AC (ofNat c) 1))),kn h31,kI 2,kI (X (toN (wr .i64 (AC (ofNat c) 1)))).th,kI (X (toN (wr .i64 (AC (ofNat c) 1)))).rg,kn h32,kI (f (toN (wr .i64 (AC (ofNat c) 1)))),kI (wr .i64 (AC (ofNat c) 1)),kn h30,kJ (toN (wr .i64 (AC (ofNat c) 1))),kn h31,kI 2,kI (X (toN (wr .i64 (AC (ofNat c) 1)))).th,kI (X (toN (wr .i64 (AC (ofNat c) 1)))).rg,kn h32,kI (f (toN (wr .i64 (AC (ofNat c) 1)))),kI (wr .i64 (AC (ofNat c) 1)),kn h30,kJ (toN (wr .i64 (AC (ofNat c) 1))),kn h31,kI 2,kI (X (toN (wr .i64 (AC (ofNat c) 1)))).th,kI (X (toN (wr .i64 (AC (ofNat c) 1)))).rg,kn h32,kI (f (toN (wr .i64 (AC (ofNat c) 1)))),kI (wr .i64 (AC (ofNat c) 1)),kn h30,kJ (toN (wr .i64 (AC (ofNat c) 1))),kn h31,kI 2,kI (X (toN (wr .i64 (AC (ofNat c) 1)))).th,kI (X (toN (wr .i64 (AC (ofNat c) 1)))).rg,kn h32,kI (f (toN (wr .i64 (AC (ofNat c) 1)))),kI (wr .i64 (AC (ofNat c) 1)),kn h30,kJ (toN (wr .i64 (AC (ofNat c) 1))),kn h31,kI 2,kI (X (toN (wr .i64 (AC (ofNat c) 1)))).th,kI (X (toN (wr .i64 (AC (ofNat c) 1)))).rg,kn h32,kI (f (toN (wr .i64 (AC (ofNat c) 1)))),kn h33,kn h33,kN (kI 2),kN (kI 2),kN (kI 2),kN (kI 2),kN (kI 2),kN (kI 2),kN (kA (kI (X (toN (wr .i64 (AC (ofNat c) 1)))).th) (kA (kI (X (toN (wr .i64 (AC (ofNat c) 1)))).rg) (kA (kn h32) kT))),kN (kA (kI (X (toN (wr .i64 (AC (ofNat c) 1)))).th) (kA (kI (X (toN (wr .i64 (AC (ofNat c) 1)))).rg) (kA (kn h32) kT))),kN (kA (kI (X (toN (wr .i64 (AC (ofNat c) 1)))).th) (kA (kI (X (toN (wr .i64 (AC (ofNat c) 1)))).rg) (kA (kn h32) kT))),kN (kA (kI (X (toN (wr .i64 (AC (ofNat c) 1)))).th) (kA (kI (X (toN (wr .i64 (AC (ofNat c) 1)))).rg) (kA (kn h32) kT))),kN (kA (kI (X (toN (wr .i64 (AC (ofNat c) 1)))).th) (kA (kI (X (toN (wr .i64 (AC (ofNat c) 1)))).rg) (kA (kn h32) kT))),kN (kA (kI (X (toN (wr .i64 (AC (ofNat c) 1)))).th) (kA (kI (X (toN (wr .i64 (AC (ofNat c) 1)))).rg) (kA (kn h32) kT))),kN (kI (f (toN (wr .i64 (AC (ofNat c) 1))))),kN (kI (f (toN (wr .i64 (AC (ofNat c) 1))))),kN (kI (f (toN (wr .i64 (AC (ofNat c) 1))))),kN (kI (f (toN (wr .i64 (AC (ofNat c) 1))))),kN (kI (f (toN (wr .i64 (AC (ofNat c) 1))))),kN (kI (f (toN (wr .i64 (AC (ofNat c) 1))))),kN (kI (f (toN (wr .i64 (AC (ofNat c) 1))))),kN (kI (f (toN (wr .i64 (AC (ofNat c) 1))))),kN (kI 0),kn h34,kn h34]) (by kernel_rfl)
end
def Y9 (kd th rg:Int) (lc:List UInt8) (v:Int) (n:Nat) (X:Nat->Tg) (f:Nat->Int) :St:=⟨jsV 70 0 (λ_=>A9) [(0,.agg [iV kd,iV th,iV rg,.str lc,iV v,.sl 6 n (λi=>.agg [iV 2,iV (X i).th,iV (X i).rg,.str (X i).lc,iV (f i),.nilS])]),(1,.agg [iV kd,iV th,iV rg,.str lc,iV v,.sl 6 n (λi=>.agg [iV 2,iV (X i).th,iV (X i).rg,.str (X i).lc,iV (f i),.nilS])]),(2,.ptr 0 0),(3,.ptr 1 0),(4,bV false),(5,.ref 2),(6,.ref 3),(10,.agg [iV kd,iV th,iV rg,.str lc,iV v,.sl 6 n (λi=>.agg [iV 2,iV (X i).th,iV (X i).rg,.str (X i).lc,iV (f i),.nilS])]),(11,.ref 2),(12,.agg [iV kd,iV th,iV rg,.str lc,iV v,.sl 6 n (λi=>.agg [iV 2,iV (X i).th,iV (X i).rg,.str (X i).lc,iV (f i),.nilS])]),(13,.ref 3)],[.cells [iV kd,iV th,iV rg,.str lc,iV v,.sl 6 n (λi=>.agg [iV 2,iV (X i).th,iV (X i).rg,.str (X i).lc,iV (f i),.nilS])],.cells [iV kd,iV th,iV rg,.str lc,iV v,.sl 6 n (λi=>.agg [iV 2,iV (X i).th,iV (X i).rg,.str (X i).lc,iV (f i),.nilS])],.row 35 6 1 (HK 1 [.agg [iV kd,iV th,iV rg,.str lc,iV v,.sl 6 n (λi=>.agg [iV 2,iV (X i).th,iV (X i).rg,.str (X i).lc,iV (f i),.nilS])]]),.row 35 6 1 (HK 1 [.agg [iV kd,iV th,iV rg,.str lc,iV v,.sl 6 n (λi=>.agg [iV 2,iV (X i).th,iV (X i).rg,.str (X i).lc,iV (f i),.nilS])]])]⟩
def AgH (kd th rg:Int) (lc:List UInt8) (v:Int) (n:Nat) (X:Nat->Tg) (f:Nat->Int) (j:Nat->V):St:=⟨jsV 70 0 j [(2,.ptr 0 0),(3,.ptr 1 0),(4,bV false),(5,.ref 2),(6,.ref 3)],[.cells [iV kd,iV th,iV rg,.str lc,iV v,.sl 6 n λi=>BQ X f i],.cells [iV kd,iV th,iV rg,.str lc,iV v,.sl 6 n λi=>BQ X f i],.row 35 6 1 (λ_=>.agg [iV kd,iV th,iV rg,.str lc,iV v,.sl 6 n λi=>BQ X f i]),.row 35 6 1 (λ_=>.agg [iV kd,iV th,iV rg,.str lc,iV v,.sl 6 n λi=>BQ X f i])]⟩
theorem Apl (L:LT) (kd th rg:Int) (lc:List UInt8) (v:Int) (n:Nat) (X:Nat->Tg) (f:Nat->Int) (j:Nat->V) (h28:nlt (toN 0) 1=true) (h29:seq lc lc=true) (h30:Bn (toN 0) n 72=true):Al (body27 L) (lp27 kd th rg lc v n X f) (AgH kd th rg lc v n X f j)=some (.nm,⟨jsV 70 0 Aa [(2,.ptr 0 0),(3,.ptr 1 0),(4,bV false),(5,.ref 2),(6,.ref 3)],[.cells [iV kd,iV th,iV rg,.str lc,iV v,.sl 6 n (λi=>.agg [iV 2,iV (X i).th,iV (X i).rg,.str (X i).lc,iV (f i),.nilS])],.cells [iV kd,iV th,iV rg,.str lc,iV v,.sl 6 n (λi=>.agg [iV 2,iV (X i).th,iV (X i).rg,.str (X i).lc,iV (f i),.nilS])],.row 35 6 (AV (toN 0) n) (Bu (toN 0) n (λ_=>.agg [iV kd,iV th,iV rg,.str lc,iV v,.sl 6 n λi=>BQ X f i]) (λi=>BQ X f i)),.row 35 6 (AV (toN 0) n) (Bu (toN 0) n (λ_=>.agg [iV kd,iV th,iV rg,.str lc,iV v,.sl 6 n λi=>BQ X f i]) (λi=>BQ X f i))]⟩):=Og (bbK 51 1688850128699391) ((λc0 c1 c2 c3 c4 c5 c6 c7 c8=>[ilt 0 1,c0,c1,c0,c1,c2,c0,c3,c2,c0,c3,c2,c0,c3,c2,c0,c3,c2,c0,c3,c2,c0,c3,c2,c0,c3,c4,c4,c5,c5,c5,c5,c5,c5,c6,c6,c6,c6,c6,c6,c7,c7,c7,c7,c7,c7,c7,c7,A5 (ieq (ofNat n) (ofNat n)),c8,c8]) (Ao (ile 0 0) (ilt 0 1)) (nlt (toN 0) 1) (ieq 0 0) (AW (toN 0) (toN 0)) (Ao (ile 0 0) (ile 0 1)) (A5 (ieq kd kd)) (A5 (Ao (ieq th th) (Ao (ieq rg rg) (Ao (seq lc lc) true)))) (A5 (ieq v v)) (Bn (toN 0) n 72)) (by kernel_rfl) (by simp only [*,Br,nbeq_self] <;> rfl)
theorem w27 (L:LT) (p0:PT) (kd th rg:Int) (lc:List UInt8) (v:Int) (n:Nat) (X:Nat->Tg) (f:Nat->Int)  (hp0:p0 (body27 (onP 0 p0 (en27e kd th rg lc v n X f 0) L)) (Y9 kd th rg lc v n X f)=true):(Ay (Ai tab ⟨Am tb0,onP 0 p0 (en27e kd th rg lc v n X f 0) L,Gl⟩ Tryz.f28 [.agg [iV kd,iV th,iV rg,.str lc,iV v,.sl 6 n λi=>BQ X f i],.agg [iV kd,iV th,iV rg,.str lc,iV v,.sl 6 n λi=>BQ X f i]] [])).sem=some ((bV true),[]):=by
 exact Ac (ks:=[kn hp0]) (by kernel_rfl)
section
variable (kd th rg:Int) (lc:List UInt8) (v:Int) (n:Nat) (X:Nat->Tg) (f:Nat->Int)
theorem run27 (M:LT) (hn:n * 72 <= 140737488355328):∀ (c:Nat) (j:Nat->V),c <= n->LRun ⟨Am tb0,Gl⟩ (body27 M) (st27 kd th rg lc v n X f c j) (en27e kd th rg lc v n X f 0)
 | 0,j,_=>LRun.exit (r27e M kd th rg lc v n X f 0 j rfl) (by simp)
 | c+1,j,h=>by
  have hw:wr .i64 (AC (ofNat (c+1)) 1)=ofNat c:=Nz (by omega);have h1:=Apk M kd th rg lc v n X f (c+1) j (decide_eq_true (by simp only [Int.ofNat_eq_natCast]; omega));rw [hw] at h1;refine LRun.round (h1 (Ag (by omega)) (decide_eq_true (by show c<c+1; omega)) (Dh _) (by simp [Ao,ile]; omega) (decide_eq_true (by show (c+0) * 72 <= _; omega))) ?_ (run27 M hn c Aa (by omega));refine LE.trans (Ft (i:=2) (n:=c) (g':=BQ X f) rfl λq hq=>?_) (Ft (i:=3) (n:=c) (g':=BQ X f) rfl λq hq=>?_)
  ·exact (HS c 0 _ _ q hq).symm
  ·exact (HS c 0 _ _ q hq).symm
end
theorem Ap7:Ax Tryz.prog Gl 28 AbV:=by
 refine Aj A7 mixed Tryz.func28 (by kernel_rfl) (by kernel_rfl) λvs v h' h=>?_;unfold AbV at h;split at h
 ·rename_i u1 v1
  obtain ⟨z,a1,h⟩:=Ra h;obtain ⟨y,a2,h⟩:=Ra h;obtain ⟨hy,h⟩:=Ad h;obtain ⟨hn,h⟩:=Ad h;have:=Ab h;have hy:=TR hy;subst hy;simp only [Prod.mk.injEq] at this;obtain ⟨rfl,rfl⟩:=this;obtain ⟨kd,th,rg,lc,v,n,X,f⟩:=z;have hn:(0+n) * 72 <= 140737488355328:=of_decide_eq_true hn;have hA:Bj [u1,v1] [.agg [iV kd,iV th,iV rg,.str lc,iV v,.sl 6 n λi=>BQ X f i],.agg [iV kd,iV th,iV rg,.str lc,iV v,.sl 6 n λi=>BQ X f i]]:=λS w cs hv=>by
   obtain ⟨c,l,rfl,q1,d,l',rfl,q2,q3⟩:=hv;exact ⟨c,_,rfl,a1 S w c q1,d,_,rfl,a2 S w d q2,q3⟩
  have hr:∀ M,LRun ⟨Am tb0,Gl⟩ (body27 M) (Y9 kd th rg lc v n X f) (en27e kd th rg lc v n X f 0):=λM=>by
   refine .weak (st1:=AgH kd th rg lc v n X f (λi=>nth (Y9 kd th rg lc v n X f).t i)) (LE.trans (Ft (i:=2) (n:=1) (g':=λ_=>.agg [iV kd,iV th,iV rg,.str lc,iV v,.sl 6 n λi=>BQ X f i]) rfl λq hq=>?_) (Ft (i:=3) (n:=1) (g':=λ_=>.agg [iV kd,iV th,iV rg,.str lc,iV v,.sl 6 n λi=>BQ X f i]) rfl λq hq=>?_)) ?_
   ·rw [show q=0 by omega]
    rfl
   ·rw [show q=0 by omega]
    rfl
   have h1:=Apl M kd th rg lc v n X f (λi=>nth (Y9 kd th rg lc v n X f).t i) rfl (Dh _) (decide_eq_true hn);rw [show AV (toN 0) n=n from Nat.zero_add n] at h1;have hg:∀ (G:V) (q:Nat),q<n->BQ X f q=Bu (toN 0) n (λ_=>G) (λi=>BQ X f i) q:=λG q hq=>by
    have:=JZ 0 n (λ_=>G) (BQ X f) q hq;rw [Nat.zero_add] at this;exact this.symm
   exact LRun.round h1 (LE.trans (Ft (i:=2) (n:=n) (g':=BQ X f) rfl (hg _)) (Ft (i:=3) (n:=n) (g':=BQ X f) rfl (hg _))) (run27 kd th rg lc v n X f M (by omega) n Aa (Nat.le_refl _))
  exact ⟨_,⟨Am tb0,_,Gl⟩,_,hA,rfl,D5 rfl CS,HH (k:=0) (r:=en27e kd th rg lc v n X f 0) GO,w27 _ _ kd th rg lc v n X f (E1 (hr _)),Av.refl _⟩
 ·cases h
end Go.Proofs.YtkgdhhieomndeaaGreatDoor.Em
namespace Go.Proofs.YtkgdhhieomndeaaGreatDoor.Em
open Go.Sy Go Go.Proofs.YtkgdhhieomndeaaGreatDoor.Ed
open Int (ofNat)
set_option maxRecDepth 100000
noncomputable def tb18:AK:=[]
theorem tb18_ok:Aq Tryz.prog Gl tb18:=.nil
def lp18 (s:List UInt8):Lp:=⟨bmK 34 0 [0,2,3],0,bmK 34 0 [0,2],0,B5 s+1⟩
def st18 (s:List UInt8) (b:Nat) (j:Nat->V):St:=⟨jsV 34 0 j [(0,.str s),(2,bV false),(3,nV b)],[]⟩
def Adn (s:List UInt8) (b:Nat):Ex×St:=(.ex 0,⟨jsV 34 0 Aa [(0,.str s),(2,bV false)],[]⟩)
def Adm (s:List UInt8) (b:Nat):Ex×St:=(.rt,⟨jsV 34 0 Aa [(0,.str s),(2,bV false)],[]⟩)
noncomputable def IT (L:LT):St->T (Ex×St):=λst=>AD tab ⟨Am tb18,L,Gl⟩ (Au Tryz.f15 0) 0 st
section
variable (L:LT) (s:List UInt8) (b:Nat)  (j:Nat->V)
include L s b j
theorem Apy (h0:ilt (ofNat b) (ofNat (B5 s))=false):Al (IT L) (lp18 s) (st18 s b j)=some ((.ex 0),⟨jsV 34 0 Aa [(0,.str s),(2,bV false)],[]⟩):=by
 exact Ac (ks:=[kn h0]) (by kernel_rfl)
theorem Apw (h0:ilt (ofNat b) (ofNat (B5 s))=true) (h22:ile 0 (ofNat b)=true) (h23:ilt (ED s b) 33=true):Al (IT L) (lp18 s) (st18 s b j)=some (.rt,⟨jsV 34 0 Aa [(0,.str s),(2,bV false)],[]⟩):=by
 exact Ac (ks:=[kn h0,kA (kn h22) (kn h0),kn h23,kn h23,kn h23,kn h23,kn h23,kT,kT,kT,kT,kT,kT]) (by kernel_rfl)
theorem Apx (h0:ilt (ofNat b) (ofNat (B5 s))=true) (h23:ile 0 (ofNat b)=true) (h24:ilt (ED s b) 33=false) (h25:ilt 126 (ED s b)=true):Al (IT L) (lp18 s) (st18 s b j)=some (.rt,⟨jsV 34 0 Aa [(0,.str s),(2,bV false)],[]⟩):=by
 exact Ac (ks:=[kn h0,kA (kn h23) (kn h0),kn h24,kn h24,kn h24,kA (kn h23) (kn h0),kn h24,kn h24,kn h25,kn h25,kn h25,kn h25,kn h25,kT]) (by kernel_rfl)
theorem Apu (h0:ilt (ofNat b) (ofNat (B5 s))=true) (h24:ile 0 (ofNat b)=true) (h25:ilt (ED s b) 33=false) (h26:ilt 126 (ED s b)=false) (h27:ieq (ED s b) 34=true):Al (IT L) (lp18 s) (st18 s b j)=some (.rt,⟨jsV 34 0 Aa [(0,.str s),(2,bV false)],[]⟩):=by
 exact Ac (ks:=[kn h0,kA (kn h24) (kn h0),kn h25,kn h25,kn h25,kA (kn h24) (kn h0),kn h25,kn h25,kn h26,kn h26,kn h26,kA (kn h24) (kn h0),kn h26,kn h26,kn h27]) (by kernel_rfl)
theorem Apv (h0:ilt (ofNat b) (ofNat (B5 s))=true) (h24:ile 0 (ofNat b)=true) (h25:ilt (ED s b) 33=false) (h26:ilt 126 (ED s b)=false) (h27:ieq (ED s b) 34=false):Al (IT L) (lp18 s) (st18 s b j)=some (.nm,⟨jsV 34 0 Aa [(0,.str s),(2,bV false),(3,iV (wr .i64 (Ak (ofNat b) 1)))],[]⟩):=by
 exact Ac (ks:=[kn h0,kA (kn h24) (kn h0),kn h25,kn h25,kn h25,kA (kn h24) (kn h0),kn h25,kn h25,kn h26,kn h26,kn h26,kA (kn h24) (kn h0),kn h26,kn h26,kn h27]) (by kernel_rfl)
end
def ent18 (s:List UInt8) :St:=⟨jsV 34 0 (λ_=>A9) [(0,.str s),(2,bV false),(3,iV 0),(4,.str s),(5,iV (ofNat (B5 s))),(6,bV (ilt (ofNat (B5 s)) 1)),(7,bV (ilt (ofNat (B5 s)) 1)),(8,.str s),(9,iV (ofNat (B5 s))),(10,bV (ilt 1024 (ofNat (B5 s)))),(11,bV (ilt 1024 (ofNat (B5 s))))],[]⟩
section
variable (L:LT) (p0:PT) (s:List UInt8) (b:Nat)
include L p0 s b
theorem AoT (h0:ilt (ofNat (B5 s)) 1=false) (h1:ilt 1024 (ofNat (B5 s))=false) (hp0:p0 (IT (onP 0 p0 (Adn s b) L)) (ent18 s)=true):(Ay (Ai tab ⟨Am tb18,onP 0 p0 (Adn s b) L,Gl⟩ Tryz.f15 [.str s] [])).sem=some ((bV true),[]):=by
 exact Ac (ks:=[kn h0,kn h0,kn h0,kn h0,kn h1,kn hp0]) (by kernel_rfl)
theorem AoS (h0:ilt (ofNat (B5 s)) 1=false) (h1:ilt 1024 (ofNat (B5 s))=false) (hp0:p0 (IT (onP 0 p0 (Adm s b) L)) (ent18 s)=true):(Ay (Ai tab ⟨Am tb18,onP 0 p0 (Adm s b) L,Gl⟩ Tryz.f15 [.str s] [])).sem=some ((bV false),[]):=by
 exact Ac (ks:=[kn h0,kn h0,kn h0,kn h0,kn h1,kn hp0]) (by kernel_rfl)
end
def AaI (s:List UInt8):Nat->Nat->Bool
 | 0,_=>true
 | d+1,i=>bif ilt (ED s i) 33 then false else bif ilt 126 (ED s i) then false else bif ieq (ED s i) 34 then false else AaI s d (i+1)
def Nk (s:List UInt8):Bool:=bif ilt (ofNat (B5 s)) 1 then false else bif ilt 1024 (ofNat (B5 s)) then false else AaI s s.length 0
def Zn:List V->AE
 | [.str s]=>out (bV (Nk s))
 | _=>.fail
theorem AgY (L:LT) (s:List UInt8) (hs:s.length <= 1024):∀ (d i:Nat) (j:Nat->V) (q:Nat),s.length=i+d->d<q ->
  (A3 (IT L) (lp18 s) q (st18 s i j)).sem=some (bif AaI s d i then Adn s 0 else Adm s 0)
 | 0,i,j,q+1,h,_=>by
  have hl:B5 s=s.length:=rfl;exact Ae (Apy L s i j (Aw (by omega)))
 | d+1,i,j,q+1,h,h2=>by
  have hl:B5 s=s.length:=rfl;have h0:ilt (ofNat i) (ofNat (B5 s))=true:=ofNat_lt (by omega);rw [AaI];cases h3:ilt (ED s i) 33 with
  | true=>exact Ae (Apw L s i j h0 (AX i) h3)
  | false =>
   cases h4:ilt 126 (ED s i) with
   | true=>exact Ae (Apx L s i j h0 (AX i) h3 h4)
   | false =>
    cases h5:ieq (ED s i) 34 with
    | true=>exact Ae (Apu L s i j h0 (AX i) h3 h4 h5)
    | false =>rw [Ae (Apv L s i j h0 (AX i) h3 h4 h5),A6,Ap (n:=s.length) (by omega) (by omega)];exact AgY L s hs d (i+1) Aa q (by omega) (by omega)
theorem ent18_eq (s:List UInt8):ent18 s=st18 s 0 (λi=>nth (ent18 s).t i):=by kernel_rfl
theorem X3 (s:List UInt8):(Ay (Ai tab (AA Gl tb18 [(0,lp18 s)]) Tryz.f15 [.str s] [])).sem=some (bV (Nk s),[]):=by
 have hL:=AQ [(0,lp18 s)];unfold Nk;cases h1:ilt (ofNat (B5 s)) 1 with
 | true=>exact Ac (ks:=[kn h1,kn h1,kn h1,kn h1,kT]) (by kernel_rfl)/-W:w18a-/
 | false =>
  cases h2:ilt 1024 (ofNat (B5 s)) with
  | true=>exact Ac (ks:=[kn h1,kn h1,kn h1,kn h1,kn h2]) (by kernel_rfl)/-W:w18b-/
  | false =>
   have hs:s.length <= 1024:=by
    rw [show (1024:Int)=ofNat 1024 from rfl,BP] at h2;have:=of_decide_eq_false h2;unfold B5 at this;omega
   have hr:=λM=>AgY M s hs s.length 0 (λi=>nth (ent18 s).t i) (B5 s+1) (by omega) (Nat.lt_succ_self _);cases h3:AaI s s.length 0 with
   | true =>rw [h3] at hr;exact AP (AI hL hL) _ (AoT (Ba [(0,lp18 s)]) _ s 0 h1 h2 (Az (by rw [ent18_eq]; exact hr _)))
   | false =>rw [h3] at hr;exact AP (AI hL hL) _ (AoS (Ba [(0,lp18 s)]) _ s 0 h1 h2 (Az (by rw [ent18_eq]; exact hr _)))
theorem p18:Ax Tryz.prog Gl 15 Zn:=by
 refine Aj A7 mixed Tryz.func15 (by kernel_rfl) (by kernel_rfl) λvs v h' h=>?_;unfold Zn at h;split at h
 ·rename_i s
  have:=Ab h;simp only [Prod.mk.injEq] at this;obtain ⟨rfl,rfl⟩:=this;have hx:=AH tb18_ok [(0,lp18 s)];exact ⟨_,AA Gl tb18 [(0,lp18 s)],_,Bj.refl _,rfl,hx.1,hx.2,X3 s,Av.refl _⟩
 ·cases h
theorem e8 (Γ:Cx) (vs:List V) (h:List Blk):Ai tab Γ Tryz.f22 vs h=Ai tab Γ Tryz.f15 vs h:=by kernel_rfl
theorem p8:Ax Tryz.prog Gl 22 Zn:=by
 refine Aj A7 mixed Tryz.func22 (by kernel_rfl) (by kernel_rfl) λvs v h' h=>?_;unfold Zn at h;split at h
 ·rename_i s
  have:=Ab h;simp only [Prod.mk.injEq] at this;obtain ⟨rfl,rfl⟩:=this;have hx:=AH tb18_ok [(0,lp18 s)];exact ⟨_,AA Gl tb18 [(0,lp18 s)],_,Bj.refl _,rfl,hx.1,hx.2,by rw [e8]; exact X3 s,Av.refl _⟩
 ·cases h
end Go.Proofs.YtkgdhhieomndeaaGreatDoor.Em
namespace Go.Proofs.YtkgdhhieomndeaaGreatDoor.Ed
open Go.Sy Go.Shelf Go.Proofs Go.RowKit
def Yg:Go.Shelf.Ren:=⟨λ| 156=>40 | 165=>62 | 166=>63 | 169=>64 | 240=>94 | 241=>95 | 276=>120 | 277=>121 | n=>n,λ| 31=>95 | 9=>9 | 3=>3 | 4=>4 | 0=>0 | 20=>20 | 72=>118 | 76=>122 | 70=>115 | 37=>116 | 75=>121 | 127=>150 | 164=>162 | 5=>5 | 80=>124 | n=>n,λ| n=>n⟩
theorem Uz:Go.Proofs.Lays.n156 Tryz.prog Yg:={
 mixed:=by kernel_rfl
 f156:=Tryz.func40.trans (congrArg some (by kernel_rfl))
 f165:=Tryz.func62.trans (congrArg some (by kernel_rfl))
 f166:=Tryz.func63.trans (congrArg some (by kernel_rfl))
 f169:=Tryz.func64.trans (congrArg some (by kernel_rfl))
 f240:=Tryz.func94.trans (congrArg some (by kernel_rfl))
 f241:=Tryz.func95.trans (congrArg some (by kernel_rfl))
 f276:=Tryz.func120.trans (congrArg some (by kernel_rfl))
 f277:=Tryz.func121.trans (congrArg some (by kernel_rfl))
 t0:=Tryz.underlying0
 a0:=Tryz.isAgg0
 z0:=Tryz.sizeOf0
 v0:=Tryz.zeroValue0
 t3:=Tryz.underlying3
 a3:=Tryz.isAgg3
 z3:=Tryz.sizeOf3
 v3:=Tryz.zeroValue3
 t4:=Tryz.underlying4
 a4:=Tryz.isAgg4
 z4:=Tryz.sizeOf4
 v4:=Tryz.zeroValue4
 t9:=Tryz.underlying9
 a9:=Tryz.isAgg9
 z9:=Tryz.sizeOf9
 v9:=Tryz.zeroValue9
 t20:=Tryz.underlying20
 a20:=Tryz.isAgg20
 z20:=Tryz.sizeOf20
 v20:=Tryz.zeroValue20
 t31:=Tryz.underlying95
 a31:=Tryz.isAgg95
 z31:=Tryz.sizeOf95
 v31:=Tryz.zeroValue95
 t37:=Tryz.underlying116
 a37:=Tryz.isAgg116
 z37:=Tryz.sizeOf116
 v37:=Tryz.zeroValue116
 t70:=Tryz.underlying115
 a70:=Tryz.isAgg115
 z70:=Tryz.sizeOf115
 v70:=Tryz.zeroValue115
 t72:=Tryz.underlying118
 a72:=Tryz.isAgg118
 z72:=Tryz.sizeOf118
 v72:=Tryz.zeroValue118
 t75:=Tryz.underlying121
 a75:=Tryz.isAgg121
 z75:=Tryz.sizeOf121
 v75:=Tryz.zeroValue121
 t76:=Tryz.underlying122
 a76:=Tryz.isAgg122
 z76:=Tryz.sizeOf122
 v76:=Tryz.zeroValue122
 t127:=Tryz.underlying150
 a127:=Tryz.isAgg150
 z127:=Tryz.sizeOf150
 v127:=Tryz.zeroValue150
 t164:=Tryz.underlying162
 a164:=Tryz.isAgg162
 z164:=Tryz.sizeOf162
 v164:=Tryz.zeroValue162 }
theorem QD:Builder.Extra Tryz.prog Yg:={
 sizeBuilder:=by kernel_rfl
 liesBuilder:=by kernel_rfl
 t5:=Tryz.underlying5
 a5:=Tryz.isAgg5
 z5:=Tryz.sizeOf5
 v5:=Tryz.zeroValue5
 infoByte:=by kernel_rfl
 cellsByte:=by kernel_rfl
 sizeByte:=by kernel_rfl
 neB5:=by decide }
open Go.RowKit in
theorem strings_Join_none (a:Option Addr) (c:Nat) (sep:ByteArray) (w:World) :
  Calls Tryz.prog 40 #[.slice a 0 c,.string sep] w λe w'=>e = .returned (.string ⟨#[]⟩)∧w'=w:=Any.strings_Join_none Uz QD a c sep w
open Go.RowKit in
theorem strings_Join (bk o c:Nat) (xs:List ByteArray) (sep:ByteArray) (w:World) (hcells:∀ (j:Nat) x,xs[j]? = some x->w.cell? ⟨bk,o+j,none⟩=some (.string x)) (hbk:bk<w.heap.size) (hN:xs.length <= 140737488355328) (hcap:xs.length <= c) (hlen:(Lib.join (xs.map (·.data.toList)) sep.data.toList).length <= 140737488355328) :
  Calls Tryz.prog 40 #[.slice (some ⟨bk,o,none⟩) xs.length c,.string sep] w λe w'=>e = .returned (.string ⟨(Lib.join (xs.map (·.data.toList)) sep.data.toList).toArray⟩)∧Below w.heap.size w w':=Any.strings_Join Uz QD bk o c xs sep w hcells hbk hN hcap hlen
def okS (v:V):Bool:=match gS v with
 | some _=>true
 | none=>false
def edS (v:V):List UInt8:=match gS v with
 | some e=>e
 | none=>[]
theorem AbP {v:V} (h:okS v=true):v = .str (edS v):=by
 unfold okS at h;unfold edS;split at h
 ·rename_i e he
  exact Yt he
 ·cases h
def AlB (n:Nat) (f:Nat->List UInt8):V:=.sl 1 n λi=>.str (f i)
def apS {α:Type} (v:V) (F:Nat->(Nat->List UInt8)->T α):T α :=
 match ZR v with
 | some (n,g)=>.br (A4 n λi=>okS (g i)) (F n λi=>edS (g i)) .fail
 | none=>.fail
theorem apS_some {α:Type} {v:V} {F:Nat->(Nat->List UInt8)->T α} {r:α} (h:(apS v F).sem=some r) :
  ∃ n f,(∀ (S:Nat->Prop) (w:World) (c:Value),VR S w v noK c->VR S w (AlB n f) noK c)∧(F n f).sem=some r:=by
 unfold apS at h;split at h
 ·rename_i n g hg
  obtain ⟨h1,h2⟩:=Ad h;have h1:=A0.1 h1;refine ⟨n,_,λS w c hv=>?_,h2⟩;unfold ZR at hg;split at hg
  ·rename_i s n' g'
   split at hg
   ·rename_i hs
    simp only [Option.some.injEq,Prod.mk.injEq] at hg;obtain ⟨rfl,rfl⟩:=hg;have hs:s=1:=Nat.eq_of_beq_eq_true hs;subst hs;obtain ⟨a,cap,e,hc,hb⟩:=hv;refine ⟨a,cap,e,hc,hb.imp id ?_⟩
    rintro ⟨b,o,ea,hel⟩
    refine ⟨b,o,ea,λi hi=>?_⟩;have:=hel i hi;rw [AbP (h1 i hi)] at this;exact this
   ·cases hg
  ·cases hg
 ·cases h
def QC (n:Nat) (g:Nat->List UInt8) (sep:List UInt8):List UInt8:=Lib.join ((List.range n).map g) sep
def OT (n:Nat) (g:Nat->List UInt8) (sep:List UInt8):Bool:=decide (n <= 140737488355328) && decide ((QC n g sep).length <= 140737488355328)
def Ac5:List V->AE
 | [v,.str sep]=>apS v λn g=>.br (OT n g sep) (out (.str (QC n g sep))) .fail
 | _=>.fail
theorem ZU {S:Nat->Prop} {w w':World} (h:Below w.heap.size w w'):Ext noK S [] w noK S [] w' :=
 Ext.ofNil h.os h.tape h.output h.size (λb hb _=>h.block b hb) (λi b hb=>absurd hb (Ds _ _ _)) (λ_ hb=>.inl hb) (λ_ hb=>hb) λ_ _ hb=>by simp at hb
theorem ApF:Ax Tryz.prog Gl 40 Ac5:=by
 refine ⟨⟨Tryz.f40,Tryz.func40,by decide,by kernel_rfl⟩,λvs cs S w v h' hS hE hv he=>?_⟩;unfold Ac5 at he;split at he
 ·rename_i u sep
  obtain ⟨n,g,ha,h1⟩:=apS_some he;obtain ⟨hk,hq⟩:=Ad h1;have:=Ab hq;simp only [Prod.mk.injEq] at this;obtain ⟨rfl,rfl⟩:=this;simp only [OT,Bool.and_eq_true,decide_eq_true_eq] at hk;obtain ⟨hn,hlen⟩:=hk;obtain ⟨c,l,rfl,q1,c2,l2,rfl,q2,q3⟩:=hv;have q3:l2=[]:=q3;subst q3;have q2:c2 = .string ⟨sep.toArray⟩:=q2;subst q2;obtain ⟨a,cap,rfl,hcap,hel⟩:=ha S w c q1;refine ⟨λi b hb=>by simp at hb,?_⟩;cases n with
  | zero =>
   refine (strings_Join_none a cap ⟨sep.toArray⟩ w).mono ?_
   rintro e w' ⟨he,rfl⟩
   exact ⟨_,noK,S,he,Good.empty hS,rfl,Ext.refl _ _ _ _⟩
  | succ m =>
   rcases hel with h0 | ⟨b,o,rfl,hel⟩
   ·cases h0
   ·have hl:((List.range (m+1)).map λi=>(⟨(g i).toArray⟩:ByteArray)).length=m+1:=by simp
    have hd:((List.range (m+1)).map λi=>(⟨(g i).toArray⟩:ByteArray)).map (·.data.toList)=(List.range (m+1)).map g:=by
     rw [List.map_map];apply List.map_congr_left;intro i _;simp
    have hcell:∀ j,j<m+1->S b∧w.cell? ⟨b,o+j,none⟩=some (.string ⟨(g j).toArray⟩):=λj hj=>by
     obtain ⟨ci,r1,_,_,r4⟩:=hel j hj;have r1:ci = .string ⟨(g j).toArray⟩:=r1;subst r1;have:=r4 0 (.string ⟨(g j).toArray⟩) rfl;rw [Nat.mul_one,Nat.add_zero] at this;exact this
    have hJ:=strings_Join b o cap ((List.range (m+1)).map λi=>(⟨(g i).toArray⟩:ByteArray)) ⟨sep.toArray⟩ w (λj x hx=>by
     rw [List.getElem?_map] at hx;rcases Nat.lt_or_ge j (m+1) with hj | hj
     ·rw [List.getElem?_range hj] at hx
      simp at hx;rw [<- hx];exact (hcell j hj).2
     ·rw [List.getElem?_eq_none (by simpa using hj)] at hx
      cases hx) (hS b (hcell 0 (Nat.succ_pos m)).1) (by rw [hl]; exact hn) (by rw [hl]; exact hcap) (by rw [hd]; simpa [QC] using hlen)
    rw [hl,hd] at hJ;refine hJ.mono ?_
    rintro e w' ⟨he,hb⟩
    refine ⟨_,noK,S,he,Good.empty (λk hk=>Nat.lt_of_lt_of_le (hS k hk) hb.size),?_,ZU hb⟩;show _=_;simp [QC]
 ·cases he
end Go.Proofs.YtkgdhhieomndeaaGreatDoor.Ed
