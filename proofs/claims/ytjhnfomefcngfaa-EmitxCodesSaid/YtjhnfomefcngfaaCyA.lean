/-
  Layer 3: architectures: what is known, what is legal, all edges of one. No conditions.
-/
import Derived.Test.YtjhnfomefcngfaaEdD
import Derived.Test.YtjhnfomefcngfaaSyQ
namespace Go.Proofs.Ytjhnfomefcngfaa.Ed
open Go.Sy
def ap1 {α:Type} (d:V->Option α) (F:α->T (V × List Blk)):List V->T (V × List Blk)
 | [v]=>match d v with
  | some a=>F a
  | none=>.fail
 | _=>.fail
def ap2 {α β:Type} (d:V->Option α) (e:V->Option β) (F:α->β->T (V × List Blk)):List V->T (V × List Blk)
 | [v,u]=>match d v,e u with
  | some a,some b=>F a b
  | _,_=>.fail
 | _=>.fail
theorem TI {α:Type} {d:V->Option α} {c:α->V} (hd:∀ v a,d v = some a->v = c a) {F:α->T (V × List Blk)} {vs:List V} {r:V × List Blk} (h:(ap1 d F vs).sem = some r) :
  ∃ a,vs = [c a] ∧ (F a).sem = some r:=by
 unfold ap1 at h
 split at h
 ·split at h
  ·rename_i v _ a ha
   exact ⟨a,by rw [hd v a ha],h⟩
  ·cases h
 ·cases h
theorem Ld {α β:Type} {d:V->Option α} {e:V->Option β} {c:α->V} {c':β->V} (hd:∀ v a,d v = some a->v = c a) (he:∀ v b,e v = some b->v = c' b) {F:α->β->T (V × List Blk)}
  {vs:List V} {r:V × List Blk} (h:(ap2 d e F vs).sem = some r):∃ a b,vs = [c a,c' b] ∧ (F a b).sem = some r:=by
 unfold ap2 at h
 split at h
 ·split at h
  ·rename_i v u _ _ a b ha hb
   exact ⟨a,b,by rw [hd v a ha,he u b hb],h⟩
  ·cases h
 ·cases h
theorem Ou:∀ v a,gI v = some a->v = iV a:=λ_ _ h=>FZ h
theorem TW:∀ v a,toE v = some a->v = eV a:=λ_ _ h=>Nm h
def out (v:V):T (V × List Blk):=.leaf (v,[])
def Cy (a:Int):Bool:=bor (ieq a 1) (ieq a 2)
def Hl (a n:Int):Bool:=bor (ilt n 14) (JM (ilt n 22) (ieq a 1))
def Tk (a:Int) (e:E6):Bool :=
 bor (ieq e.kind 1) (bor (ieq e.kind 2) (bor (ieq e.kind 3) (bor (ieq e.kind 4) (sel (ieq e.kind 5) (JM (ieq e.fence 1) (ieq a 1)) (ieq a 2)))))
theorem Adp (a:Int):(Ar (Ai tab cx6 Try.f117 [iV a] [])).sem = some (bV (Cy a),[]):=by
 have h1:(Ar (Ai tab cx6 Try.f117 [iV a] [])).path [true,true,true] = some ([ieq a 1,ieq a 1,ieq a 1],(bV true,[])):=by kernel_rfl
 have h2:(Ar (Ai tab cx6 Try.f117 [iV a] [])).path [false,false,false] = some ([ieq a 1,ieq a 1,ieq a 1],(bV (ieq a 2),[])):=by kernel_rfl
 unfold Cy
 cases h:ieq a 1 with
 | true=>exact AM h1 (by rw [h])
 | false=>exact AM h2 (by rw [h])
theorem Ado (a:Int):(Ar (Ai tab cx6 Try.f99 [iV a] [])).sem = some (bV (Cy a),[]):=by
 have h1:(Ar (Ai tab cx6 Try.f99 [iV a] [])).path [true,true,true] = some ([ieq a 1,ieq a 1,ieq a 1],(bV true,[])):=by kernel_rfl
 have h2:(Ar (Ai tab cx6 Try.f99 [iV a] [])).path [false,false,false] = some ([ieq a 1,ieq a 1,ieq a 1],(bV (ieq a 2),[])):=by kernel_rfl
 unfold Cy
 cases h:ieq a 1 with
 | true=>exact AM h1 (by rw [h])
 | false=>exact AM h2 (by rw [h])
theorem Adk (a n:Int):(Ar (Ai tab cx6 Try.f118 [iV a,iV n] [])).sem = some (bV (Hl a n),[]):=by
 have h1:(Ar (Ai tab cx6 Try.f118 [iV a,iV n] [])).path [true] = some ([ilt n 14],(bV true,[])):=by kernel_rfl
 have h2:(Ar (Ai tab cx6 Try.f118 [iV a,iV n] [])).path [false] = some ([ilt n 14],(bV (JM (ilt n 22) (ieq a 1)),[])):=by kernel_rfl
 unfold Hl
 cases h:ilt n 14 with
 | true=>exact AM h1 (by rw [h])
 | false=>exact AM h2 (by rw [h])
theorem Al5 (a:Int) (e:E6):(Ar (Ai tab cx6 Try.f100 [iV a,eV e] [])).sem = some (bV (Tk a e),[]):=by
 have h1:(Ar (Ai tab cx6 Try.f100 [iV a,eV e] [])).path [true,true] = some ([ieq e.kind 1,ieq e.kind 1],(bV true,[])):=by kernel_rfl
 have h2:(Ar (Ai tab cx6 Try.f100 [iV a,eV e] [])).path [false,true,true] = some ([ieq e.kind 1,ieq e.kind 2,ieq e.kind 2],(bV true,[])):=by kernel_rfl
 have h3:(Ar (Ai tab cx6 Try.f100 [iV a,eV e] [])).path [false,false,true,true] = some ([ieq e.kind 1,ieq e.kind 2,ieq e.kind 3,ieq e.kind 3],(bV true,[])):=by kernel_rfl
 have h4:(Ar (Ai tab cx6 Try.f100 [iV a,eV e] [])).path [false,false,false,true] = some ([ieq e.kind 1,ieq e.kind 2,ieq e.kind 3,ieq e.kind 4],(bV true,[])):=by kernel_rfl
 have h5:(Ar (Ai tab cx6 Try.f100 [iV a,eV e] [])).path [false,false,false,false,true] = some ([ieq e.kind 1,ieq e.kind 2,ieq e.kind 3,ieq e.kind 4,ieq e.kind 5],(bV (JM (ieq e.fence 1) (ieq a 1)),[])):=by kernel_rfl
 have h6:(Ar (Ai tab cx6 Try.f100 [iV a,eV e] [])).path [false,false,false,false,false] = some ([ieq e.kind 1,ieq e.kind 2,ieq e.kind 3,ieq e.kind 4,ieq e.kind 5],(bV (ieq a 2),[])):=by kernel_rfl
 unfold Tk
 cases c1:ieq e.kind 1 with
 | true=>exact AM h1 (by rw [c1])
 | false =>
 cases c2:ieq e.kind 2 with
 | true=>exact AM h2 (by rw [c1,c2])
 | false =>
 cases c3:ieq e.kind 3 with
 | true=>exact AM h3 (by rw [c1,c2,c3])
 | false =>
 cases c4:ieq e.kind 4 with
 | true=>exact AM h4 (by rw [c1,c2,c3,c4])
 | false =>
 cases c5:ieq e.kind 5 with
 | true=>exact AM h5 (by rw [c1,c2,c3,c4,c5])
 | false=>exact AM h6 (by rw [c1,c2,c3,c4,c5])
theorem p77:A7 Try.prog Gl 117 (ap1 gI λa=>out (bV (Cy a))):=by
 refine A7.congr (AP AL AN Try.func117 (by kernel_rfl) (by kernel_rfl) (Γ:=cx6) (AO Nq _)) λvs r h=>?_
 obtain ⟨a,rfl,h⟩:=TI Ou h
 rw [Ac h]
 exact Adp a
theorem p79:A7 Try.prog Gl 99 (ap1 gI λa=>out (bV (Cy a))):=by
 refine A7.congr (AP AL AN Try.func99 (by kernel_rfl) (by kernel_rfl) (Γ:=cx6) (AO Nq _)) λvs r h=>?_
 obtain ⟨a,rfl,h⟩:=TI Ou h
 rw [Ac h]
 exact Ado a
theorem p78:A7 Try.prog Gl 118 (ap2 gI gI λa n=>out (bV (Hl a n))):=by
 refine A7.congr (AP AL AN Try.func118 (by kernel_rfl) (by kernel_rfl) (Γ:=cx6) (AO Nq _)) λvs r h=>?_
 obtain ⟨a,n,rfl,h⟩:=Ld Ou Ou h
 rw [Ac h]
 exact Adk a n
theorem p80:A7 Try.prog Gl 100 (ap2 gI toE λa e=>out (bV (Tk a e))):=by
 refine A7.congr (AP AL AN Try.func100 (by kernel_rfl) (by kernel_rfl) (Γ:=cx6) (AO Nq _)) λvs r h=>?_
 obtain ⟨a,e,rfl,h⟩:=Ld Ou TW h
 rw [Ac h]
 exact Al5 a e
theorem XL (k:Nat) (hk:k < 112) (a:Int) (ha:Cy a = true):Tk a (Dy k) = Hl a (Int.ofNat k):=by
 have h1:(List.range 112).map (λk:Nat=>Tk 1 (Dy k)) = (List.range 112).map λk:Nat=>Hl 1 (Int.ofNat k):=by kernel_rfl
 have h2:(List.range 112).map (λk:Nat=>Tk 2 (Dy k)) = (List.range 112).map λk:Nat=>Hl 2 (Int.ofNat k):=by kernel_rfl
 simp only [Cy,bor,ieq,Bool.or_eq_true,beq_iff_eq] at ha
 rcases ha with rfl | rfl
 ·exact GT h1 k hk
 ·exact GT h2 k hk
noncomputable def tb8:List (Nat × (List V->T (V × List Blk))):=(117,ap1 gI λa=>out (bV (Cy a))) :: (99,ap1 gI λa=>out (bV (Cy a))) :: (118,ap2 gI gI λa n=>out (bV (Hl a n))) :: (100,ap2 gI toE λa e=>out (bV (Tk a e))) :: tb7
theorem Qn:AA Try.prog Gl tb8:=.cons p77 <| .cons p79 <| .cons p78 <| .cons p80 AfO
noncomputable def cx8:Cx:=AI Gl tb8 [(0,⟨[],2,[],2,113⟩)]
def Hm (a:Int) (e:E6):Bool:=sel (AG (Cy a)) false (sel (AG (ieq (Bb e) 0)) false (Hl a (BP e)))
def DT (a:Int) (e:E6):Int:=sel (AG (Cy a)) 1 (Bb e)
def SU (a:Int) (e:E6):V:=.tup [bV (Hm a e),iV (DT a e)]
theorem Adm (a:Int) (e:E6):(Ar (Ai tab cx8 Try.f110 [iV a,eV e] [])).sem = some (SU a e,[]):=by
 have h1:(Ar (Ai tab cx8 Try.f110 [iV a,eV e] [])).path [true] = some ([AG (Cy a)],(.tup [bV false,iV 1],[])):=by kernel_rfl
 have h2:(Ar (Ai tab cx8 Try.f110 [iV a,eV e] [])).path [false,true] = some ([AG (Cy a),AG (ieq (Bb e) 0)],(.tup [bV false,iV (Bb e)],[])):=by kernel_rfl
 have h3:(Ar (Ai tab cx8 Try.f110 [iV a,eV e] [])).path [false,false] = some ([AG (Cy a),AG (ieq (Bb e) 0)],(.tup [bV (Hl a (BP e)),iV 0],[])):=by kernel_rfl
 unfold SU Hm DT
 cases c1:AG (Cy a) with
 | true=>exact AM h1 (by rw [c1])
 | false =>
 cases c2:AG (ieq (Bb e) 0) with
 | true=>exact AM h2 (by rw [c1,c2])
 | false =>
  have:Bb e = 0:=by simpa [AG,ieq] using c2
  rw [this]
  exact AM h3 (by rw [c1,c2])
theorem EC (e:E6):(∃ k:Nat,k < 112 ∧ Bb e = 0 ∧ BP e = Int.ofNat k ∧ Dy k = e ∧ SK e = PF k) ∨ (Bb e = 30 ∧ BP e = 0 ∧ SK e = [] ∧ ∀ k,k < 112->Dy k ≠ e):=by
 unfold Bb BP SK
 cases h:GA e 112 0 with
 | some k =>
  obtain ⟨_,h2,h3⟩:=J6 e 112 0 k h
  exact .inl ⟨k,by omega,rfl,rfl,h3,rfl⟩
 | none =>
  refine .inr ⟨rfl,rfl,rfl,?_⟩
  have:∀ m k,GA e m k = none->∀ j,k <= j->j < k+m->Dy j ≠ e:=by
   intro m
   induction m with
   | zero=>intro k _ j h1 h2; omega
   | succ m ih =>
    intro k hn j h1 h2
    simp only [GA] at hn
    split at hn
    ·cases hn
    ·rename_i hne
     by_cases hj:j = k
     ·subst hj
      intro he
      rw [(IR _ _).2 he] at hne
      cases hne
     ·exact ih _ hn j (by omega) (by omega)
  exact λk hk=>this 112 0 h k (by omega) (by omega)
theorem Adl (a:Int) (e:E6):(Ar (Ai tab cx8 Try.f65 [iV a,eV e] [])).sem = some (SU a e,[]):=by
 have h1:(Ar (Ai tab cx8 Try.f65 [iV a,eV e] [])).path [true] = some ([AG (Cy a)],(.tup [bV false,iV 1],[])):=by kernel_rfl
 have h2:(Ar (Ai tab cx8 Try.f65 [iV a,eV e] [])).path [false,true] = some ([AG (Cy a),AG (ieq (Bb e) 0)],(.tup [bV false,iV 30],[])):=by kernel_rfl
 have h3:(Ar (Ai tab cx8 Try.f65 [iV a,eV e] [])).path [false,false] = some ([AG (Cy a),AG (ieq (Bb e) 0)],(.tup [bV (Tk a e),iV 0],[])):=by kernel_rfl
 unfold SU Hm DT
 cases c1:AG (Cy a) with
 | true=>exact AM h1 (by rw [c1])
 | false =>
 rcases EC e with ⟨k,hk,hf,hn,he,_⟩ | ⟨hf,_⟩
 ·have c2:AG (ieq (Bb e) 0) = false:=by rw [hf]; rfl
  have ha:Cy a = true:=by simpa [AG] using c1
  rw [c2,hf,hn,<- XL k hk a ha,he]
  exact AM h3 (by rw [c1,c2])
 ·have c2:AG (ieq (Bb e) 0) = true:=by rw [hf]; rfl
  rw [c2,hf]
  exact AM h2 (by rw [c1,c2])
theorem p32:A7 Try.prog Gl 110 (ap2 gI toE λa e=>out (SU a e)):=by
 refine A7.congr (AP AL AN Try.func110 (by kernel_rfl) (by kernel_rfl) (Γ:=cx8) (AO Qn _)) λvs r h=>?_
 obtain ⟨a,e,rfl,h⟩:=Ld Ou TW h
 rw [Ac h]
 exact Adm a e
theorem p33:A7 Try.prog Gl 65 (ap2 gI toE λa e=>out (SU a e)):=by
 refine A7.congr (AP AL AN Try.func65 (by kernel_rfl) (by kernel_rfl) (Γ:=cx8) (AO Qn _)) λvs r h=>?_
 obtain ⟨a,e,rfl,h⟩:=Ld Ou TW h
 rw [Ac h]
 exact Adl a e
end Go.Proofs.Ytjhnfomefcngfaa.Ed
namespace Go.Proofs.Ytjhnfomefcngfaa.Ed
open Go.Sy
open Int (ofNat)
def okE (v:V):Bool:=match toE v with
 | some _=>true
 | none=>false
def edE (v:V):E6:=match toE v with
 | some e=>e
 | none=>FK
def A5 (n:Nat) (p:Nat->Bool):Bool:=(List.range n).all p
theorem A3 {n:Nat} {p:Nat->Bool}:A5 n p = true ↔ ∀ i,i < n->p i = true:=by simp [A5]
theorem NN {v:V} (h:okE v = true):v = eV (edE v):=by
 unfold okE at h
 unfold edE
 split at h
 ·rename_i e he
  exact Nm he
 ·cases h
def gSl:V->Option (Nat × (Nat->V))
 | .sl s n g=>match Nat.beq s 6 with
  | true=>some (n,g)
  | false=>match n with
   | 0=>some (0,g)
   | _=>none
 | .slr s n _ g=>match Nat.beq s 6 with
  | true=>some (n,g)
  | false=>none
 | _=>none
def apL {α:Type} (v:V) (F:Nat->(Nat->E6)->T α):T α :=
 match gSl v with
 | some (n,g)=>.br (A5 n λi=>okE (g i)) (F n λi=>edE (g i)) .fail
 | none=>.fail
def Az (n:Nat) (f:Nat->E6):V:=.sl 6 n λi=>eV (f i)
theorem Ci {α:Type} {v:V} {F:Nat->(Nat->E6)->T α} {r:α} (h:(apL v F).sem = some r) :
  ∃ n f,(∀ (S:Nat->Prop) (w:World) (c:Value),VR S w v noK c->VR S w (Az n f) noK c) ∧ (F n f).sem = some r:=by
 unfold apL at h
 split at h
 ·rename_i n g hg
  obtain ⟨h1,h2⟩:=Ad h
  have h1:=A3.1 h1
  refine ⟨n,_,λS w c hv=>?_,h2⟩
  unfold gSl at hg
  split at hg
  ·rename_i s n' g'
   split at hg
   ·rename_i hs
    simp only [Option.some.injEq,Prod.mk.injEq] at hg
    obtain ⟨rfl,rfl⟩:=hg
    have hs:s = 6:=Nat.eq_of_beq_eq_true hs
    subst hs
    obtain ⟨a,cap,e,hc,hb⟩:=hv
    refine ⟨a,cap,e,hc,hb.imp id ?_⟩
    rintro ⟨b,o,ea,hel⟩
    refine ⟨b,o,ea,λi hi=>?_⟩
    have:=hel i hi
    rw [NN (h1 i hi)] at this
    exact this
   ·split at hg
    ·simp only [Option.some.injEq,Prod.mk.injEq] at hg
     obtain ⟨rfl,rfl⟩:=hg
     obtain ⟨a,cap,e,hc,_⟩:=hv
     exact ⟨a,cap,e,hc,.inl rfl⟩
    ·cases hg
  ·rename_i s n' m' g'
   split at hg
   ·rename_i hs
    simp only [Option.some.injEq,Prod.mk.injEq] at hg
    obtain ⟨rfl,rfl⟩:=hg
    have hs:s = 6:=Nat.eq_of_beq_eq_true hs
    subst hs
    obtain ⟨a,cap,e,hc,hm,hb⟩:=hv
    refine ⟨a,cap,e,Nat.le_trans hc hm,?_⟩
    rcases hb with h0 | ⟨b,o,ea,hel⟩
    ·exact .inl (by omega)
    ·refine .inr ⟨b,o,ea,λi hi=>?_⟩
     have:=hel i (by omega)
     rw [NN (h1 i hi)] at this
     exact this
   ·cases hg
  ·cases hg
 ·cases h
def GS (F:Nat->(Nat->E6)->T (V × List Blk)):List V->T (V × List Blk)
 | [v]=>apL v F
 | _=>.fail
def Ait (F:Nat->(Nat->E6)->Nat->(Nat->E6)->T (V × List Blk)):List V->T (V × List Blk)
 | [v,u]=>apL v λn f=>apL u λm g=>F n f m g
 | _=>.fail
theorem CZ {F:Nat->(Nat->E6)->T (V × List Blk)} {vs:List V} {r:V × List Blk} (h:(GS F vs).sem = some r):∃ n f,Bp vs [Az n f] ∧ (F n f).sem = some r:=by
 unfold GS at h
 split at h
 ·obtain ⟨n,f,h1,h2⟩:=Ci h
  refine ⟨n,f,λS w cs hv=>?_,h2⟩
  obtain ⟨c,l,rfl,q1,q2⟩:=hv
  exact ⟨c,l,rfl,h1 S w c q1,q2⟩
 ·cases h
theorem Yk {F:Nat->(Nat->E6)->Nat->(Nat->E6)->T (V × List Blk)} {vs:List V} {r:V × List Blk} (h:(Ait F vs).sem = some r) :
  ∃ n f m g,Bp vs [Az n f,Az m g] ∧ (F n f m g).sem = some r:=by
 unfold Ait at h
 split at h
 ·obtain ⟨n,f,h1,h2⟩:=Ci h
  obtain ⟨m,g,h3,h4⟩:=Ci h2
  refine ⟨n,f,m,g,λS w cs hv=>?_,h4⟩
  obtain ⟨c,l,rfl,q1,c',l',rfl,q2,q3⟩:=hv
  exact ⟨c,_,rfl,h1 S w c q1,c',l',rfl,h3 S w c' q2,q3⟩
 ·cases h
theorem Ao {i n:Nat} (h:i < n) (hn:n <= 4611686018427387904):wr .i64 (Af (ofNat i) 1) = ofNat (i+1):=by
 unfold wr Af IntKind.wrap
 simp [IntKind.bits,IntKind.signed]
 omega
theorem ofNat_lt {i n:Nat} (h:i < n):ilt (ofNat i) (ofNat n) = true:=by simp [ilt]; omega
theorem A6 {i n:Nat} (h:n <= i):ilt (ofNat i) (ofNat n) = false:=by simp [ilt]; omega
theorem Ap {i n:Nat} (h:i < n):Ak (ile 0 (ofNat i)) (ilt (ofNat i) (ofNat n)) = true:=by rw [ofNat_lt h]; simp [Ak,ile]
noncomputable def cx9 (l:List (Nat × Lp)):Cx:=AI Gl tb8 l
def Oa (n:Nat):Lp:=⟨(bmK 26 0 [0,1,4,5]),0,(bmK 26 0 [0,1,4]),0,n+1⟩
def OZ (n m:Nat) (i:Int) (f g:Nat->E6) (j:Nat->V):St:=⟨(jsV 26 0 j [(0,.sl 6 n λi=>eV (f i)),(1,.sl 6 m λi=>eV (g i)),(4,bV false),(5,iV i)]),[]⟩
def T5 (n m:Nat) (f g:Nat->E6):St:=⟨(jsV 26 0 (λ_=>.und) [(0,.sl 6 n λi=>eV (f i)),(1,.sl 6 m λi=>eV (g i)),(4,bV false)]),[]⟩
noncomputable def H2 (L:LT):St->T (Ex × St):=λst=>AC tab ⟨Am tb8,L,Gl⟩ (Au Try.f60 0) 0 st
section
variable (L:LT) (n m i:Nat) (f g:Nat->E6) (j:Nat->V)
include L n m i f g j
theorem YZ:((H2 L (OZ n m (ofNat i) f g j)).bind λr=>T.leaf (r.1,KN [true,true,false,false,true,false,false,false,false,false,false,false,false,false,false,false,false,false,false,false,false,false,false,false,false,false] 0 r.2)).path [false] = some ([ilt (ofNat i) (ofNat n)],(.ex 0,T5 n m f g)):=by kernel_rfl
theorem YY:((H2 L (OZ n m (ofNat i) f g j)).bind λr=>T.leaf (r.1,KN [true,true,false,false,true,false,false,false,false,false,false,false,false,false,false,false,false,false,false,false,false,false,false,false,false,false] 0 r.2)).path [true,true,true,true] =
  some ([ilt (ofNat i) (ofNat n),Ak (ile 0 (ofNat i)) (ilt (ofNat i) (ofNat n)),Ak (ile 0 (ofNat i)) (ilt (ofNat i) (ofNat m)),AG (eqE (f i) (g i))],(.rt,T5 n m f g)):=by kernel_rfl
theorem Xq:((H2 L (OZ n m (ofNat i) f g j)).bind λr=>T.leaf (r.1,KN [true,true,false,false,true,true,false,false,false,false,false,false,false,false,false,false,false,false,false,false,false,false,false,false,false,false] 0 r.2)).path [true,true,true,false] =
  some ([ilt (ofNat i) (ofNat n),Ak (ile 0 (ofNat i)) (ilt (ofNat i) (ofNat n)),Ak (ile 0 (ofNat i)) (ilt (ofNat i) (ofNat m)),AG (eqE (f i) (g i))],
   (.nm,OZ n m (wr .i64 (Af (ofNat i) 1)) f g λ_=>.und)):=by kernel_rfl
end
def FA (f g:Nat->E6):Nat->Nat->Bool
 | 0,_=>true
 | d+1,i=>match eqE (f i) (g i) with
  | true=>FA f g d (i+1)
  | false=>false
theorem Ss (L:LT) (n m:Nat) (f g:Nat->E6) (hm:n = m) (hn:n <= 4611686018427387904):∀ (d i:Nat) (j:Nat->V) (q:Nat),n = i+d->d < q ->
  (A4 (H2 L) (Oa n) q (OZ n m (ofNat i) f g j)).sem = some (match FA f g d i with | true=>.ex 0 | false=>.rt,T5 n m f g)
 | 0,i,j,q+1,h1,_=>by
  have h3:(A4 (H2 L) (Oa n) (q+1) (OZ n m (ofNat i) f g j)).sem = some (.ex 0,T5 n m f g):=SY (YZ L n m i f g j) (by rw [A6 (by omega)]) (λh=>by cases h)
  exact h3
 | d+1,i,j,q+1,h1,h2=>by
  have hi:i < n:=by omega
  have hi':i < m:=by omega
  unfold FA
  cases hc:eqE (f i) (g i) with
  | true =>
   have h3:(A4 (H2 L) (Oa n) (q+1) (OZ n m (ofNat i) f g j)).sem = (A4 (H2 L) (Oa n) q (OZ n m (wr .i64 (Af (ofNat i) 1)) f g λ_=>.und)).sem :=
    XJ (Xq L n m i f g j) (by rw [Ap hi,Ap hi',ofNat_lt hi,hc]; rfl)
   rw [h3,Ao hi hn]
   exact Ss L n m f g hm hn d (i+1) (λ_=>.und) q (by omega) (by omega)
  | false =>
   have h3:(A4 (H2 L) (Oa n) (q+1) (OZ n m (ofNat i) f g j)).sem = some (.rt,T5 n m f g):=SY (YY L n m i f g j) (by rw [Ap hi,Ap hi',ofNat_lt hi,hc]; rfl) (λh=>by cases h)
   exact h3
def BG (n:Nat) (f:Nat->E6) (m:Nat) (g:Nat->E6):Bool:=sel (ieq (ofNat n) (ofNat m)) (FA f g n 0) false
def Al0 (n m:Nat) (f g:Nat->E6):Nat->V:=lkV A9 [(6,Az n f),(7,nV n),(8,Az m g),(9,nV m),(10,bV (AG (ieq (ofNat n) (ofNat m))))]
theorem Za (n m:Nat) (f g:Nat->E6) (L:LT):Ar (Ai tab ⟨Am tb8,L,Gl⟩ Try.f60 [Az n f,Az m g] []) =
  Ar (Ai tab ⟨Am tb8,λ_ _ _=>L 0 (H2 L) (OZ n m 0 f g (Al0 n m f g)),Gl⟩ Try.f60 [Az n f,Az m g] []):=by kernel_rfl
theorem Acl (n m:Nat) (f g:Nat->E6) (L:LT):(Ar (Ai tab ⟨Am tb8,L,Gl⟩ Try.f60 [Az n f,Az m g] [])).path [true] =
  some ([AG (ieq (ofNat n) (ofNat m))],(bV false,[])):=by kernel_rfl
theorem Acm (n m:Nat) (f g:Nat->E6):(Ar (Ai tab ⟨Am tb8,λ_ _ _=>.leaf (.ex 0,T5 n m f g),Gl⟩ Try.f60 [Az n f,Az m g] [])).path [false] =
  some ([AG (ieq (ofNat n) (ofNat m))],(bV true,[])):=by kernel_rfl
theorem Ack (n m:Nat) (f g:Nat->E6):(Ar (Ai tab ⟨Am tb8,λ_ _ _=>.leaf (.rt,T5 n m f g),Gl⟩ Try.f60 [Az n f,Az m g] [])).path [false] =
  some ([AG (ieq (ofNat n) (ofNat m))],(bV false,[])):=by kernel_rfl
theorem AfU (n m:Nat) (f g:Nat->E6) (hn:n <= 4611686018427387904):(Ar (Ai tab (cx9 [(0,Oa n)]) Try.f60 [Az n f,Az m g] [])).sem = some (bV (BG n f m g),[]):=by
 unfold BG
 cases hc:ieq (ofNat n) (ofNat m) with
 | false=>exact AM (Acl n m f g _) (by rw [hc]; rfl)
 | true =>
  have h0:ofNat n = ofNat m:=by simpa only [ieq,beq_iff_eq] using hc
  have hm:n = m:=Int.ofNat.inj h0
  have h1:=Ss (AV [(0,Oa n)]) n m f g hm hn n 0 (Al0 n m f g) (n+1) (by omega) (by omega)
  have h2:=Za n m f g (AV [(0,Oa n)])
  have h3:(Ar (Ai tab (cx9 [(0,Oa n)]) Try.f60 [Az n f,Az m g] [])).sem = (Ar (Ai tab ⟨Am tb8,λ_ _ _=>.leaf (match FA f g n 0 with | true=>.ex 0 | false=>.rt,T5 n m f g),Gl⟩ Try.f60 [Az n f,Az m g] [])).sem:=by
   refine (congrArg T.sem h2).trans (OV λid _ _ _ _=>?_)
   exact h1
  rw [h3]
  cases FA f g n 0 with
  | true=>exact AM (Acm n m f g) (by rw [hc]; rfl)
  | false=>exact AM (Ack n m f g) (by rw [hc]; rfl)
def Ag (n:Nat):Bool:=decide (n <= 4611686018427387904)
def AdU:List V->T (V × List Blk):=Ait λn f m g=>.br (Ag n) (out (bV (BG n f m g))) .fail
end Go.Proofs.Ytjhnfomefcngfaa.Ed
namespace Go.Proofs.Ytjhnfomefcngfaa.Ed
open Go.Sy
def Bj (n:Nat):Bool:=decide (n * 40 <= 140737488355328)
section
variable (L:LT)
end
end Go.Proofs.Ytjhnfomefcngfaa.Ed
namespace Go.Proofs.Ytjhnfomefcngfaa.Ed
open Go.Sy
end Go.Proofs.Ytjhnfomefcngfaa.Ed
namespace Go.Proofs.Ytjhnfomefcngfaa.Ed
open Go.Sy
end Go.Proofs.Ytjhnfomefcngfaa.Ed
namespace Go.Sy
def XZ (l:Lp) (r:Ex × St):Ex × St :=
 match r.1 with
 | .nm=>(.nm,KN l.ks l.n r.2)
 | .ex i=>(.ex i,KN l.ke l.ne r.2)
 | .rt=>(.rt,KN l.ke l.ne r.2)
def Ah (f:St->T (Ex × St)) (l:Lp) (st:St):Option (Ex × St):=((f st).bind λr=>T.leaf (XZ l r)).sem
def Ady (f:St->T (Ex × St)) (l:Lp) (m:Nat):Option (Ex × St)->Option (Ex × St)
 | some (.nm,st)=>(A4 f l m st).sem
 | some (e,st)=>some (e,st)
 | none=>none
theorem Ab {f:St->T (Ex × St)} {l:Lp} {m:Nat} {st:St} {t:Option (Ex × St)} (h:Ah f l st = t):(A4 f l (m+1) st).sem = Ady f l m t:=by
 subst h
 show ((f st).bind _).sem = _
 unfold Ah
 rw [De,De]
 cases (f st).sem with
 | none=>rfl
 | some r =>
  obtain ⟨e,s⟩:=r
  cases e <;> rfl
theorem Aq {f:St->T (Ex × St)} {l:Lp} {m:Nat} {st:St}:Ady f l m (some (.nm,st)) = (A4 f l m st).sem:=rfl
theorem Rm {f:St->T (Ex × St)} {l:Lp} {m:Nat} {i:Nat} {st:St}:Ady f l m (some (.ex i,st)) = some (.ex i,st):=rfl
theorem Dw {f:St->T (Ex × St)} {l:Lp} {m:Nat} {st:St}:Ady f l m (some (.rt,st)) = some (.rt,st):=rfl
theorem YV {α:Type} (x y:α):sel true x y = x:=rfl
theorem Xo {α:Type} (x y:α):sel false x y = y:=rfl
def TLe {α:Type} (t t':T α):Prop:=∀ r,t.sem = some r->t'.sem = some r
theorem TLe.refl {α:Type} (t:T α):TLe t t:=λ_ h=>h
theorem TLe.bind {α β:Type} {t t':T α} {f f':α->T β} (h:TLe t t') (hf:∀ a,TLe (f a) (f' a)):TLe (t.bind f) (t'.bind f'):=λr hr=>by
 obtain ⟨a,h1,h2⟩:=An hr
 rw [De,h a h1]
 exact hf a r h2
def LLe (M L:Nat->(St->T (Ex × St))->St->T (Ex × St)):Prop:=∀ id f f' st,(∀ st,TLe (f st) (f' st))->TLe (M id f st) (L id f' st)
theorem SZ {f f':St->T (Ex × St)} (h:∀ st,TLe (f st) (f' st)) (l:Lp):∀ (m:Nat) (st:St),TLe (A4 f l m st) (A4 f' l m st)
 | 0,_=>TLe.refl _
 | m+1,st=>by
  refine TLe.bind (h st) λr=>?_
  cases r.1 with
  | nm=>exact SZ h l m _
  | ex i=>exact TLe.refl _
  | rt=>exact TLe.refl _
theorem AE (ls:List (Nat × Lp)):LLe (AV ls) (AV ls):=λid f f' st h=>by
 unfold AV
 split
 ·exact SZ h _ _ _
 ·exact TLe.refl _
def onP (k:Nat) (p:(St->T (Ex × St))->St->Bool) (r:Ex × St) (L:Nat->(St->T (Ex × St))->St->T (Ex × St)):Nat->(St->T (Ex × St))->St->T (Ex × St) :=
 λid f st=>match Nat.beq id k with
  | true=>.br (p f st) (.leaf r) .fail
  | false=>L id f st
noncomputable def isP (L:Nat->(St->T (Ex × St))->St->T (Ex × St)) (k:Nat) (r:Ex × St):(St->T (Ex × St))->St->Bool :=
 λf st=>@decide ((L k f st).sem = some r) (Classical.propDecidable _)
theorem Aj {L:Nat->(St->T (Ex × St))->St->T (Ex × St)} {k:Nat} {r:Ex × St} {f:St->T (Ex × St)} {st:St} (h:(L k f st).sem = some r):isP L k r f st = true:=by
 unfold isP
 exact @decide_eq_true _ (Classical.propDecidable _) h
theorem As {M L:Nat->(St->T (Ex × St))->St->T (Ex × St)} {k:Nat} {r:Ex × St} (hM:LLe M L) (hL:LLe L L):LLe (onP k (isP L k r) r M) L:=λid f f' st hf r' hr=>by
 unfold onP at hr
 cases hk:Nat.beq id k with
 | true =>
  rw [hk] at hr
  obtain ⟨h1,h2⟩:=Ad hr
  rw [Ac h2]
  unfold isP at h1
  have h1:=@of_decide_eq_true _ (Classical.propDecidable _) h1
  rw [Nat.eq_of_beq_eq_true hk]
  exact hL k f f' st hf _ h1
 | false =>
  rw [hk] at hr
  exact hM id f f' st hf _ hr
theorem D5 {τ:List Ty} {Γ:Cx} {L L':Nat->(St->T (Ex × St))->St->T (Ex × St)} (h:LLe L L') :
  ∀ (c:Code) (id:Nat) (st:St),TLe (AC τ { Γ with loop:=L } c id st) (AC τ { Γ with loop:=L' } c id st):=by
 intro c
 induction c with
 | skip=>intro id st; exact TLe.refl _
 | region i ops draw=>intro id st; exact TLe.refl _
 | seq a b iha ihb =>
  intro id st
  refine TLe.bind (iha id st) λr=>?_
  cases r.1 with
  | nm=>exact ihb id r.2
  | ex j=>exact TLe.refl _
  | rt=>exact TLe.refl _
 | cond x a b iha ihb =>
  intro id st
  show TLe (match ev ⟨Γ.call,Γ.glob⟩ st x with | .val (.bool q)=>T.br q (AC τ { Γ with loop:=L } a id st) (AC τ { Γ with loop:=L } b id st) | _=>.fail) (match ev ⟨Γ.call,Γ.glob⟩ st x with | .val (.bool q)=>T.br q (AC τ { Γ with loop:=L' } a id st) (AC τ { Γ with loop:=L' } b id st) | _=>.fail)
  split
  ·rename_i q _
   cases q with
   | true=>exact iha id st
   | false=>exact ihb id st
  ·exact TLe.refl _
 | block i c ih =>
  intro id st
  refine TLe.bind (ih i st) λr=>?_
  cases r.1 with
  | nm=>exact TLe.refl _
  | ex j=>exact TLe.refl _
  | rt=>exact TLe.refl _
 | loop c ih =>
  intro id st
  exact h id _ _ st (ih id)
 | exit i=>intro id st; exact TLe.refl _
 | ret=>intro id st; exact TLe.refl _
 | _=>intro id st; exact TLe.refl _
theorem A2 {τ:List Ty} {call:FuncId->List V->St->T (V × Res)} {G:Nat->V} {fn:Func} {vs:List V} {L L':Nat->(St->T (Ex × St))->St->T (Ex × St)}
  (h:LLe L L'):TLe (Ar (Ai τ ⟨call,L,G⟩ fn vs [])) (Ar (Ai τ ⟨call,L',G⟩ fn vs [])):=by
 refine TLe.bind ?_ λ_=>TLe.refl _
 unfold Ai
 cases fn.body with
 | none=>exact TLe.refl _
 | some c=>exact TLe.bind (D5 (Γ:=⟨call,L,G⟩) h c 0 _) λ_=>TLe.refl _
theorem CB {f f':St->T (Ex × St)} {l:Lp} {st:St} {r:Ex × St} (h:TLe (f st) (f' st)) (hr:Ah f l st = some r):Ah f' l st = some r:=TLe.bind h (λ_=>TLe.refl _) r hr
def AlB (v:V):Blk->Blk
 | .row e s 0 _=>.row e s 0 λ_=>v
 | .jag j=>.jag { j with mem:=λi k=>Yv (AcH k (j.len i)) (j.mem i k) v }
 | b=>b
def AeA (h:List Blk) (id:Nat) (v:V):List Blk :=
 match h[id]? with
 | some b=>h.set id (AlB v b)
 | none=>h
def CU (st:St):List (Nat × V)->St
 | []=>st
 | (id,v) :: l=>CU ⟨st.t,AeA st.h id v⟩ l
theorem RJ {Γ:Cx0}:∀ (l:List (Nat × V)) (st:St),LE Γ st (CU st l)
 | [],st=>LE.refl st
 | (id,v) :: l,st=>by
   refine LE.trans ?_ (RJ l _)
   unfold AeA
   cases hb:st.h[id]? with
   | none=>exact LE.refl st
   | some b =>
    have same:st.h.set id b = st.h:=by
     have hl:=(List.getElem?_eq_some_iff.1 hb).1
     have:=(List.getElem?_eq_some_iff.1 hb).2
     rw [<- this,List.set_getElem_self]
    cases b with
    | row e s n g =>
     cases n with
     | zero=>exact Aiw hb λj hj=>by omega
     | succ n =>
      show LE Γ st ⟨st.t,st.h.set id (.row e s (n+1) g)⟩
      rw [same]
      exact LE.refl st
    | cells cs =>
     show LE Γ st ⟨st.t,st.h.set id (.cells cs)⟩
     rw [same]
     exact LE.refl st
    | imap t n get =>
     show LE Γ st ⟨st.t,st.h.set id (.imap t n get)⟩
     rw [same]
     exact LE.refl st
    | xrow lk e s n g =>
     show LE Γ st ⟨st.t,st.h.set id (.xrow lk e s n g)⟩
     rw [same]
     exact LE.refl st
    | jag j =>
     refine Aix hb (λ_ _=>rfl) (λ_ _=>rfl) (λ_ _=>rfl) λk _ q hq=>?_
     have:AcH q (j.len k) = true:=by
      unfold AcH
      simpa using hq
     rw [this,Fa]
     rfl
    | saved vs =>
     show LE Γ st ⟨st.t,st.h.set id (.saved vs)⟩
     rw [same]
     exact LE.refl st
    | dead =>
     show LE Γ st ⟨st.t,st.h.set id .dead⟩
     rw [same]
     exact LE.refl st
def CE (zs:List (Nat × List (Nat × V))) (loops:List (Nat × Lp)) (id:Nat) (f:St->T (Ex × St)) (st:St):T (Ex × St) :=
 match Ku id zs with
 | some l=>AV loops id f (CU st l)
 | none=>AV loops id f st
theorem DL (zs:List (Nat × List (Nat × V))) (ls:List (Nat × Lp)):LLe (CE zs ls) (CE zs ls):=λid f f' st h=>by
 unfold CE
 split
 ·exact AE ls id f f' _ h
 ·exact AE ls id f f' _ h
def cxZ (G:Nat->V) (tbl:List (Nat × (List V->T (V × List Blk)))) (zs:List (Nat × List (Nat × V))) (loops:List (Nat × Lp)):Cx:=⟨Am tbl,CE zs loops,G⟩
theorem JB {P:Program} {G:Nat->V} {tbl:List (Nat × (List V->T (V × List Blk)))} (h:AA P G tbl) (zs:List (Nat × List (Nat × V))) (loops:List (Nat × Lp)):Bk P (cxZ G tbl zs loops).base ∧ BM (cxZ G tbl zs loops):=by
 refine ⟨DW rfl h,λid f st r hr=>?_⟩
 have hr:(CE zs loops id f st).sem = some r:=hr
 have by':∀ st,(AV loops id f st).sem = some r->∃ l m,(A4 f l m st).sem = some r:=λst hr=>by
  unfold AV at hr
  split at hr
  ·exact ⟨_,_,hr⟩
  ·cases hr
 unfold CE at hr
 split at hr
 ·obtain ⟨l,m,h1⟩:=by' _ hr
  exact ⟨_,l,m,RJ _ _,h1⟩
 ·obtain ⟨l,m,h1⟩:=by' _ hr
  exact ⟨_,l,m,LE.refl _,h1⟩
end Go.Sy
namespace Go.Proofs.Ytjhnfomefcngfaa.Ed
open Go.Sy
def CJ (n:Nat) (f:Nat->E6):Bool:=A5 n λi=>ieq (Bb (f i)) 0
theorem F4 {n:Nat} {f:Nat->E6}:CJ n f = true ↔ ∀ i,i < n->Bb (f i) = 0:=by
 unfold CJ
 rw [A3]
 simp [ieq]
theorem O1 (f g:Nat->E6):∀ d i,FA f g d i = true ↔ ∀ j,i <= j->j < i+d->f j = g j
 | 0,i=>by
  simp only [FA,true_iff]
  intro j h1 h2; omega
 | d+1,i=>by
  unfold FA
  cases h:eqE (f i) (g i) with
  | true =>
   have h0:=(IR _ _).1 h
   show FA f g d (i+1) = true ↔ _
   rw [O1 f g d (i+1)]
   constructor
   ·intro q j h1 h2
    by_cases hj:j = i
    ·subst hj; exact h0
    ·exact q j (by omega) (by omega)
   ·intro q j h1 h2; exact q j (by omega) (by omega)
  | false =>
   constructor
   ·intro q; cases q
   ·intro q
    have:=(IR _ _).2 (q i (Nat.le_refl _) (by omega))
    rw [this] at h; cases h
end Go.Proofs.Ytjhnfomefcngfaa.Ed
namespace Go.Proofs.Ytjhnfomefcngfaa.Ed
open Go.Sy
theorem Yl {n:Nat}:A5 n (λ_=>true) = true:=A3.2 λ_ _=>rfl
def kL (n:Nat):Kn:=⟨A5 n λ_=>true,true,Yl⟩
def BN (g:Nat->V):Nat->Nat->V
 | 0=>λ_=>.und
 | i+1=>A1 i (BN g i) (g i)
theorem HP (g:Nat->V):∀ n j,j < n->BN g n j = g j
 | 0,j,h=>by omega
 | n+1,j,h=>by
  rw [show BN g (n+1) j = A1 n (BN g n) (g n) j from rfl,Bq]
  show (bif Nat.beq j n then g n else BN g n j) = _
  cases hb:Nat.beq j n with
  | true =>
   rw [Nat.eq_of_beq_eq_true hb]
   rfl
  | false =>
   have:=Nat.ne_of_beq_eq_false hb
   exact HP g n j (by omega)
theorem RF {i n b c:Nat} (h:i < n) (hb:b <= c) (hn:n * c <= 140737488355328):AY i 1 b = true:=by
 refine decide_eq_true ?_
 have h1:(i+1) * b <= n * b:=Nat.mul_le_mul_right b (by omega)
 have h2:n * b <= n * c:=Nat.mul_le_mul_left n hb
 omega
theorem IQ {n:Nat} (hn:Bj n = true):n <= 4611686018427387904:=by
 have hn:n * 40 <= 140737488355328:=of_decide_eq_true hn
 omega
def cdV (f:Nat->E6):Nat->V:=λi=>iV (BP (f i))
theorem Tr (p:Nat->Bool):∀ n,A5 n p = false->∃ e,e < n ∧ p e = false ∧ ∀ t,t < e->p t = true
 | 0,h=>by cases h
 | n+1,h=>by
  cases hn:A5 n p with
  | false =>
   obtain ⟨e,h1,h2,h3⟩:=Tr p n hn
   exact ⟨e,by omega,h2,h3⟩
  | true =>
   refine ⟨n,by omega,?_,λt ht=>A3.1 hn t ht⟩
   cases hp:p n with
   | false=>rfl
   | true =>
    have:A5 (n+1) p = true:=A3.2 λi hi=>by
     by_cases hi':i = n
     ·rw [hi',hp]
     ·exact A3.1 hn i (by omega)
    rw [this] at h; cases h
theorem Abe {e:E6} (h:Bb e ≠ 0):Bb e = 30:=by
 rcases EC e with ⟨_,_,h1,_⟩ | ⟨h1,_⟩
 ·exact absurd h1 h
 ·exact h1
theorem ZH {n:Nat} {f:Nat->E6} (h:CJ n f = false):∃ e,e < n ∧ Bb (f e) = 30 ∧ ∀ t,t < e->Bb (f t) = 0:=by
 obtain ⟨e,h1,h2,h3⟩:=Tr _ n h
 refine ⟨e,h1,Abe λh0=>?_,λt ht=>by simpa [ieq] using h3 t ht⟩
 rw [h0] at h2
 cases h2
def Abd:List V->T (V × List Blk):=GS λn f=>.br (Bj n) (.br (CJ n f) (.leaf (.tup [.ref 0,iV 0],[.row 3 1 n λi=>iV (BP (f i))])) (.leaf (.tup [.ref 0,iV 30],[.row 3 1 0 λ_=>.und]))) .fail
end Go.Proofs.Ytjhnfomefcngfaa.Ed
namespace Go.Proofs.Ytjhnfomefcngfaa.Ed
open Go.Sy
end Go.Proofs.Ytjhnfomefcngfaa.Ed
