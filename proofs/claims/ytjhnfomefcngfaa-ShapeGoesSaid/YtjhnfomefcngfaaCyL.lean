/-
  Lists of numbers and of bools, handed on. No conditions.
-/
import Derived.Test.YtjhnfomefcngfaaCyD
import Derived.Test.YtjhnfomefcngfaaSyS
namespace Go.Proofs.Ytjhnfomefcngfaa.Ed
open Go.Sy
def okI (v:V):Bool:=match gI v with
  | some _=>true
  | none=>false
def edI (v:V):Int:=match gI v with
  | some e=>e
  | none=>0
theorem okI_spec {v:V} (h:okI v = true):v = iV (edI v):=by
  unfold okI at h
  unfold edI
  split at h
  · rename_i e he
    exact gI_some he
  · cases h
def intsV (n:Nat) (f:Nat->Int):V:=.sl 1 n fun i=>iV (f i)
def gSlI:V->Option (Nat × (Nat->V))
  | .sl s n g=>match Nat.beq s 1 with
    | true=>some (n,g)
    | false=>none
  | _=>none
def apI {α:Type} (v:V) (F:Nat->(Nat->Int)->T α):T α :=
  match gSlI v with
  | some (n,g)=>.br (allN n fun i=>okI (g i)) (F n fun i=>edI (g i)) .fail
  | none=>.fail
theorem apI_some {α:Type} {v:V} {F:Nat->(Nat->Int)->T α} {r:α} (h:(apI v F).sem = some r) :
    ∃ n f,(∀ (S:Nat->Prop) (w:World) (c:Value),VR S w v noK c->VR S w (intsV n f) noK c) ∧ (F n f).sem = some r:=by
  unfold apI at h
  split at h
  · rename_i n g hg
    obtain ⟨h1,h2⟩:=sem_br_fail h
    have h1:=allN_iff.1 h1
    refine ⟨n,_,fun S w c hv=>?_,h2⟩
    unfold gSlI at hg
    split at hg
    · rename_i s n' g'
      split at hg
      · rename_i hs
        simp only [Option.some.injEq,Prod.mk.injEq] at hg
        obtain ⟨rfl,rfl⟩:=hg
        have hs:s = 1:=Nat.eq_of_beq_eq_true hs
        subst hs
        obtain ⟨a,cap,e,hc,hb⟩:=hv
        refine ⟨a,cap,e,hc,hb.imp id ?_⟩
        rintro ⟨b,o,ea,hel⟩
        refine ⟨b,o,ea,fun i hi=>?_⟩
        have:=hel i hi
        rw [okI_spec (h1 i hi)] at this
        exact this
      · cases hg
    · cases hg
  · cases h
def apI1 (F:Nat->(Nat->Int)->T (V × List Blk)):List V->T (V × List Blk)
  | [v]=>apI v F
  | _=>.fail
theorem apI1_some {F:Nat->(Nat->Int)->T (V × List Blk)} {vs:List V} {r:V × List Blk} (h:(apI1 F vs).sem = some r):∃ n f,ArgLE vs [intsV n f] ∧ (F n f).sem = some r:=by
  unfold apI1 at h
  split at h
  · obtain ⟨n,f,h1,h2⟩:=apI_some h
    refine ⟨n,f,fun S w cs hv=>?_,h2⟩
    obtain ⟨c,l,rfl,q1,q2⟩:=hv
    exact ⟨c,l,rfl,h1 S w c q1,q2⟩
  · cases h
def okB (v:V):Bool:=match gB v with
  | some _=>true
  | none=>false
def edB (v:V):Bool:=match gB v with
  | some e=>e
  | none=>false
theorem okB_spec {v:V} (h:okB v = true):v = bV (edB v):=by
  unfold okB at h
  unfold edB
  split at h
  · rename_i e he
    exact gB_some he
  · cases h
def boolsV (n:Nat) (f:Nat->Bool):V:=.sl 1 n fun i=>bV (f i)
def apB {α:Type} (v:V) (F:Nat->(Nat->Bool)->T α):T α :=
  match gSlI v with
  | some (n,g)=>.br (allN n fun i=>okB (g i)) (F n fun i=>edB (g i)) .fail
  | none=>.fail
theorem apB_some {α:Type} {v:V} {F:Nat->(Nat->Bool)->T α} {r:α} (h:(apB v F).sem = some r) :
    ∃ n f,(∀ (S:Nat->Prop) (w:World) (c:Value),VR S w v noK c->VR S w (boolsV n f) noK c) ∧ (F n f).sem = some r:=by
  unfold apB at h
  split at h
  · rename_i n g hg
    obtain ⟨h1,h2⟩:=sem_br_fail h
    have h1:=allN_iff.1 h1
    refine ⟨n,_,fun S w c hv=>?_,h2⟩
    unfold gSlI at hg
    split at hg
    · rename_i s n' g'
      split at hg
      · rename_i hs
        simp only [Option.some.injEq,Prod.mk.injEq] at hg
        obtain ⟨rfl,rfl⟩:=hg
        have hs:s = 1:=Nat.eq_of_beq_eq_true hs
        subst hs
        obtain ⟨a,cap,e,hc,hb⟩:=hv
        refine ⟨a,cap,e,hc,hb.imp id ?_⟩
        rintro ⟨b,o,ea,hel⟩
        refine ⟨b,o,ea,fun i hi=>?_⟩
        have:=hel i hi
        rw [okB_spec (h1 i hi)] at this
        exact this
      · cases hg
    · cases hg
  · cases h
theorem apLsem {α:Type} (n:Nat) (f:Nat->E6) (F:Nat->(Nat->E6)->T α):(apL (edgesV n f) F).sem = (F n f).sem:=by
  show sel (allN n fun i=>okE (eV (f i))) (F n f).sem none = _
  rw [allN_ok]
  rfl
end Go.Proofs.Ytjhnfomefcngfaa.Ed
namespace Go.Proofs.Ytjhnfomefcngfaa.Ed
open Go.Sy
open Int (ofNat)
def fin102 (r:Nat):Ex × St:=(.rt,⟨(jsV 67 0 (fun _=>.und) [(2,nV r)]),[]⟩)
def lp102 (n:Nat) (h:Nat->Int):Lp:=⟨(bmK 67 0 [0,3,4,5,6]),1,(bmK 67 0 [2]),1,3 * n+4⟩
def st102 (n:Nat) (h:Nat->Int) (i t s:Nat) (j:Nat->V):St:=⟨(jsV 67 0 j [(0,.sl 1 n (fun k=>iV (h k))),(3,nV n),(4,nV i),(5,nV t),(6,nV s)]),[]⟩
noncomputable def body102 (L:LT):St->T (Ex × St):=fun st=>evalC tab ⟨callT tb0,L,Gl⟩ (loopBody (gotoF 0 900 Try.f90) 0) 0 st
section
variable (L:LT) (n:Nat) (h:Nat->Int) (i t s:Nat)  (j:Nat->V)
include L n h i t s j
theorem rl102i (h0:ile (ofNat n) (ofNat i) = true):roundT (body102 L) (lp102 n h) (st102 n h i t s j) = some (.rt,⟨(jsV 67 0 (fun _=>.und) [(2,(iV (sel (ilt (sel (ilt (wr .i64 (isub (ofNat n) 1)) 0) 0 (wr .i64 (isub (ofNat n) 1))) (sel (ilt (ofNat t) (ofNat i)) (ofNat t) (ofNat i))) (sel (ilt (wr .i64 (isub (ofNat n) 1)) 0) 0 (wr .i64 (isub (ofNat n) 1))) (sel (ilt (ofNat t) (ofNat i)) (ofNat t) (ofNat i)))))]),[]⟩):=by
  exact sem_of_path (ds:=bbK 9 511) (cs:=((fun c0 c1=>[c0,c0,c0,c0,c1,c1,c1,c1,c1]) (ile (ofNat n) (ofNat i)) (true))) (by kernel_rfl) (by simp only [h0] <;> rfl)
theorem rl102j (h0:ile (ofNat n) (ofNat i) = false) (h1:ile (ofNat n) (ofNat t) = true):roundT (body102 L) (lp102 n h) (st102 n h i t s j) = some (.rt,⟨(jsV 67 0 (fun _=>.und) [(2,(iV (sel (ilt (sel (ilt (wr .i64 (isub (ofNat n) 1)) 0) 0 (wr .i64 (isub (ofNat n) 1))) (sel (ilt (ofNat t) (ofNat i)) (ofNat t) (ofNat i))) (sel (ilt (wr .i64 (isub (ofNat n) 1)) 0) 0 (wr .i64 (isub (ofNat n) 1))) (sel (ilt (ofNat t) (ofNat i)) (ofNat t) (ofNat i)))))]),[]⟩):=by
  exact sem_of_path (ds:=bbK 9 496) (cs:=((fun c0 c1=>[c0,c0,c0,c0,c1,c1,c1,c1,true]) (ile (ofNat n) (ofNat i)) (ile (ofNat n) (ofNat t)))) (by kernel_rfl) (by simp only [h0,h1] <;> rfl)
theorem rl102s (h0:ile (ofNat n) (ofNat i) = false) (h1:ile (ofNat n) (ofNat t) = false) (h2:ile (ofNat n) (ofNat s) = true):roundT (body102 L) (lp102 n h) (st102 n h i t s j) = some (.rt,⟨(jsV 67 0 (fun _=>.und) [(2,(iV (sel (ilt (sel (ilt (wr .i64 (isub (ofNat n) 1)) 0) 0 (wr .i64 (isub (ofNat n) 1))) (sel (ilt (ofNat t) (ofNat i)) (ofNat t) (ofNat i))) (sel (ilt (wr .i64 (isub (ofNat n) 1)) 0) 0 (wr .i64 (isub (ofNat n) 1))) (sel (ilt (ofNat t) (ofNat i)) (ofNat t) (ofNat i)))))]),[]⟩):=by
  exact sem_of_path (ds:=bbK 9 256) (cs:=((fun c0 c1=>[c0,c0,c0,c0,c1,c1,c1,c1,(ile (ofNat n) (ofNat s))]) (ile (ofNat n) (ofNat i)) (ile (ofNat n) (ofNat t)))) (by kernel_rfl) (by simp only [h0,h1,h2] <;> rfl)
theorem rl102e (h0:ile (ofNat n) (ofNat i) = false) (h1:ile (ofNat n) (ofNat t) = false) (h2:ile (ofNat n) (ofNat s) = false) (h3:ieq (ofNat n) 0 = false) (h4:band (ile 0 (itmod (wr .i64 (iadd (ofNat i) (ofNat s))) (ofNat n))) (ilt (itmod (wr .i64 (iadd (ofNat i) (ofNat s))) (ofNat n)) (ofNat n)) = true) (h5:band (ile 0 (itmod (wr .i64 (iadd (ofNat t) (ofNat s))) (ofNat n))) (ilt (itmod (wr .i64 (iadd (ofNat t) (ofNat s))) (ofNat n)) (ofNat n)) = true) (h6:ieq (h (toN (itmod (wr .i64 (iadd (ofNat i) (ofNat s))) (ofNat n)))) (h (toN (itmod (wr .i64 (iadd (ofNat t) (ofNat s))) (ofNat n)))) = true):roundT (body102 L) (lp102 n h) (st102 n h i t s j) = some (.nm,⟨(jsV 67 0 (fun _=>.und) [(0,(.sl 1 n (fun k=>(iV (h k))))),(3,(nV n)),(4,(nV i)),(5,(nV t)),(6,(iV (wr .i64 (iadd (ofNat s) 1))))]),[]⟩):=by
  exact sem_of_path (ds:=bbK 14 13312) (cs:=((fun c0 c1 c2=>[c0,c0,c0,c0,c1,c1,c1,c1,(ile (ofNat n) (ofNat s)),c2,(band (ile 0 (itmod (wr .i64 (iadd (ofNat i) (ofNat s))) (ofNat n))) (ilt (itmod (wr .i64 (iadd (ofNat i) (ofNat s))) (ofNat n)) (ofNat n))),c2,(band (ile 0 (itmod (wr .i64 (iadd (ofNat t) (ofNat s))) (ofNat n))) (ilt (itmod (wr .i64 (iadd (ofNat t) (ofNat s))) (ofNat n)) (ofNat n))),(ieq (h (toN (itmod (wr .i64 (iadd (ofNat i) (ofNat s))) (ofNat n)))) (h (toN (itmod (wr .i64 (iadd (ofNat t) (ofNat s))) (ofNat n)))))]) (ile (ofNat n) (ofNat i)) (ile (ofNat n) (ofNat t)) (ieq (ofNat n) 0))) (by kernel_rfl) (by simp only [h4,h5] <;> simp only [h0,h1,h2,h3,h6] <;> rfl)
theorem rl102g (h0:ile (ofNat n) (ofNat i) = false) (h1:ile (ofNat n) (ofNat t) = false) (h2:ile (ofNat n) (ofNat s) = false) (h3:ieq (ofNat n) 0 = false) (h4:band (ile 0 (itmod (wr .i64 (iadd (ofNat i) (ofNat s))) (ofNat n))) (ilt (itmod (wr .i64 (iadd (ofNat i) (ofNat s))) (ofNat n)) (ofNat n)) = true) (h5:band (ile 0 (itmod (wr .i64 (iadd (ofNat t) (ofNat s))) (ofNat n))) (ilt (itmod (wr .i64 (iadd (ofNat t) (ofNat s))) (ofNat n)) (ofNat n)) = true) (h6:ieq (h (toN (itmod (wr .i64 (iadd (ofNat i) (ofNat s))) (ofNat n)))) (h (toN (itmod (wr .i64 (iadd (ofNat t) (ofNat s))) (ofNat n)))) = false) (h7:ilt (h (toN (itmod (wr .i64 (iadd (ofNat t) (ofNat s))) (ofNat n)))) (h (toN (itmod (wr .i64 (iadd (ofNat i) (ofNat s))) (ofNat n)))) = true) (h8:ieq (wr .i64 (iadd (ofNat i) (wr .i64 (iadd (ofNat s) 1)))) (ofNat t) = false):roundT (body102 L) (lp102 n h) (st102 n h i t s j) = some (.nm,⟨(jsV 67 0 (fun _=>.und) [(0,(.sl 1 n (fun k=>(iV (h k))))),(3,(nV n)),(4,(iV (wr .i64 (iadd (ofNat i) (wr .i64 (iadd (ofNat s) 1)))))),(5,(nV t)),(6,(iV 0))]),[]⟩):=by
  exact sem_of_path (ds:=bbK 16 21504) (cs:=((fun c0 c1 c2=>[c0,c0,c0,c0,c1,c1,c1,c1,(ile (ofNat n) (ofNat s)),c2,(band (ile 0 (itmod (wr .i64 (iadd (ofNat i) (ofNat s))) (ofNat n))) (ilt (itmod (wr .i64 (iadd (ofNat i) (ofNat s))) (ofNat n)) (ofNat n))),c2,(band (ile 0 (itmod (wr .i64 (iadd (ofNat t) (ofNat s))) (ofNat n))) (ilt (itmod (wr .i64 (iadd (ofNat t) (ofNat s))) (ofNat n)) (ofNat n))),(ieq (h (toN (itmod (wr .i64 (iadd (ofNat i) (ofNat s))) (ofNat n)))) (h (toN (itmod (wr .i64 (iadd (ofNat t) (ofNat s))) (ofNat n))))),(ilt (h (toN (itmod (wr .i64 (iadd (ofNat t) (ofNat s))) (ofNat n)))) (h (toN (itmod (wr .i64 (iadd (ofNat i) (ofNat s))) (ofNat n))))),(ieq (wr .i64 (iadd (ofNat i) (wr .i64 (iadd (ofNat s) 1)))) (ofNat t))]) (ile (ofNat n) (ofNat i)) (ile (ofNat n) (ofNat t)) (ieq (ofNat n) 0))) (by kernel_rfl) (by simp only [h4,h5] <;> simp only [h0,h1,h2,h3,h6,h7,h8] <;> rfl)
theorem rl102gq (h0:ile (ofNat n) (ofNat i) = false) (h1:ile (ofNat n) (ofNat t) = false) (h2:ile (ofNat n) (ofNat s) = false) (h3:ieq (ofNat n) 0 = false) (h4:band (ile 0 (itmod (wr .i64 (iadd (ofNat i) (ofNat s))) (ofNat n))) (ilt (itmod (wr .i64 (iadd (ofNat i) (ofNat s))) (ofNat n)) (ofNat n)) = true) (h5:band (ile 0 (itmod (wr .i64 (iadd (ofNat t) (ofNat s))) (ofNat n))) (ilt (itmod (wr .i64 (iadd (ofNat t) (ofNat s))) (ofNat n)) (ofNat n)) = true) (h6:ieq (h (toN (itmod (wr .i64 (iadd (ofNat i) (ofNat s))) (ofNat n)))) (h (toN (itmod (wr .i64 (iadd (ofNat t) (ofNat s))) (ofNat n)))) = false) (h7:ilt (h (toN (itmod (wr .i64 (iadd (ofNat t) (ofNat s))) (ofNat n)))) (h (toN (itmod (wr .i64 (iadd (ofNat i) (ofNat s))) (ofNat n)))) = true) (h8:ieq (wr .i64 (iadd (ofNat i) (wr .i64 (iadd (ofNat s) 1)))) (ofNat t) = true):roundT (body102 L) (lp102 n h) (st102 n h i t s j) = some (.nm,⟨(jsV 67 0 (fun _=>.und) [(0,(.sl 1 n (fun k=>(iV (h k))))),(3,(nV n)),(4,(iV (wr .i64 (iadd (ofNat i) (wr .i64 (iadd (ofNat s) 1)))))),(5,(iV (wr .i64 (iadd (ofNat t) 1)))),(6,(iV 0))]),[]⟩):=by
  exact sem_of_path (ds:=bbK 16 54272) (cs:=((fun c0 c1 c2=>[c0,c0,c0,c0,c1,c1,c1,c1,(ile (ofNat n) (ofNat s)),c2,(band (ile 0 (itmod (wr .i64 (iadd (ofNat i) (ofNat s))) (ofNat n))) (ilt (itmod (wr .i64 (iadd (ofNat i) (ofNat s))) (ofNat n)) (ofNat n))),c2,(band (ile 0 (itmod (wr .i64 (iadd (ofNat t) (ofNat s))) (ofNat n))) (ilt (itmod (wr .i64 (iadd (ofNat t) (ofNat s))) (ofNat n)) (ofNat n))),(ieq (h (toN (itmod (wr .i64 (iadd (ofNat i) (ofNat s))) (ofNat n)))) (h (toN (itmod (wr .i64 (iadd (ofNat t) (ofNat s))) (ofNat n))))),(ilt (h (toN (itmod (wr .i64 (iadd (ofNat t) (ofNat s))) (ofNat n)))) (h (toN (itmod (wr .i64 (iadd (ofNat i) (ofNat s))) (ofNat n))))),(ieq (wr .i64 (iadd (ofNat i) (wr .i64 (iadd (ofNat s) 1)))) (ofNat t))]) (ile (ofNat n) (ofNat i)) (ile (ofNat n) (ofNat t)) (ieq (ofNat n) 0))) (by kernel_rfl) (by simp only [h4,h5] <;> simp only [h0,h1,h2,h3,h6,h7,h8] <;> rfl)
theorem rl102l (h0:ile (ofNat n) (ofNat i) = false) (h1:ile (ofNat n) (ofNat t) = false) (h2:ile (ofNat n) (ofNat s) = false) (h3:ieq (ofNat n) 0 = false) (h4:band (ile 0 (itmod (wr .i64 (iadd (ofNat i) (ofNat s))) (ofNat n))) (ilt (itmod (wr .i64 (iadd (ofNat i) (ofNat s))) (ofNat n)) (ofNat n)) = true) (h5:band (ile 0 (itmod (wr .i64 (iadd (ofNat t) (ofNat s))) (ofNat n))) (ilt (itmod (wr .i64 (iadd (ofNat t) (ofNat s))) (ofNat n)) (ofNat n)) = true) (h6:ieq (h (toN (itmod (wr .i64 (iadd (ofNat i) (ofNat s))) (ofNat n)))) (h (toN (itmod (wr .i64 (iadd (ofNat t) (ofNat s))) (ofNat n)))) = false) (h7:ilt (h (toN (itmod (wr .i64 (iadd (ofNat t) (ofNat s))) (ofNat n)))) (h (toN (itmod (wr .i64 (iadd (ofNat i) (ofNat s))) (ofNat n)))) = false) (h8:ieq (ofNat i) (wr .i64 (iadd (ofNat t) (wr .i64 (iadd (ofNat s) 1)))) = false):roundT (body102 L) (lp102 n h) (st102 n h i t s j) = some (.nm,⟨(jsV 67 0 (fun _=>.und) [(0,(.sl 1 n (fun k=>(iV (h k))))),(3,(nV n)),(4,(nV i)),(5,(iV (wr .i64 (iadd (ofNat t) (wr .i64 (iadd (ofNat s) 1)))))),(6,(iV 0))]),[]⟩):=by
  exact sem_of_path (ds:=bbK 16 5120) (cs:=((fun c0 c1 c2=>[c0,c0,c0,c0,c1,c1,c1,c1,(ile (ofNat n) (ofNat s)),c2,(band (ile 0 (itmod (wr .i64 (iadd (ofNat i) (ofNat s))) (ofNat n))) (ilt (itmod (wr .i64 (iadd (ofNat i) (ofNat s))) (ofNat n)) (ofNat n))),c2,(band (ile 0 (itmod (wr .i64 (iadd (ofNat t) (ofNat s))) (ofNat n))) (ilt (itmod (wr .i64 (iadd (ofNat t) (ofNat s))) (ofNat n)) (ofNat n))),(ieq (h (toN (itmod (wr .i64 (iadd (ofNat i) (ofNat s))) (ofNat n)))) (h (toN (itmod (wr .i64 (iadd (ofNat t) (ofNat s))) (ofNat n))))),(ilt (h (toN (itmod (wr .i64 (iadd (ofNat t) (ofNat s))) (ofNat n)))) (h (toN (itmod (wr .i64 (iadd (ofNat i) (ofNat s))) (ofNat n))))),(ieq (ofNat i) (wr .i64 (iadd (ofNat t) (wr .i64 (iadd (ofNat s) 1)))))]) (ile (ofNat n) (ofNat i)) (ile (ofNat n) (ofNat t)) (ieq (ofNat n) 0))) (by kernel_rfl) (by simp only [h4,h5] <;> simp only [h0,h1,h2,h3,h6,h7,h8] <;> rfl)
theorem rl102lq (h0:ile (ofNat n) (ofNat i) = false) (h1:ile (ofNat n) (ofNat t) = false) (h2:ile (ofNat n) (ofNat s) = false) (h3:ieq (ofNat n) 0 = false) (h4:band (ile 0 (itmod (wr .i64 (iadd (ofNat i) (ofNat s))) (ofNat n))) (ilt (itmod (wr .i64 (iadd (ofNat i) (ofNat s))) (ofNat n)) (ofNat n)) = true) (h5:band (ile 0 (itmod (wr .i64 (iadd (ofNat t) (ofNat s))) (ofNat n))) (ilt (itmod (wr .i64 (iadd (ofNat t) (ofNat s))) (ofNat n)) (ofNat n)) = true) (h6:ieq (h (toN (itmod (wr .i64 (iadd (ofNat i) (ofNat s))) (ofNat n)))) (h (toN (itmod (wr .i64 (iadd (ofNat t) (ofNat s))) (ofNat n)))) = false) (h7:ilt (h (toN (itmod (wr .i64 (iadd (ofNat t) (ofNat s))) (ofNat n)))) (h (toN (itmod (wr .i64 (iadd (ofNat i) (ofNat s))) (ofNat n)))) = false) (h8:ieq (ofNat i) (wr .i64 (iadd (ofNat t) (wr .i64 (iadd (ofNat s) 1)))) = true):roundT (body102 L) (lp102 n h) (st102 n h i t s j) = some (.nm,⟨(jsV 67 0 (fun _=>.und) [(0,(.sl 1 n (fun k=>(iV (h k))))),(3,(nV n)),(4,(nV i)),(5,(iV (wr .i64 (iadd (wr .i64 (iadd (ofNat t) (wr .i64 (iadd (ofNat s) 1)))) 1)))),(6,(iV 0))]),[]⟩):=by
  exact sem_of_path (ds:=bbK 16 37888) (cs:=((fun c0 c1 c2=>[c0,c0,c0,c0,c1,c1,c1,c1,(ile (ofNat n) (ofNat s)),c2,(band (ile 0 (itmod (wr .i64 (iadd (ofNat i) (ofNat s))) (ofNat n))) (ilt (itmod (wr .i64 (iadd (ofNat i) (ofNat s))) (ofNat n)) (ofNat n))),c2,(band (ile 0 (itmod (wr .i64 (iadd (ofNat t) (ofNat s))) (ofNat n))) (ilt (itmod (wr .i64 (iadd (ofNat t) (ofNat s))) (ofNat n)) (ofNat n))),(ieq (h (toN (itmod (wr .i64 (iadd (ofNat i) (ofNat s))) (ofNat n)))) (h (toN (itmod (wr .i64 (iadd (ofNat t) (ofNat s))) (ofNat n))))),(ilt (h (toN (itmod (wr .i64 (iadd (ofNat t) (ofNat s))) (ofNat n)))) (h (toN (itmod (wr .i64 (iadd (ofNat i) (ofNat s))) (ofNat n))))),(ieq (ofNat i) (wr .i64 (iadd (ofNat t) (wr .i64 (iadd (ofNat s) 1)))))]) (ile (ofNat n) (ofNat i)) (ile (ofNat n) (ofNat t)) (ieq (ofNat n) 0))) (by kernel_rfl) (by simp only [h4,h5] <;> simp only [h0,h1,h2,h3,h6,h7,h8] <;> rfl)
end
def jk102 (n:Nat) (h:Nat->Int) :Nat->V:=lkV undefV [(2,(iV 0)),(9,(.sl 1 n (fun k=>(iV (h k))))),(10,(nV n))]
theorem wc102 (L:LT) (p0:PT) (n:Nat) (h:Nat->Int) (r:Nat)  (hp0:p0 (body102 (onP 0 p0 (fin102 r) L)) (st102 n h 0 1 0 (jk102 n h )) = true):(finF (evalF tab ⟨callT tb0,(onP 0 p0 (fin102 r) L),Gl⟩ (gotoF 0 900 Try.f90) [.sl 1 n (fun k=>iV (h k))] [])).sem = some ((nV r),[]):=by
  exact sem_of_path (ds:=[true]) (cs:=[(p0 (body102 (onP 0 p0 (fin102 r) L)) (st102 n h 0 1 0 (jk102 n h )))]) (by kernel_rfl) (by simp only [hp0] <;> rfl)
def leastG (n:Nat) (h:Nat->Int):Nat->Nat->Nat->Nat->Nat
  | 0,_,_,_=>0
  | q+1,i,t,s =>
    if n <= i ∨ n <= t ∨ n <= s then min (min i t) (n - 1)
    else if h ((i+s) % n) = h ((t+s) % n) then leastG n h q i t (s+1)
    else if h ((t+s) % n) < h ((i+s) % n) then leastG n h q (i+s+1) (if i+s+1 = t then t+1 else t) 0
    else leastG n h q i (if i = t+s+1 then t+s+2 else t+s+1) 0
def leastN (n:Nat) (h:Nat->Int):Nat:=leastG n h (3 * n+4) 0 1 0
theorem wr_add {a b:Nat} (h:a+b <= 9223372036854775807):wr .i64 (iadd (ofNat a) (ofNat b)) = ofNat (a+b):=by
  unfold wr iadd IntKind.wrap
  simp [IntKind.bits,IntKind.signed]
  omega
theorem wr_one {a:Nat} (h:a+1 <= 9223372036854775807):wr .i64 (iadd (ofNat a) 1) = ofNat (a+1):=wr_add (b:=1) h
theorem mod_nat (a n:Nat):itmod (ofNat a) (ofNat n) = ofNat (a % n):=rfl
theorem ieq_nat (a b:Nat):ieq (ofNat a) (ofNat b) = decide (a = b):=by
  simp only [ieq,Int.ofNat_eq_natCast]
  by_cases h:a = b
  · simp [h]
  · rw [decide_eq_false h]
    simp
    omega
theorem ile_nat (a b:Nat):ile (ofNat a) (ofNat b) = decide (a <= b):=by
  simp [ile]
theorem ilt_nat (a b:Nat):ilt (ofNat a) (ofNat b) = decide (a < b):=by
  simp [ilt]
theorem min3 (n i t:Nat) (hn:n <= 1152921504606846976):sel (ilt (sel (ilt (wr .i64 (isub (ofNat n) 1)) 0) 0 (wr .i64 (isub (ofNat n) 1))) (sel (ilt (ofNat t) (ofNat i)) (ofNat t) (ofNat i))) (sel (ilt (wr .i64 (isub (ofNat n) 1)) 0) 0 (wr .i64 (isub (ofNat n) 1))) (sel (ilt (ofNat t) (ofNat i)) (ofNat t) (ofNat i)) = ofNat (min (min i t) (n - 1)):=by
  have h1:wr .i64 (isub (ofNat n) 1) = (n:Int) - 1:=by
    unfold wr isub IntKind.wrap
    simp [IntKind.bits,IntKind.signed]
    omega
  rw [h1]
  simp only [sel,ilt,Bool.cond_decide,Int.ofNat_eq_natCast]
  omega
theorem run102 (L:LT) (n:Nat) (h:Nat->Int) (hn:n <= 1152921504606846976):∀ (q i t s:Nat) (j:Nat->V),i <= 2 * n->t <= 2 * n+1->s <= n->3 * n+1 - (i+t+s) < q ->
    (iterT (body102 L) (lp102 n h) q (st102 n h i t s j)).sem = some (fin102 (leastG n h q i t s))
  | 0,_,_,_,_,_,_,_,h4=>absurd h4 (Nat.not_lt_zero _)
  | q+1,i,t,s,j,hi,ht,hs,h4=>by
    by_cases ci:n <= i
    · rw [iter_round (rl102i L n h i t s j (by rw [ile_nat,decide_eq_true ci])),goOn_rt,min3 n i t hn,leastG,if_pos (.inl ci)]
      rfl
    · have ci0:ile (ofNat n) (ofNat i) = false:=by rw [ile_nat,decide_eq_false ci]
      by_cases ct:n <= t
      · rw [iter_round (rl102j L n h i t s j ci0 (by rw [ile_nat,decide_eq_true ct])),goOn_rt,min3 n i t hn,leastG,if_pos (.inr (.inl ct))]
        rfl
      · have ct0:ile (ofNat n) (ofNat t) = false:=by rw [ile_nat,decide_eq_false ct]
        by_cases cs:n <= s
        · rw [iter_round (rl102s L n h i t s j ci0 ct0 (by rw [ile_nat,decide_eq_true cs])),goOn_rt,min3 n i t hn,leastG,if_pos (.inr (.inr cs))]
          rfl
        · have cs0:ile (ofNat n) (ofNat s) = false:=by rw [ile_nat,decide_eq_false cs]
          have cn0:ieq (ofNat n) 0 = false:=by
            rw [show (0:Int) = ofNat 0 from rfl,ieq_nat,decide_eq_false (by omega)]
          have e1:itmod (wr .i64 (iadd (ofNat i) (ofNat s))) (ofNat n) = ofNat ((i+s) % n):=by rw [wr_add (by omega),mod_nat]
          have e2:itmod (wr .i64 (iadd (ofNat t) (ofNat s))) (ofNat n) = ofNat ((t+s) % n):=by rw [wr_add (by omega),mod_nat]
          have b1:band (ile 0 (itmod (wr .i64 (iadd (ofNat i) (ofNat s))) (ofNat n))) (ilt (itmod (wr .i64 (iadd (ofNat i) (ofNat s))) (ofNat n)) (ofNat n)) = true:=by
            rw [e1]; exact ofNat_in (Nat.mod_lt _ (by omega))
          have b2:band (ile 0 (itmod (wr .i64 (iadd (ofNat t) (ofNat s))) (ofNat n))) (ilt (itmod (wr .i64 (iadd (ofNat t) (ofNat s))) (ofNat n)) (ofNat n)) = true:=by
            rw [e2]; exact ofNat_in (Nat.mod_lt _ (by omega))
          have t1:∀ a:Nat,toN (ofNat a) = a:=fun _=>rfl
          have u1:wr .i64 (iadd (ofNat i) (wr .i64 (iadd (ofNat s) 1))) = ofNat (i+s+1):=by rw [wr_one (by omega),wr_add (by omega)]; rfl
          have u2:wr .i64 (iadd (ofNat t) (wr .i64 (iadd (ofNat s) 1))) = ofNat (t+s+1):=by rw [wr_one (by omega),wr_add (by omega)]; rfl
          rw [leastG,if_neg (by omega)]
          by_cases ce:h ((i+s) % n) = h ((t+s) % n)
          · rw [if_pos ce,iter_round (rl102e L n h i t s j ci0 ct0 cs0 cn0 b1 b2 (by rw [e1,e2,t1,t1]; simp [ieq,ce])),goOn_nm,wr_one (by omega)]
            exact run102 L n h hn q i t (s+1) (fun _=>.und) hi ht (by omega) (by omega)
          · have ce0:ieq (h (toN (itmod (wr .i64 (iadd (ofNat i) (ofNat s))) (ofNat n)))) (h (toN (itmod (wr .i64 (iadd (ofNat t) (ofNat s))) (ofNat n)))) = false:=by
              rw [e1,e2,t1,t1]; simp [ieq,ce]
            rw [if_neg ce]
            by_cases cg:h ((t+s) % n) < h ((i+s) % n)
            · have cg0:ilt (h (toN (itmod (wr .i64 (iadd (ofNat t) (ofNat s))) (ofNat n)))) (h (toN (itmod (wr .i64 (iadd (ofNat i) (ofNat s))) (ofNat n)))) = true:=by
                rw [e1,e2,t1,t1]; simp [ilt,cg]
              rw [if_pos cg]
              by_cases cq:i+s+1 = t
              · rw [if_pos cq,iter_round (rl102gq L n h i t s j ci0 ct0 cs0 cn0 b1 b2 ce0 cg0 (by rw [u1,ieq_nat,decide_eq_true cq])),goOn_nm,u1,wr_one (by omega)]
                exact run102 L n h hn q (i+s+1) (t+1) 0 (fun _=>.und) (by omega) (by omega) (by omega) (by omega)
              · rw [if_neg cq,iter_round (rl102g L n h i t s j ci0 ct0 cs0 cn0 b1 b2 ce0 cg0 (by rw [u1,ieq_nat,decide_eq_false cq])),goOn_nm,u1]
                exact run102 L n h hn q (i+s+1) t 0 (fun _=>.und) (by omega) (by omega) (by omega) (by omega)
            · have cg0:ilt (h (toN (itmod (wr .i64 (iadd (ofNat t) (ofNat s))) (ofNat n)))) (h (toN (itmod (wr .i64 (iadd (ofNat i) (ofNat s))) (ofNat n)))) = false:=by
                rw [e1,e2,t1,t1]; simp [ilt]; omega
              rw [if_neg cg]
              by_cases cq:i = t+s+1
              · rw [if_pos cq,iter_round (rl102lq L n h i t s j ci0 ct0 cs0 cn0 b1 b2 ce0 cg0 (by rw [u2,ieq_nat,decide_eq_true cq])),goOn_nm,u2,wr_one (by omega)]
                exact run102 L n h hn q i (t+s+2) 0 (fun _=>.und) (by omega) (by omega) (by omega) (by omega)
              · rw [if_neg cq,iter_round (rl102l L n h i t s j ci0 ct0 cs0 cn0 b1 b2 ce0 cg0 (by rw [u2,ieq_nat,decide_eq_false cq])),goOn_nm,u2]
                exact run102 L n h hn q i (t+s+1) 0 (fun _=>.und) (by omega) (by omega) (by omega) (by omega)
def fitL (n:Nat):Bool:=decide (n <= 1152921504606846976)
def leastT:List V->T (V × List Blk):=apI1 fun n h=>.br (fitL n) (out (iV (ofNat (leastN n h)))) .fail
theorem p102:PureC Try.prog Gl 90 leastT:=by
  refine pureG_intro (p:=match Try.f90.body with | some (.seq p _)=>p | _=>.skip) (c:=match Try.f90.body with | some (.seq _ (.scope c))=>c | _=>.skip) (d:=match (match Try.f90.body with | some (.seq _ (.scope c))=>behindL 0 c | _=>none) with | some d=>d | none=>.skip) tabOK mixed Try.func90 0 900 (by kernel_rfl) (by kernel_rfl) (by kernel_rfl) (by kernel_rfl) fun vs v h' h=>?_
  obtain ⟨n,f,ha,h1⟩:=apI1_some h
  obtain ⟨hn,hq⟩:=sem_br_fail h1
  have:=sem_leaf hq
  simp only [Prod.mk.injEq] at this
  obtain ⟨rfl,rfl⟩:=this
  have hn:n <= 1152921504606846976:=by simpa [fitL] using hn
  have hx:=cx_ok tb0_ok [(0,lp102 n f)]
  exact ⟨_,cxOf Gl tb0 [(0,lp102 n f)],_,ha,rfl,hx.1,hx.2,told_le (onP_le (loopsBy_le _) (loopsBy_le _)) _ (wc102 _ _ n f _ (isP_true (run102 _ n f hn (3 * n+4) 0 1 0 (jk102 n f) (by omega) (by omega) (by omega) (by omega)))),RowsLE.refl _⟩
end Go.Proofs.Ytjhnfomefcngfaa.Ed
