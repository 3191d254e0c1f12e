/-
  Lists of anything as arguments: edges, numbers, events, lists of numbers; shapes as arguments. No conditions.
-/
import Derived.Test.YtjhnfomefcngfaaShD
import Derived.Test.YtjhnfomefcngfaaCyZc
namespace Go.Proofs.Ytjhnfomefcngfaa.Sh
open Go.Sy Ed
structure Cod (α:Type) where
  size:Nat
  enc:α->V
  ok:V->Bool
  ed:V->α
  law:∀ v,ok v = true->∀ (S:Nat->Prop) (w:World) (c:Value),VR S w v noK c->VR S w (enc (ed v)) noK c
def gSlG (s:Nat):V->Option (Nat × (Nat->V))
  | .sl s' n g=>match Nat.beq s' s with
    | true=>some (n,g)
    | false=>match n with
      | 0=>some (0,g)
      | _=>none
  | .slr s' n _ g=>match Nat.beq s' s with
    | true=>some (n,g)
    | false=>none
  | .nilS=>some (0,fun _=>.und)
  | _=>none
theorem gSlG_law {s:Nat} {v:V} {n:Nat} {g:Nat->V} (hg:gSlG s v = some (n,g)) {e:Nat->V} (he:∀ i,i < n->∀ (S:Nat->Prop) (w:World) (c:Value),VR S w (g i) noK c->VR S w (e i) noK c)
    {S:Nat->Prop} {w:World} {c:Value} (hv:VR S w v noK c):VR S w (.sl s n e) noK c:=by
  unfold gSlG at hg
  split at hg
  · rename_i s' n' g'
    split at hg
    · rename_i hs
      simp only [Option.some.injEq,Prod.mk.injEq] at hg
      obtain ⟨rfl,rfl⟩:=hg
      have hs:s' = s:=Nat.eq_of_beq_eq_true hs
      subst hs
      obtain ⟨a,cap,ea,hc,hb⟩:=hv
      refine ⟨a,cap,ea,hc,hb.imp id ?_⟩
      rintro ⟨b,o,eb,hel⟩
      refine ⟨b,o,eb,fun i hi=>?_⟩
      obtain ⟨ci,h1,h2⟩:=hel i hi
      exact ⟨ci,he i hi S w ci h1,h2⟩
    · split at hg
      · simp only [Option.some.injEq,Prod.mk.injEq] at hg
        obtain ⟨rfl,rfl⟩:=hg
        obtain ⟨a,cap,ea,hc,_⟩:=hv
        exact ⟨a,cap,ea,hc,.inl rfl⟩
      · cases hg
  · rename_i s' n' m' g'
    split at hg
    · rename_i hs
      simp only [Option.some.injEq,Prod.mk.injEq] at hg
      obtain ⟨rfl,rfl⟩:=hg
      have hs:s' = s:=Nat.eq_of_beq_eq_true hs
      subst hs
      obtain ⟨a,cap,ea,hc,hm,hb⟩:=hv
      refine ⟨a,cap,ea,Nat.le_trans hc hm,?_⟩
      rcases hb with h0 | ⟨b,o,eb,hel⟩
      · exact .inl (by omega)
      · refine .inr ⟨b,o,eb,fun i hi=>?_⟩
        obtain ⟨ci,h1,h2⟩:=hel i (by omega)
        exact ⟨ci,he i hi S w ci h1,h2⟩
    · cases hg
  · simp only [Option.some.injEq,Prod.mk.injEq] at hg
    obtain ⟨rfl,rfl⟩:=hg
    have hv:c = .slice none 0 0:=hv
    exact ⟨none,0,hv,Nat.le_refl _,.inl rfl⟩
  · cases hg
def apG {α β:Type} (c:Cod α) (v:V) (F:Nat->(Nat->α)->T β):T β :=
  match gSlG c.size v with
  | some (n,g)=>.br (allN n fun i=>c.ok (g i)) (F n fun i=>c.ed (g i)) .fail
  | none=>.fail
def lstV {α:Type} (c:Cod α) (n:Nat) (f:Nat->α):V:=.sl c.size n fun i=>c.enc (f i)
theorem apG_some {α β:Type} {c:Cod α} {v:V} {F:Nat->(Nat->α)->T β} {r:β} (h:(apG c v F).sem = some r) :
    ∃ n f,(∀ (S:Nat->Prop) (w:World) (u:Value),VR S w v noK u->VR S w (lstV c n f) noK u) ∧ (F n f).sem = some r:=by
  unfold apG at h
  split at h
  · rename_i n g hg
    obtain ⟨h1,h2⟩:=sem_br_fail h
    have h1:=allN_iff.1 h1
    exact ⟨n,_,fun S w u hv=>gSlG_law hg (fun i hi S w cc hc=>c.law _ (h1 i hi) S w cc hc) hv,h2⟩
  · cases h
def codE:Cod E6:=⟨6,eV,okE,edE,fun v h S w c hv=>by rw [<- okE_spec h]; exact hv⟩
def codI:Cod Int:=⟨1,iV,okI,edI,fun v h S w c hv=>by rw [<- okI_spec h]; exact hv⟩
def toX:V->Option Ev5
  | .agg [.val (.int .i64 a),.val (.int .i64 b),.val (.int .i64 c),.val (.int .i64 d),.val (.int .i64 e)]=>some ⟨a,b,c,d,e⟩
  | _=>none
theorem toX_some {v:V} {e:Ev5} (h:toX v = some e):v = evV e:=by
  unfold toX at h
  split at h
  · simp only [Option.some.injEq] at h
    subst h
    rfl
  · cases h
def okX (v:V):Bool:=match toX v with
  | some _=>true
  | none=>false
def edX (v:V):Ev5:=match toX v with
  | some e=>e
  | none=>⟨0,0,0,0,0⟩
theorem okX_spec {v:V} (h:okX v = true):v = evV (edX v):=by
  unfold okX at h
  unfold edX
  split at h
  · rename_i e he
    exact toX_some he
  · cases h
def codX:Cod Ev5:=⟨5,evV,okX,edX,fun v h S w c hv=>by rw [<- okX_spec h]; exact hv⟩
def okJ (v:V):Bool:=match gSlG 1 v with
  | some (n,g)=>allN n fun i=>okI (g i)
  | none=>false
def edJ (v:V):Nat × (Nat->Int):=match gSlG 1 v with
  | some (n,g)=>(n,fun i=>edI (g i))
  | none=>(0,fun _=>0)
def codJ:Cod (Nat × (Nat->Int)):=⟨1,fun p=>.sl 1 p.1 fun i=>iV (p.2 i),okJ,edJ,fun v h S w c hv=>by
  unfold okJ at h
  unfold edJ
  split at h
  · rename_i n g hg
    have h:=allN_iff.1 h
    exact gSlG_law hg (fun i hi S w cc hc=>by rw [<- okI_spec (h i hi)]; exact hc) hv
  · cases h⟩
structure Sh7 where
  arch:Int
  ne:Nat
  E:Nat->E6
  nx:Nat
  X:Nat->Ev5
  tt:Int
  kk:Int
  nr:Nat
  R:Nat->Int
  nc:Nat
  C:Nat->Nat × (Nat->Int)
def sh7V (s:Sh7):V:=.agg [iV s.arch,lstV codE s.ne s.E,lstV codX s.nx s.X,iV s.tt,iV s.kk,lstV codI s.nr s.R,lstV codJ s.nc s.C]
def apS {β:Type} (v:V) (F:Sh7->T β):T β :=
  match v with
  | .agg [.val (.int .i64 a),e,x,.val (.int .i64 t),.val (.int .i64 k),r,c]=>apG codE e fun ne E=>apG codX x fun nx X=>apG codI r fun nr R=>apG codJ c fun nc C=>F ⟨a,ne,E,nx,X,t,k,nr,R,nc,C⟩
  | _=>.fail
theorem apS_some {β:Type} {v:V} {F:Sh7->T β} {r:β} (h:(apS v F).sem = some r) :
    ∃ s,(∀ (S:Nat->Prop) (w:World) (u:Value),VR S w v noK u->VR S w (sh7V s) noK u) ∧ (F s).sem = some r:=by
  unfold apS at h
  split at h
  · obtain ⟨ne,E,h1,h⟩:=apG_some h
    obtain ⟨nx,X,h2,h⟩:=apG_some h
    obtain ⟨nr,R,h3,h⟩:=apG_some h
    obtain ⟨nc,C,h4,h⟩:=apG_some h
    refine ⟨_,fun S w u hv=>?_,h⟩
    obtain ⟨ca,rfl,a1,l1,rfl,q1,a2,l2,rfl,q2,a3,l3,rfl,q3,a4,l4,rfl,q4,a5,l5,rfl,q5,a6,l6,rfl,q6,a7,l7,rfl,q7,q8⟩:=hv
    exact ⟨_,rfl,a1,_,rfl,q1,a2,_,rfl,h1 S w _ q2,a3,_,rfl,h2 S w _ q3,a4,_,rfl,q4,a5,_,rfl,q5,a6,_,rfl,h3 S w _ q6,a7,_,rfl,h4 S w _ q7,q8⟩
  · cases h
end Go.Proofs.Ytjhnfomefcngfaa.Sh
namespace Go.Proofs.Ytjhnfomefcngfaa.Sh
open Go.Sy Ed
set_option maxHeartbeats 1000000
set_option maxRecDepth 4000
theorem lstN_congr {p q:Nat->Bool} {n:Nat} (h:∀ i,i < n->p i = q i):lstN p n = lstN q n:=by
  by_cases hp:∃ k,k < n ∧ p k = true
  · obtain ⟨k,hk,hpk⟩:=hp
    obtain ⟨h1,h2,h3⟩:=lstN_some hk hpk
    exact (lstN_at (p:=q) (by omega) (by rw [<- h _ (by omega)]; exact h2) (fun i hi=>by rw [<- h i (by omega)]; exact h3 i hi)).symm
  · have h1:∀ i,i < n->p i = false:=fun i hi=>by
      cases hpi:p i with
      | false=>rfl
      | true=>exact absurd ⟨i,hi,hpi⟩ hp
    rw [lstN_none h1,lstN_none fun i hi=>by rw [<- h i hi]; exact h1 i hi]
end Go.Proofs.Ytjhnfomefcngfaa.Sh
namespace Go.Proofs.Ytjhnfomefcngfaa.Sh
open Go.Sy Ed
set_option maxHeartbeats 1000000
set_option maxRecDepth 4000
end Go.Proofs.Ytjhnfomefcngfaa.Sh
