/-
  Layer 12: the law EmitrCodes: what its function answers. No conditions.
-/
import Derived.Test.YtkbafjceglhjhaaGreatDoorEsG
namespace Go.Proofs.YtkbafjceglhjhaaGreatDoor.Sh
open Go.Sy Go Go.Proofs.YtkbafjceglhjhaaGreatDoor.Ed
theorem Nl {α β:Type} (c:Cod α) (n:Nat) (f:Nat->α) (F:Nat->(Nat->α)->T β) (h1:∀ x,c.ok (c.enc x)=true) (h2:∀ x,c.ed (c.enc x)=x):(apG c (Ez c n f) F).sem=(F n f).sem:=by
 have h0:P7 c.size (Ez c n f)=some (n,λi=>c.enc (f i)):=by
  show (match Nat.beq c.size c.size with
   | true=>some (n,λi=>c.enc (f i))
   | false=>match n with
    | 0=>some (0,λi=>c.enc (f i))
    | _=>none)=_
  rw [show Nat.beq c.size c.size=true from Nat.beq_refl _]
 unfold apG;rw [h0];show sel (Bi n λi=>c.ok (c.enc (f i))) (F n λi=>c.ed (c.enc (f i))).sem none=_;rw [show (Bi n λi=>c.ok (c.enc (f i)))=true from AE.2 λi _=>h1 _];rw [show (λi=>c.ed (c.enc (f i)))=f from funext λi=>h2 _];rfl
theorem apS_sem {β:Type} (s:Sh7) (F:Sh7->T β):(apS (EY s) F).sem=(F s).sem:=by
 obtain ⟨a,n,g,m,x,t,k,p,r,q,C⟩:=s;show (apG codE (Ez codE n g) λne E=>apG Sq (Ez Sq m x) λnx X=>apG PC (Ez PC p r) λnr R=>apG codJ (Ez codJ q C) λnc C=>F ⟨a,ne,E,nx,X,t,k,nr,R,nc,C⟩).sem=_;rw [Nl codE n g _ (λ_=>rfl) (λ_=>rfl),Nl Sq m x _ (λ_=>rfl) (λ_=>rfl),Nl PC p r _ (λ_=>rfl) (λ_=>rfl),Nl codJ q C _ (λx=>?_) (λ_=>rfl)];show (match P7 1 (.sl 1 x.1 λi=>iV (x.2 i)) with
  | some (n,g)=>Bi n λi=>okI (g i)
  | none=>false)=true
 exact AE.2 λ_ _=>rfl
end Go.Proofs.YtkbafjceglhjhaaGreatDoor.Sh
namespace Go.Proofs.YtkbafjceglhjhaaGreatDoor.Er
open Go.Sy Go Go.Proofs.YtkbafjceglhjhaaGreatDoor.Ed Go.Proofs.YtkbafjceglhjhaaGreatDoor.Sh
theorem AbE {s:Sh7} (h1:s.ne * 40 <= 140737488355328) (h2:s.nx * 40 <= 140737488355328) (h3:s.nr * 8 <= 140737488355328) (h4:s.nc * 24 <= 140737488355328) (h5:∀ i,i<s.nc->(s.C i).1 * 8 <= 140737488355328):(shT AbF [EY s]).sem=some (bV true,[]):=by
 show (Sh.apS (EY s) AbF).sem=_;rw [Sh.apS_sem];have hs:∀ n:Nat,n * 8 <= 140737488355328->Av n=true:=λn h=>decide_eq_true (by omega);have hb:Fu s=true :=
  (F6 (hs _ (by omega))).trans<|(F6 (hs _ (by omega))).trans<|(F6 (hs _ (by omega))).trans<|(F6 (hs _ (by omega))).trans<|AE.2 λi hi=>hs _ (h5 i hi)
 have ha:∀ n b:Nat,n * b <= 140737488355328->Bp 0 n b=true:=λn b h=>decide_eq_true (by rw [Nat.zero_add]; exact h);have ht:twS s=true:=(F6 (ha _ _ h1)).trans<|(F6 (ha _ _ h2)).trans<|(F6 (ha _ _ h3)).trans<|(F6 (ha _ _ h4)).trans<|AE.2 λi hi=>ha _ _ (h5 i hi)
 have hg:g3S s=true:=(F6 (show CU s.ne=true from decide_eq_true h1)).trans hb;unfold AbF;rw [ht,hg];rfl
end Go.Proofs.YtkbafjceglhjhaaGreatDoor.Er
