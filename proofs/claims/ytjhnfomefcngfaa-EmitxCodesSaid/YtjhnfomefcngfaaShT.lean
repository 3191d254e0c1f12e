/-
  Layer 7: whether a shape is one of a cycle: the program's, the document's. No conditions.
-/
import Derived.Test.YtjhnfomefcngfaaShJ
namespace Go.Proofs.Ytjhnfomefcngfaa.Sh
open Go.Sy Ed
open Int (ofNat)
set_option maxHeartbeats 1000000
set_option maxRecDepth 4000
def ofS (a:Int) (n:Nat) (f:Nat->E6):Sh7:=⟨a,n,shG n f,n,evF n (shG n f) (λ_=>true),ofNat (ttN n (shG n f)),ofNat (kkN n (shG n f)),n,rfF n (shG n f) (λ_=>true),kkN n (shG n f),
 λk=>(lnN (mbF (shG n f)) (wrF (shG n f)) n k,λi=>ofNat (coN (mbF (shG n f)) (wrF (shG n f)) n k i))⟩
def FC (s:Sh7):Bool:=Ak (ieq (CV s.arch s.ne s.E) 0) (N4 s (ofS s.arch s.ne s.E))
def R7:List V->T (V × List Blk)
 | [v]=>apS v λs=>.br (Bj s.ne) (.br (CH s) (.leaf (iV (sel (FC s) 0 70),[])) .fail) .fail
 | _=>.fail
theorem Abi {a:Int} {n:Nat} {f:Nat->E6} (h:ilt 16 (ofNat n) = true):ieq (CV a n f) 0 = false:=by
 cases hc:ieq (CV a n f) 0 with
 | false=>rfl
 | true =>
  have:=(Ek hc).hi
  rw [show (16:Int) = ofNat 16 from rfl,Cs] at h
  have:=of_decide_eq_true h
  omega
noncomputable def YI:List (Nat × (List V->T (V × List Blk))):=[(14,ofT),(72,Jx)]
theorem AbY:AA Try.prog Gl YI:=.cons p14 <| .cons p72 .nil
noncomputable def Xh:List (Nat × (List V->T (V × List Blk))):=[(15,ofT),(16,Jx)]
theorem AbX:AA Try.prog Gl Xh:=.cons p15 <| .cons p16 .nil
section
variable (L:LT) (a:Int) (n:Nat) (g:Nat->E6) (m:Nat) (x:Nat->Ev5) (t k:Int) (p:Nat) (r:Nat->Int) (q:Nat) (ln:Nat->Nat) (co:Nat->Nat->Int)
include L a n g m x t k p r q ln co
theorem AmJ (h16:Bj n = true) (h0:ieq (CV a n g) 0 = false):(Ar (Ai tab ⟨Am YI,L,Gl⟩ Try.f25 [.agg (shL a n g m x t k p r q ln co)] [])).sem = some ((iV 70),[]):=by
 exact Aa (ks:=[kL n,kn h16,kn h0,kN (kn h0),kN (kn h0),kN (kn h0),kN (kn h0),kN (kn h0),kT]) (by kernel_rfl)
theorem AmI (h17:Bj n = true) (h0:ieq (CV a n g) 0 = true) (h18:AX [(.cells (shL a n g m x t k p r q ln co)),(.row 44 6 n (λi=>(eV (shG n g i)))),(.row 40 5 n (λi=>(evV (evF n (shG n g) (λ_=>true) i)))),(.row 3 1 n (λi=>(iV (rfF n (shG n g) (λ_=>true) i)))),(.jag (Jag.mk 25 1 (kkN n (shG n g)) (λ_=>.und) 0 3 1 (λ_=>true) (lnN (mbF (shG n g)) (wrF (shG n g)) n) (λk i=>(iV (ofNat (coN (mbF (shG n g)) (wrF (shG n g)) n k i)))))),(.cells [(iV a),(.ref 1),(.ref 2),(iV (ofNat (ttN n (shG n g)))),(iV (ofNat (kkN n (shG n g)))),(.ref 3),(.jref 4)])] = true) (h19:A5 q (λi=>(A5 (ln i) (λ_=>true))) = true) (h20:A5 (kkN n (shG n g)) (λi=>(A5 (lnN (mbF (shG n g)) (wrF (shG n g)) n i) (λ_=>true))) = true) (h21:Ag n = true) (h22:Ag m = true) (h23:Ag p = true) (h24:Ag q = true) (h25:A5 q (λi=>(Ag (ln i))) = true) (h1:Ak (ieq a a) (Ak (ieq t (ofNat (ttN n (shG n g)))) (Ak (ieq k (ofNat (kkN n (shG n g)))) (Ak (BG n g n (λi=>(shG n g i))) (Ak (ieq (ofNat m) (ofNat n)) (Ak (B3 p r n (rfF n (shG n g) (λ_=>true))) (Ak (CA q ln (λi i_1=>(co i i_1)) (kkN n (shG n g)) (lnN (mbF (shG n g)) (wrF (shG n g)) n) (λi i_1=>(ofNat (coN (mbF (shG n g)) (wrF (shG n g)) n i i_1)))) (A5 m (λk=>(CR (x k) (evF n (shG n g) (λ_=>true) k)))))))))) = false):(Ar (Ai tab ⟨Am YI,L,Gl⟩ Try.f25 [.agg (shL a n g m x t k p r q ln co)] [])).sem = some ((iV 70),[]):=by
 exact Aa (ks:=[kL n,kn h17,kn h0,kN (kI 0),kN (kI 0),kN (kI 0),kn h18,kL n,kL m,kL p,kn h19,kL n,kL n,kL n,kn h20,kA (kn h21) (kA (kn h22) (kA (kn h23) (kA (kn h24) (kn h25)))),kN (kI 0),kN (kI 0),kN (kn h1)]) (by kernel_rfl)
theorem AmH (h17:Bj n = true) (h0:ieq (CV a n g) 0 = true) (h18:AX [(.cells (shL a n g m x t k p r q ln co)),(.row 44 6 n (λi=>(eV (shG n g i)))),(.row 40 5 n (λi=>(evV (evF n (shG n g) (λ_=>true) i)))),(.row 3 1 n (λi=>(iV (rfF n (shG n g) (λ_=>true) i)))),(.jag (Jag.mk 25 1 (kkN n (shG n g)) (λ_=>.und) 0 3 1 (λ_=>true) (lnN (mbF (shG n g)) (wrF (shG n g)) n) (λk i=>(iV (ofNat (coN (mbF (shG n g)) (wrF (shG n g)) n k i)))))),(.cells [(iV a),(.ref 1),(.ref 2),(iV (ofNat (ttN n (shG n g)))),(iV (ofNat (kkN n (shG n g)))),(.ref 3),(.jref 4)])] = true) (h19:A5 q (λi=>(A5 (ln i) (λ_=>true))) = true) (h20:A5 (kkN n (shG n g)) (λi=>(A5 (lnN (mbF (shG n g)) (wrF (shG n g)) n i) (λ_=>true))) = true) (h21:Ag n = true) (h22:Ag m = true) (h23:Ag p = true) (h24:Ag q = true) (h25:A5 q (λi=>(Ag (ln i))) = true) (h1:Ak (ieq a a) (Ak (ieq t (ofNat (ttN n (shG n g)))) (Ak (ieq k (ofNat (kkN n (shG n g)))) (Ak (BG n g n (λi=>(shG n g i))) (Ak (ieq (ofNat m) (ofNat n)) (Ak (B3 p r n (rfF n (shG n g) (λ_=>true))) (Ak (CA q ln (λi i_1=>(co i i_1)) (kkN n (shG n g)) (lnN (mbF (shG n g)) (wrF (shG n g)) n) (λi i_1=>(ofNat (coN (mbF (shG n g)) (wrF (shG n g)) n i i_1)))) (A5 m (λk=>(CR (x k) (evF n (shG n g) (λ_=>true) k)))))))))) = true):(Ar (Ai tab ⟨Am YI,L,Gl⟩ Try.f25 [.agg (shL a n g m x t k p r q ln co)] [])).sem = some ((iV 0),[]):=by
 exact Aa (ks:=[kL n,kn h17,kn h0,kN (kI 0),kN (kI 0),kN (kI 0),kn h18,kL n,kL m,kL p,kn h19,kL n,kL n,kL n,kn h20,kA (kn h21) (kA (kn h22) (kA (kn h23) (kA (kn h24) (kn h25)))),kN (kI 0),kN (kI 0),kN (kn h1)]) (by kernel_rfl)
end
theorem p25:A7 Try.prog Gl 25 R7:=by
 refine Av AL AN Try.func25 (by kernel_rfl) (by kernel_rfl) λvs v h' h=>?_
 unfold R7 at h
 split at h
 ·rename_i v1
  obtain ⟨s,a1,h⟩:=BI h
  obtain ⟨hf,h⟩:=Ad h
  obtain ⟨hn,h⟩:=Ad h
  have:=Ac h
  simp only [Prod.mk.injEq] at this
  obtain ⟨rfl,rfl⟩:=this
  obtain ⟨a,n,g,m,x,t,k,p,r,q,C⟩:=s
  have hA:Bp [v1] [.agg [iV a,.sl 6 n (λi=>eV (g i)),.sl 5 m (λi=>evV (x i)),iV t,iV k,.sl 1 p (λi=>iV (r i)),.sl 1 q (λu=>.sl 1 (C u).1 (λi=>iV ((C u).2 i)))]]:=λS w cs hv=>by
   obtain ⟨c,l,rfl,q1,q2⟩:=hv
   exact ⟨c,_,rfl,a1 S w c q1,q2⟩
  have hn:Ag n = true ∧ Ag m = true ∧ Ag p = true ∧ Ag q = true ∧ (A5 q λi=>Ag (C i).1) = true:=by simpa [CH,Ak] using hn
  obtain ⟨n1,n2,n3,n4,n5⟩:=hn
  have hx:=AO AbY [] (G:=Gl)
  refine ⟨_,AI Gl YI [],_,hA,rfl,hx.1,hx.2,?_,A8.refl _⟩
  have C4:∀ (q:Nat) (ln:Nat->Nat),(A5 q λi=>A5 (ln i) λ_=>true) = true:=λ_ _=>A3.2 λ_ _=>A3.2 λ_ _=>rfl
  show _ = some (iV (sel (FC ⟨a,n,g,m,x,t,k,p,r,q,C⟩) 0 70),_)
  revert n5
  generalize hln:(λi=>(C i).1) = ln
  generalize hco:(λi=>(C i).2) = co
  have e1:∀ u,(C u).1 = ln u:=λu=>by rw [<- hln]
  have e2:∀ u,(C u).2 = co u:=λu=>by rw [<- hco]
  have hC:C = λu=>(ln u,co u):=by
   funext u
   rw [<- e1,<- e2]
  intro n5
  simp only [e1,e2] at n5 ⊢
  subst hC
  cases hc:ieq (CV a n g) 0 with
  | false =>
   rw [show FC _ = false from C1 hc]
   exact AmJ _ a n g m x t k p r q ln co hf hc
  | true =>
   rw [show FC _ = _ from Bg hc]
   cases hs:N4 ⟨a,n,g,m,x,t,k,p,r,q,λu=>(ln u,co u)⟩ (ofS a n g) with
   | false=>exact AmI _ a n g m x t k p r q ln co hf hc (by simp [AX]) (C4 _ _) (C4 _ _) n1 n2 n3 n4 n5 hs
   | true=>exact AmH _ a n g m x t k p r q ln co hf hc (by simp [AX]) (C4 _ _) (C4 _ _) n1 n2 n3 n4 n5 hs
 ·cases h
section
variable (L:LT) (a:Int) (n:Nat) (g:Nat->E6) (m:Nat) (x:Nat->Ev5) (t k:Int) (p:Nat) (r:Nat->Int) (q:Nat) (ln:Nat->Nat) (co:Nat->Nat->Int)
include L a n g m x t k p r q ln co
theorem Am9 (h0:ilt 16 (ofNat n) = true):(Ar (Ai tab ⟨Am Xh,L,Gl⟩ Try.f39 [.agg (shL a n g m x t k p r q ln co)] [])).sem = some ((iV 70),[]):=by
 exact Aa (ks:=[kn h0]) (by kernel_rfl)
theorem AmB (h0:ilt 16 (ofNat n) = false) (h17:Bj n = true) (h1:ieq (CV a n g) 0 = false):(Ar (Ai tab ⟨Am Xh,L,Gl⟩ Try.f39 [.agg (shL a n g m x t k p r q ln co)] [])).sem = some ((iV 70),[]):=by
 exact Aa (ks:=[kn h0,kL n,kn h17,kn h1,kN (kn h1),kN (kn h1),kN (kn h1),kN (kn h1),kN (kn h1),kT]) (by kernel_rfl)
theorem AmA (h0:ilt 16 (ofNat n) = false) (h18:Bj n = true) (h1:ieq (CV a n g) 0 = true) (h19:AX [(.cells (shL a n g m x t k p r q ln co)),(.row 44 6 n (λi=>(eV (shG n g i)))),(.row 40 5 n (λi=>(evV (evF n (shG n g) (λ_=>true) i)))),(.row 3 1 n (λi=>(iV (rfF n (shG n g) (λ_=>true) i)))),(.jag (Jag.mk 25 1 (kkN n (shG n g)) (λ_=>.und) 0 3 1 (λ_=>true) (lnN (mbF (shG n g)) (wrF (shG n g)) n) (λk i=>(iV (ofNat (coN (mbF (shG n g)) (wrF (shG n g)) n k i)))))),(.cells [(iV a),(.ref 1),(.ref 2),(iV (ofNat (ttN n (shG n g)))),(iV (ofNat (kkN n (shG n g)))),(.ref 3),(.jref 4)])] = true) (h20:A5 q (λi=>(A5 (ln i) (λ_=>true))) = true) (h21:A5 (kkN n (shG n g)) (λi=>(A5 (lnN (mbF (shG n g)) (wrF (shG n g)) n i) (λ_=>true))) = true) (h22:Ag n = true) (h23:Ag m = true) (h24:Ag p = true) (h25:Ag q = true) (h26:A5 q (λi=>(Ag (ln i))) = true) (h2:Ak (ieq a a) (Ak (ieq t (ofNat (ttN n (shG n g)))) (Ak (ieq k (ofNat (kkN n (shG n g)))) (Ak (BG n g n (λi=>(shG n g i))) (Ak (ieq (ofNat m) (ofNat n)) (Ak (B3 p r n (rfF n (shG n g) (λ_=>true))) (Ak (CA q ln (λi i_1=>(co i i_1)) (kkN n (shG n g)) (lnN (mbF (shG n g)) (wrF (shG n g)) n) (λi i_1=>(ofNat (coN (mbF (shG n g)) (wrF (shG n g)) n i i_1)))) (A5 m (λk=>(CR (x k) (evF n (shG n g) (λ_=>true) k)))))))))) = false):(Ar (Ai tab ⟨Am Xh,L,Gl⟩ Try.f39 [.agg (shL a n g m x t k p r q ln co)] [])).sem = some ((iV 70),[]):=by
 exact Aa (ks:=[kn h0,kL n,kn h18,kn h1,kN (kI 0),kN (kI 0),kN (kI 0),kn h19,kL n,kL m,kL p,kn h20,kL n,kL n,kL n,kn h21,kA (kn h22) (kA (kn h23) (kA (kn h24) (kA (kn h25) (kn h26)))),kN (kI 0),kN (kI 0),kN (kn h2)]) (by kernel_rfl)
theorem Am8 (h0:ilt 16 (ofNat n) = false) (h18:Bj n = true) (h1:ieq (CV a n g) 0 = true) (h19:AX [(.cells (shL a n g m x t k p r q ln co)),(.row 44 6 n (λi=>(eV (shG n g i)))),(.row 40 5 n (λi=>(evV (evF n (shG n g) (λ_=>true) i)))),(.row 3 1 n (λi=>(iV (rfF n (shG n g) (λ_=>true) i)))),(.jag (Jag.mk 25 1 (kkN n (shG n g)) (λ_=>.und) 0 3 1 (λ_=>true) (lnN (mbF (shG n g)) (wrF (shG n g)) n) (λk i=>(iV (ofNat (coN (mbF (shG n g)) (wrF (shG n g)) n k i)))))),(.cells [(iV a),(.ref 1),(.ref 2),(iV (ofNat (ttN n (shG n g)))),(iV (ofNat (kkN n (shG n g)))),(.ref 3),(.jref 4)])] = true) (h20:A5 q (λi=>(A5 (ln i) (λ_=>true))) = true) (h21:A5 (kkN n (shG n g)) (λi=>(A5 (lnN (mbF (shG n g)) (wrF (shG n g)) n i) (λ_=>true))) = true) (h22:Ag n = true) (h23:Ag m = true) (h24:Ag p = true) (h25:Ag q = true) (h26:A5 q (λi=>(Ag (ln i))) = true) (h2:Ak (ieq a a) (Ak (ieq t (ofNat (ttN n (shG n g)))) (Ak (ieq k (ofNat (kkN n (shG n g)))) (Ak (BG n g n (λi=>(shG n g i))) (Ak (ieq (ofNat m) (ofNat n)) (Ak (B3 p r n (rfF n (shG n g) (λ_=>true))) (Ak (CA q ln (λi i_1=>(co i i_1)) (kkN n (shG n g)) (lnN (mbF (shG n g)) (wrF (shG n g)) n) (λi i_1=>(ofNat (coN (mbF (shG n g)) (wrF (shG n g)) n i i_1)))) (A5 m (λk=>(CR (x k) (evF n (shG n g) (λ_=>true) k)))))))))) = true):(Ar (Ai tab ⟨Am Xh,L,Gl⟩ Try.f39 [.agg (shL a n g m x t k p r q ln co)] [])).sem = some ((iV 0),[]):=by
 exact Aa (ks:=[kn h0,kL n,kn h18,kn h1,kN (kI 0),kN (kI 0),kN (kI 0),kn h19,kL n,kL m,kL p,kn h20,kL n,kL n,kL n,kn h21,kA (kn h22) (kA (kn h23) (kA (kn h24) (kA (kn h25) (kn h26)))),kN (kI 0),kN (kI 0),kN (kn h2)]) (by kernel_rfl)
end
theorem p39:A7 Try.prog Gl 39 R7:=by
 refine Av AL AN Try.func39 (by kernel_rfl) (by kernel_rfl) λvs v h' h=>?_
 unfold R7 at h
 split at h
 ·rename_i v1
  obtain ⟨s,a1,h⟩:=BI h
  obtain ⟨hf,h⟩:=Ad h
  obtain ⟨hn,h⟩:=Ad h
  have:=Ac h
  simp only [Prod.mk.injEq] at this
  obtain ⟨rfl,rfl⟩:=this
  obtain ⟨a,n,g,m,x,t,k,p,r,q,C⟩:=s
  have hA:Bp [v1] [.agg [iV a,.sl 6 n (λi=>eV (g i)),.sl 5 m (λi=>evV (x i)),iV t,iV k,.sl 1 p (λi=>iV (r i)),.sl 1 q (λu=>.sl 1 (C u).1 (λi=>iV ((C u).2 i)))]]:=λS w cs hv=>by
   obtain ⟨c,l,rfl,q1,q2⟩:=hv
   exact ⟨c,_,rfl,a1 S w c q1,q2⟩
  have hn:Ag n = true ∧ Ag m = true ∧ Ag p = true ∧ Ag q = true ∧ (A5 q λi=>Ag (C i).1) = true:=by simpa [CH,Ak] using hn
  obtain ⟨n1,n2,n3,n4,n5⟩:=hn
  have hx:=AO AbX [] (G:=Gl)
  refine ⟨_,AI Gl Xh [],_,hA,rfl,hx.1,hx.2,?_,A8.refl _⟩
  have C4:∀ (q:Nat) (ln:Nat->Nat),(A5 q λi=>A5 (ln i) λ_=>true) = true:=λ_ _=>A3.2 λ_ _=>A3.2 λ_ _=>rfl
  show _ = some (iV (sel (FC ⟨a,n,g,m,x,t,k,p,r,q,C⟩) 0 70),_)
  revert n5
  generalize hln:(λi=>(C i).1) = ln
  generalize hco:(λi=>(C i).2) = co
  have e1:∀ u,(C u).1 = ln u:=λu=>by rw [<- hln]
  have e2:∀ u,(C u).2 = co u:=λu=>by rw [<- hco]
  have hC:C = λu=>(ln u,co u):=by
   funext u
   rw [<- e1,<- e2]
  intro n5
  simp only [e1,e2] at n5 ⊢
  subst hC
  cases h16:ilt 16 (ofNat n) with
  | true =>
   have hc:ieq (CV a n g) 0 = false:=Abi h16
   rw [show FC _ = false from C1 hc]
   exact Am9 _ a n g m x t k p r q ln co h16
  | false =>
  cases hc:ieq (CV a n g) 0 with
  | false =>
   rw [show FC _ = false from C1 hc]
   exact AmB _ a n g m x t k p r q ln co h16 hf hc
  | true =>
   rw [show FC _ = _ from Bg hc]
   cases hs:N4 ⟨a,n,g,m,x,t,k,p,r,q,λu=>(ln u,co u)⟩ (ofS a n g) with
   | false=>exact AmA _ a n g m x t k p r q ln co h16 hf hc (by simp [AX]) (C4 _ _) (C4 _ _) n1 n2 n3 n4 n5 hs
   | true=>exact Am8 _ a n g m x t k p r q ln co h16 hf hc (by simp [AX]) (C4 _ _) (C4 _ _) n1 n2 n3 n4 n5 hs
 ·cases h
end Go.Proofs.Ytjhnfomefcngfaa.Sh
namespace Go.Proofs.Ytjhnfomefcngfaa.Sh
open Go.Sy Ed
set_option maxHeartbeats 1000000
set_option maxRecDepth 4000
def EU (a:Int) (n:Nat) (g:Nat->E6) (m:Nat) (x:Nat->Ev5) (t k:Int) (p:Nat) (r:Nat->Int) (q:Nat) (ln:Nat->Nat) (co:Nat->Nat->Int):Int:=sel (FC ⟨a,n,g,m,x,t,k,p,r,q,λu=>(ln u,co u)⟩) 0 70
def KP:List V->T (V × List Blk)
 | [v]=>apS v λs=>.br (Bj s.ne) (.br (CH s) (.leaf (iV (EU s.arch s.ne s.E s.nx s.X s.tt s.kk s.nr s.R s.nc (λi=>(s.C i).1) (λi=>(s.C i).2)),[])) .fail) .fail
 | _=>.fail
theorem Alj:A7 Try.prog Gl 25 KP:=p25
theorem Ano:A7 Try.prog Gl 39 KP:=p39
end Go.Proofs.Ytjhnfomefcngfaa.Sh
namespace Go.Proofs.Ytjhnfomefcngfaa.Sh
open Go.Sy Ed
set_option maxHeartbeats 1000000
set_option maxRecDepth 4000
theorem MH {k:Nat} (h:0 < k):ieq (Int.ofNat k) 0 = false:=by
 cases hc:ieq (Int.ofNat k) 0 with
 | false=>rfl
 | true =>
  have:=BB hc
  have:(k:Int) = 0:=this
  omega
theorem AhY {a b:Int} (h:a = b):ieq a b = true:=by rw [h]; exact CM _
theorem Pa:Bn [.row 3 1 0 (λ_=>V.und)] = true:=by simp [Bn]
theorem C4 {q:Nat} {ln:Nat->Nat}:∀ (_ _:Unit),(A5 q λi=>A5 (ln i) λ_=>true) = true:=λ_ _=>A3.2 λ_ _=>A3.2 λ_ _=>rfl
theorem before {o:Nat->Bool} {n i:Nat} (hi:i < n) (h:o (n - 1) = true):Al o i < Al o n:=by
 have h1:=Bl h
 have h2:=Bc o (show i <= n - 1 by omega)
 rw [show n - 1+1 = n by omega] at h1
 omega
end Go.Proofs.Ytjhnfomefcngfaa.Sh
namespace Go.Proofs.Ytjhnfomefcngfaa.Sh
open Go.Sy Ed
open Int (ofNat)
set_option maxHeartbeats 1000000
set_option maxRecDepth 4000
theorem QI {k:Nat} (hk:k < 4611686018427387904):wr .i64 (AK (ofNat (k+1)) 1) = ofNat k:=by
 have h:=Ao (i:=k) (n:=k+1) (by omega) (by omega)
 have e:AK (ofNat (k+1)) 1 = ofNat k:=by
  show (ofNat (k+1):Int) - 1 = ofNat k
  have:(ofNat (k+1):Int) = (k:Int)+1:=rfl
  rw [this]
  show (k:Int)+1 - 1 = (k:Int)
  omega
 rw [e]
 by_cases h0:k = 0
 ·subst h0
  rfl
 ·have h:=Ao (i:=k - 1) (n:=k) (by omega) (by omega)
  have e2:Af (ofNat (k - 1)) 1 = ofNat k:=by
   show (ofNat (k - 1):Int)+1 = ofNat k
   have:((k - 1:Nat):Int)+1 = (k:Int):=by omega
   exact this
  rw [e2,show k - 1+1 = k by omega] at h
  exact h
theorem Pj {y:Int} (h:ile 0 y = true):y = ofNat (toN y):=by
 have h:0 <= y:=of_decide_eq_true h
 show y = ((y.toNat:Nat):Int)
 omega
end Go.Proofs.Ytjhnfomefcngfaa.Sh
namespace Go.Proofs.Ytjhnfomefcngfaa.Sh
open Go.Sy Ed
set_option maxHeartbeats 1000000
set_option maxRecDepth 4000
end Go.Proofs.Ytjhnfomefcngfaa.Sh
namespace Go.Proofs.Ytjhnfomefcngfaa.Sh
open Go.Sy Ed
set_option maxHeartbeats 1000000
set_option maxRecDepth 4000
theorem K1 {a b:Nat} (h:a ≠ b):ieq (Int.ofNat a) (Int.ofNat b) = false:=by
 cases hc:ieq (Int.ofNat a) (Int.ofNat b) with
 | false=>rfl
 | true=>exact absurd (Int.ofNat.inj (BB hc)) h
theorem Abc {e:E6} (h1:ieq e.kind 1 = false) (h2:ieq e.kind 2 = false) (h3:ieq e.kind 3 = false):Bx e = false:=by
 have h1:¬ e.kind = 1:=by simpa [ieq] using h1
 have h2:¬ e.kind = 2:=by simpa [ieq] using h2
 have h3:¬ e.kind = 3:=by simpa [ieq] using h3
 unfold Bx
 cases ha:ile 1 e.kind with
 | false=>rfl
 | true =>
  have ha:1 <= e.kind:=of_decide_eq_true ha
  rw [Bg rfl]
  exact decide_eq_false (by omega)
theorem AcE {e:E6} (h:Bx e = false):Ax e = false:=by
 unfold Ax
 rw [h]
 rfl
end Go.Proofs.Ytjhnfomefcngfaa.Sh
