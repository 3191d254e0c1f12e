/-
  Layer 7: whether a shape is one of a cycle: the program's, the document's. No conditions.
-/
import Derived.Test.YtjhnfomefcngfaaShJ
namespace Go.Proofs.Ytjhnfomefcngfaa.Sh
open Go.Sy Ed
open Int (ofNat)
set_option maxHeartbeats 1000000
set_option maxRecDepth 4000
def ofS (a:Int) (n:Nat) (f:Nat->E6):Sh7:=⟨a,n,shG n f,n,evF n (shG n f) (fun _=>true),ofNat (ttN n (shG n f)),ofNat (kkN n (shG n f)),n,rfF n (shG n f) (fun _=>true),kkN n (shG n f),
  fun k=>(lnN (mbF (shG n f)) (wrF (shG n f)) n k,fun i=>ofNat (coN (mbF (shG n f)) (wrF (shG n f)) n k i))⟩
def BV (s:Sh7):Bool:=Ag (ieq (BY s.arch s.ne s.E) 0) (OQ s (ofS s.arch s.ne s.E))
def L0:List V->T (V × List Blk)
  | [v]=>apS v fun s=>.br (AL s.ne) (.br (Dx s) (.leaf (iV (sel (BV s) 0 70),[])) .fail) .fail
  | _=>.fail
theorem Zt {a:Int} {n:Nat} {f:Nat->E6} (h:ilt 16 (ofNat n) = true):ieq (BY a n f) 0 = false:=by
  cases hc:ieq (BY a n f) 0 with
  | false=>rfl
  | true =>
    have:=(F6 hc).hi
    rw [show (16:Int) = ofNat 16 from rfl,CB] at h
    have:=of_decide_eq_true h
    omega
noncomputable def Xp:List (Nat × (List V->T (V × List Blk))):=[(14,ofT),(72,JA)]
theorem Aai:AC Try.prog Gl Xp:=.cons p14 <| .cons p72 .nil
noncomputable def VU:List (Nat × (List V->T (V × List Blk))):=[(15,ofT),(16,JA)]
theorem Aab:AC Try.prog Gl VU:=.cons p15 <| .cons p16 .nil
section
variable (L:LT) (a:Int) (n:Nat) (g:Nat->E6) (m:Nat) (x:Nat->Ev5) (t k:Int) (p:Nat) (r:Nat->Int) (q:Nat) (ln:Nat->Nat) (co:Nat->Nat->Int)
include L a n g m x t k p r q ln co
theorem AjH (h16:AL n = true) (h0:ieq (BY a n g) 0 = false):(As (Aj tab ⟨Ao Xp,L,Gl⟩ Try.f25 [.agg (shL a n g m x t k p r q ln co)] [])).sem = some ((iV 70),[]):=Aa (bbK 9 507) ((fun c0=>[Ai n (fun _=>true),AL n,ieq (BY a n g) 0,c0,c0,c0,c0,c0,true]) (Am (ieq (BY a n g) 0))) (by kernel_rfl) (by simp only [h16,h0,Ar] <;> rfl)
theorem AjG (h17:AL n = true) (h0:ieq (BY a n g) 0 = true) (h19:Ai q (fun i=>Ai (ln i) (fun _=>true)) = true) (h20:Ai (kkN n (shG n g)) (fun i=>Ai (lnN (mbF (shG n g)) (wrF (shG n g)) n i) (fun _=>true)) = true) (h21:Ab n = true) (h22:Ab m = true) (h23:Ab p = true) (h24:Ab q = true) (h25:Ai q (fun i=>Ab (ln i)) = true) (h1:Ag (ieq a a) (Ag (ieq t (ofNat (ttN n (shG n g)))) (Ag (ieq k (ofNat (kkN n (shG n g)))) (Ag (Bm n g n (fun i=>shG n g i)) (Ag (ieq (ofNat m) (ofNat n)) (Ag (Bh p r n (rfF n (shG n g) (fun _=>true))) (Ag (BJ q ln (fun i i_1=>co i i_1) (kkN n (shG n g)) (lnN (mbF (shG n g)) (wrF (shG n g)) n) (fun i i_1=>ofNat (coN (mbF (shG n g)) (wrF (shG n g)) n i i_1))) (Ai m (fun k=>Cf (x k) (evF n (shG n g) (fun _=>true) k))))))))) = false):(As (Aj tab ⟨Ao Xp,L,Gl⟩ Try.f25 [.agg (shL a n g m x t k p r q ln co)] [])).sem = some ((iV 70),[]):=Aa (bbK 19 327623) ((fun c0 c1=>[c0,AL n,ieq (BY a n g) 0,c1,c1,c1,AU [.cells (shL a n g m x t k p r q ln co),.row 44 6 n (fun i=>eV (shG n g i)),.row 40 5 n (fun i=>evV (evF n (shG n g) (fun _=>true) i)),.row 3 1 n (fun i=>iV (rfF n (shG n g) (fun _=>true) i)),.jag (Jag.mk 25 1 (kkN n (shG n g)) (fun _=>.und) 0 3 1 (fun _=>true) (lnN (mbF (shG n g)) (wrF (shG n g)) n) (fun k i=>iV (ofNat (coN (mbF (shG n g)) (wrF (shG n g)) n k i)))),.cells [iV a,.ref 1,.ref 2,iV (ofNat (ttN n (shG n g))),iV (ofNat (kkN n (shG n g))),.ref 3,.jref 4]],c0,Ai m (fun _=>true),Ai p (fun _=>true),Ai q (fun i=>Ai (ln i) (fun _=>true)),c0,c0,c0,Ai (kkN n (shG n g)) (fun i=>Ai (lnN (mbF (shG n g)) (wrF (shG n g)) n i) (fun _=>true)),Ag (Ab n) (Ag (Ab m) (Ag (Ab p) (Ag (Ab q) (Ai q (fun i=>Ab (ln i)))))),c1,c1,Am (Ag (ieq a a) (Ag (ieq t (ofNat (ttN n (shG n g)))) (Ag (ieq k (ofNat (kkN n (shG n g)))) (Ag (Bm n g n (fun i=>shG n g i)) (Ag (ieq (ofNat m) (ofNat n)) (Ag (Bh p r n (rfF n (shG n g) (fun _=>true))) (Ag (BJ q ln (fun i i_1=>co i i_1) (kkN n (shG n g)) (lnN (mbF (shG n g)) (wrF (shG n g)) n) (fun i i_1=>ofNat (coN (mbF (shG n g)) (wrF (shG n g)) n i i_1))) (Ai m (fun k=>Cf (x k) (evF n (shG n g) (fun _=>true) k))))))))))]) (Ai n (fun _=>true)) (Am (ieq 0 0))) (by kernel_rfl) (by simp only [h1] <;> simp only [*,Ar,jlC,jlR,jlJ,jlN] <;> rfl)
theorem AjF (h17:AL n = true) (h0:ieq (BY a n g) 0 = true) (h19:Ai q (fun i=>Ai (ln i) (fun _=>true)) = true) (h20:Ai (kkN n (shG n g)) (fun i=>Ai (lnN (mbF (shG n g)) (wrF (shG n g)) n i) (fun _=>true)) = true) (h21:Ab n = true) (h22:Ab m = true) (h23:Ab p = true) (h24:Ab q = true) (h25:Ai q (fun i=>Ab (ln i)) = true) (h1:Ag (ieq a a) (Ag (ieq t (ofNat (ttN n (shG n g)))) (Ag (ieq k (ofNat (kkN n (shG n g)))) (Ag (Bm n g n (fun i=>shG n g i)) (Ag (ieq (ofNat m) (ofNat n)) (Ag (Bh p r n (rfF n (shG n g) (fun _=>true))) (Ag (BJ q ln (fun i i_1=>co i i_1) (kkN n (shG n g)) (lnN (mbF (shG n g)) (wrF (shG n g)) n) (fun i i_1=>ofNat (coN (mbF (shG n g)) (wrF (shG n g)) n i i_1))) (Ai m (fun k=>Cf (x k) (evF n (shG n g) (fun _=>true) k))))))))) = true):(As (Aj tab ⟨Ao Xp,L,Gl⟩ Try.f25 [.agg (shL a n g m x t k p r q ln co)] [])).sem = some ((iV 0),[]):=Aa (bbK 19 65479) ((fun c0 c1=>[c0,AL n,ieq (BY a n g) 0,c1,c1,c1,AU [.cells (shL a n g m x t k p r q ln co),.row 44 6 n (fun i=>eV (shG n g i)),.row 40 5 n (fun i=>evV (evF n (shG n g) (fun _=>true) i)),.row 3 1 n (fun i=>iV (rfF n (shG n g) (fun _=>true) i)),.jag (Jag.mk 25 1 (kkN n (shG n g)) (fun _=>.und) 0 3 1 (fun _=>true) (lnN (mbF (shG n g)) (wrF (shG n g)) n) (fun k i=>iV (ofNat (coN (mbF (shG n g)) (wrF (shG n g)) n k i)))),.cells [iV a,.ref 1,.ref 2,iV (ofNat (ttN n (shG n g))),iV (ofNat (kkN n (shG n g))),.ref 3,.jref 4]],c0,Ai m (fun _=>true),Ai p (fun _=>true),Ai q (fun i=>Ai (ln i) (fun _=>true)),c0,c0,c0,Ai (kkN n (shG n g)) (fun i=>Ai (lnN (mbF (shG n g)) (wrF (shG n g)) n i) (fun _=>true)),Ag (Ab n) (Ag (Ab m) (Ag (Ab p) (Ag (Ab q) (Ai q (fun i=>Ab (ln i)))))),c1,c1,Am (Ag (ieq a a) (Ag (ieq t (ofNat (ttN n (shG n g)))) (Ag (ieq k (ofNat (kkN n (shG n g)))) (Ag (Bm n g n (fun i=>shG n g i)) (Ag (ieq (ofNat m) (ofNat n)) (Ag (Bh p r n (rfF n (shG n g) (fun _=>true))) (Ag (BJ q ln (fun i i_1=>co i i_1) (kkN n (shG n g)) (lnN (mbF (shG n g)) (wrF (shG n g)) n) (fun i i_1=>ofNat (coN (mbF (shG n g)) (wrF (shG n g)) n i i_1))) (Ai m (fun k=>Cf (x k) (evF n (shG n g) (fun _=>true) k))))))))))]) (Ai n (fun _=>true)) (Am (ieq 0 0))) (by kernel_rfl) (by simp only [h1] <;> simp only [*,Ar,jlC,jlR,jlJ,jlN] <;> rfl)
end
theorem p25:AB Try.prog Gl 25 L0:=by
  refine A1 AQ AR Try.func25 (by kernel_rfl) (by kernel_rfl) fun vs v h' h=>?_
  unfold L0 at h
  split at h
  · rename_i v1
    obtain ⟨s,a1,h⟩:=Ci h
    obtain ⟨hf,h⟩:=Ah h
    obtain ⟨hn,h⟩:=Ah h
    have:=Ad h
    simp only [Prod.mk.injEq] at this
    obtain ⟨rfl,rfl⟩:=this
    obtain ⟨a,n,g,m,x,t,k,p,r,q,C⟩:=s
    have hA:Bw [v1] [.agg [iV a,.sl 6 n (fun i=>eV (g i)),.sl 5 m (fun i=>evV (x i)),iV t,iV k,.sl 1 p (fun i=>iV (r i)),.sl 1 q (fun u=>.sl 1 (C u).1 (fun i=>iV ((C u).2 i)))]]:=fun S w cs hv=>by
      obtain ⟨c,l,rfl,q1,q2⟩:=hv
      exact ⟨c,_,rfl,a1 S w c q1,q2⟩
    have hn:Ab n = true ∧ Ab m = true ∧ Ab p = true ∧ Ab q = true ∧ (Ai q fun i=>Ab (C i).1) = true:=by simpa [Dx,Ag] using hn
    obtain ⟨n1,n2,n3,n4,n5⟩:=hn
    have hx:=AP Aai [] (G:=Gl)
    refine ⟨_,AI Gl Xp [],_,hA,rfl,hx.1,hx.2,?_,A6.refl _⟩
    have Cs:∀ (q:Nat) (ln:Nat->Nat),(Ai q fun i=>Ai (ln i) fun _=>true) = true:=fun _ _=>A4.2 fun _ _=>A4.2 fun _ _=>rfl
    show _ = some (iV (sel (BV ⟨a,n,g,m,x,t,k,p,r,q,C⟩) 0 70),_)
    revert n5
    generalize hln:(fun i=>(C i).1) = ln
    generalize hco:(fun i=>(C i).2) = co
    have e1:∀ u,(C u).1 = ln u:=fun u=>by rw [<- hln]
    have e2:∀ u,(C u).2 = co u:=fun u=>by rw [<- hco]
    have hC:C = fun u=>(ln u,co u):=by
      funext u
      rw [<- e1,<- e2]
    intro n5
    simp only [e1,e2] at n5 ⊢
    subst hC
    cases hc:ieq (BY a n g) 0 with
    | false =>
      rw [show BV _ = false from C5 hc]
      exact AjH _ a n g m x t k p r q ln co hf hc
    | true =>
      rw [show BV _ = _ from B5 hc]
      cases hs:OQ ⟨a,n,g,m,x,t,k,p,r,q,fun u=>(ln u,co u)⟩ (ofS a n g) with
      | false=>exact AjG _ a n g m x t k p r q ln co hf hc (Cs _ _) (Cs _ _) n1 n2 n3 n4 n5 hs
      | true=>exact AjF _ a n g m x t k p r q ln co hf hc (Cs _ _) (Cs _ _) n1 n2 n3 n4 n5 hs
  · cases h
section
variable (L:LT) (a:Int) (n:Nat) (g:Nat->E6) (m:Nat) (x:Nat->Ev5) (t k:Int) (p:Nat) (r:Nat->Int) (q:Nat) (ln:Nat->Nat) (co:Nat->Nat->Int)
include L a n g m x t k p r q ln co
theorem Ajr (h0:ilt 16 (ofNat n) = true):(As (Aj tab ⟨Ao VU,L,Gl⟩ Try.f39 [.agg (shL a n g m x t k p r q ln co)] [])).sem = some ((iV 70),[]):=Aa [true] [ilt 16 (ofNat n)] (by kernel_rfl) (by simp only [h0] <;> rfl)
theorem Ajt (h0:ilt 16 (ofNat n) = false) (h17:AL n = true) (h1:ieq (BY a n g) 0 = false):(As (Aj tab ⟨Ao VU,L,Gl⟩ Try.f39 [.agg (shL a n g m x t k p r q ln co)] [])).sem = some ((iV 70),[]):=Aa (bbK 10 1014) ((fun c0=>[ilt 16 (ofNat n),Ai n (fun _=>true),AL n,ieq (BY a n g) 0,c0,c0,c0,c0,c0,true]) (Am (ieq (BY a n g) 0))) (by kernel_rfl) (by simp only [*,Ar] <;> rfl)
theorem Ajs (h0:ilt 16 (ofNat n) = false) (h18:AL n = true) (h1:ieq (BY a n g) 0 = true) (h20:Ai q (fun i=>Ai (ln i) (fun _=>true)) = true) (h21:Ai (kkN n (shG n g)) (fun i=>Ai (lnN (mbF (shG n g)) (wrF (shG n g)) n i) (fun _=>true)) = true) (h22:Ab n = true) (h23:Ab m = true) (h24:Ab p = true) (h25:Ab q = true) (h26:Ai q (fun i=>Ab (ln i)) = true) (h2:Ag (ieq a a) (Ag (ieq t (ofNat (ttN n (shG n g)))) (Ag (ieq k (ofNat (kkN n (shG n g)))) (Ag (Bm n g n (fun i=>shG n g i)) (Ag (ieq (ofNat m) (ofNat n)) (Ag (Bh p r n (rfF n (shG n g) (fun _=>true))) (Ag (BJ q ln (fun i i_1=>co i i_1) (kkN n (shG n g)) (lnN (mbF (shG n g)) (wrF (shG n g)) n) (fun i i_1=>ofNat (coN (mbF (shG n g)) (wrF (shG n g)) n i i_1))) (Ai m (fun k=>Cf (x k) (evF n (shG n g) (fun _=>true) k))))))))) = false):(As (Aj tab ⟨Ao VU,L,Gl⟩ Try.f39 [.agg (shL a n g m x t k p r q ln co)] [])).sem = some ((iV 70),[]):=Aa (bbK 20 655246) ((fun c0 c1=>[ilt 16 (ofNat n),c0,AL n,ieq (BY a n g) 0,c1,c1,c1,AU [.cells (shL a n g m x t k p r q ln co),.row 44 6 n (fun i=>eV (shG n g i)),.row 40 5 n (fun i=>evV (evF n (shG n g) (fun _=>true) i)),.row 3 1 n (fun i=>iV (rfF n (shG n g) (fun _=>true) i)),.jag (Jag.mk 25 1 (kkN n (shG n g)) (fun _=>.und) 0 3 1 (fun _=>true) (lnN (mbF (shG n g)) (wrF (shG n g)) n) (fun k i=>iV (ofNat (coN (mbF (shG n g)) (wrF (shG n g)) n k i)))),.cells [iV a,.ref 1,.ref 2,iV (ofNat (ttN n (shG n g))),iV (ofNat (kkN n (shG n g))),.ref 3,.jref 4]],c0,Ai m (fun _=>true),Ai p (fun _=>true),Ai q (fun i=>Ai (ln i) (fun _=>true)),c0,c0,c0,Ai (kkN n (shG n g)) (fun i=>Ai (lnN (mbF (shG n g)) (wrF (shG n g)) n i) (fun _=>true)),Ag (Ab n) (Ag (Ab m) (Ag (Ab p) (Ag (Ab q) (Ai q (fun i=>Ab (ln i)))))),c1,c1,Am (Ag (ieq a a) (Ag (ieq t (ofNat (ttN n (shG n g)))) (Ag (ieq k (ofNat (kkN n (shG n g)))) (Ag (Bm n g n (fun i=>shG n g i)) (Ag (ieq (ofNat m) (ofNat n)) (Ag (Bh p r n (rfF n (shG n g) (fun _=>true))) (Ag (BJ q ln (fun i i_1=>co i i_1) (kkN n (shG n g)) (lnN (mbF (shG n g)) (wrF (shG n g)) n) (fun i i_1=>ofNat (coN (mbF (shG n g)) (wrF (shG n g)) n i i_1))) (Ai m (fun k=>Cf (x k) (evF n (shG n g) (fun _=>true) k))))))))))]) (Ai n (fun _=>true)) (Am (ieq 0 0))) (by kernel_rfl) (by simp only [h2] <;> simp only [*,Ar,jlC,jlR,jlJ,jlN] <;> rfl)
theorem Ajq (h0:ilt 16 (ofNat n) = false) (h18:AL n = true) (h1:ieq (BY a n g) 0 = true) (h20:Ai q (fun i=>Ai (ln i) (fun _=>true)) = true) (h21:Ai (kkN n (shG n g)) (fun i=>Ai (lnN (mbF (shG n g)) (wrF (shG n g)) n i) (fun _=>true)) = true) (h22:Ab n = true) (h23:Ab m = true) (h24:Ab p = true) (h25:Ab q = true) (h26:Ai q (fun i=>Ab (ln i)) = true) (h2:Ag (ieq a a) (Ag (ieq t (ofNat (ttN n (shG n g)))) (Ag (ieq k (ofNat (kkN n (shG n g)))) (Ag (Bm n g n (fun i=>shG n g i)) (Ag (ieq (ofNat m) (ofNat n)) (Ag (Bh p r n (rfF n (shG n g) (fun _=>true))) (Ag (BJ q ln (fun i i_1=>co i i_1) (kkN n (shG n g)) (lnN (mbF (shG n g)) (wrF (shG n g)) n) (fun i i_1=>ofNat (coN (mbF (shG n g)) (wrF (shG n g)) n i i_1))) (Ai m (fun k=>Cf (x k) (evF n (shG n g) (fun _=>true) k))))))))) = true):(As (Aj tab ⟨Ao VU,L,Gl⟩ Try.f39 [.agg (shL a n g m x t k p r q ln co)] [])).sem = some ((iV 0),[]):=Aa (bbK 20 130958) ((fun c0 c1=>[ilt 16 (ofNat n),c0,AL n,ieq (BY a n g) 0,c1,c1,c1,AU [.cells (shL a n g m x t k p r q ln co),.row 44 6 n (fun i=>eV (shG n g i)),.row 40 5 n (fun i=>evV (evF n (shG n g) (fun _=>true) i)),.row 3 1 n (fun i=>iV (rfF n (shG n g) (fun _=>true) i)),.jag (Jag.mk 25 1 (kkN n (shG n g)) (fun _=>.und) 0 3 1 (fun _=>true) (lnN (mbF (shG n g)) (wrF (shG n g)) n) (fun k i=>iV (ofNat (coN (mbF (shG n g)) (wrF (shG n g)) n k i)))),.cells [iV a,.ref 1,.ref 2,iV (ofNat (ttN n (shG n g))),iV (ofNat (kkN n (shG n g))),.ref 3,.jref 4]],c0,Ai m (fun _=>true),Ai p (fun _=>true),Ai q (fun i=>Ai (ln i) (fun _=>true)),c0,c0,c0,Ai (kkN n (shG n g)) (fun i=>Ai (lnN (mbF (shG n g)) (wrF (shG n g)) n i) (fun _=>true)),Ag (Ab n) (Ag (Ab m) (Ag (Ab p) (Ag (Ab q) (Ai q (fun i=>Ab (ln i)))))),c1,c1,Am (Ag (ieq a a) (Ag (ieq t (ofNat (ttN n (shG n g)))) (Ag (ieq k (ofNat (kkN n (shG n g)))) (Ag (Bm n g n (fun i=>shG n g i)) (Ag (ieq (ofNat m) (ofNat n)) (Ag (Bh p r n (rfF n (shG n g) (fun _=>true))) (Ag (BJ q ln (fun i i_1=>co i i_1) (kkN n (shG n g)) (lnN (mbF (shG n g)) (wrF (shG n g)) n) (fun i i_1=>ofNat (coN (mbF (shG n g)) (wrF (shG n g)) n i i_1))) (Ai m (fun k=>Cf (x k) (evF n (shG n g) (fun _=>true) k))))))))))]) (Ai n (fun _=>true)) (Am (ieq 0 0))) (by kernel_rfl) (by simp only [h2] <;> simp only [*,Ar,jlC,jlR,jlJ,jlN] <;> rfl)
end
theorem p39:AB Try.prog Gl 39 L0:=by
  refine A1 AQ AR Try.func39 (by kernel_rfl) (by kernel_rfl) fun vs v h' h=>?_
  unfold L0 at h
  split at h
  · rename_i v1
    obtain ⟨s,a1,h⟩:=Ci h
    obtain ⟨hf,h⟩:=Ah h
    obtain ⟨hn,h⟩:=Ah h
    have:=Ad h
    simp only [Prod.mk.injEq] at this
    obtain ⟨rfl,rfl⟩:=this
    obtain ⟨a,n,g,m,x,t,k,p,r,q,C⟩:=s
    have hA:Bw [v1] [.agg [iV a,.sl 6 n (fun i=>eV (g i)),.sl 5 m (fun i=>evV (x i)),iV t,iV k,.sl 1 p (fun i=>iV (r i)),.sl 1 q (fun u=>.sl 1 (C u).1 (fun i=>iV ((C u).2 i)))]]:=fun S w cs hv=>by
      obtain ⟨c,l,rfl,q1,q2⟩:=hv
      exact ⟨c,_,rfl,a1 S w c q1,q2⟩
    have hn:Ab n = true ∧ Ab m = true ∧ Ab p = true ∧ Ab q = true ∧ (Ai q fun i=>Ab (C i).1) = true:=by simpa [Dx,Ag] using hn
    obtain ⟨n1,n2,n3,n4,n5⟩:=hn
    have hx:=AP Aab [] (G:=Gl)
    refine ⟨_,AI Gl VU [],_,hA,rfl,hx.1,hx.2,?_,A6.refl _⟩
    have Cs:∀ (q:Nat) (ln:Nat->Nat),(Ai q fun i=>Ai (ln i) fun _=>true) = true:=fun _ _=>A4.2 fun _ _=>A4.2 fun _ _=>rfl
    show _ = some (iV (sel (BV ⟨a,n,g,m,x,t,k,p,r,q,C⟩) 0 70),_)
    revert n5
    generalize hln:(fun i=>(C i).1) = ln
    generalize hco:(fun i=>(C i).2) = co
    have e1:∀ u,(C u).1 = ln u:=fun u=>by rw [<- hln]
    have e2:∀ u,(C u).2 = co u:=fun u=>by rw [<- hco]
    have hC:C = fun u=>(ln u,co u):=by
      funext u
      rw [<- e1,<- e2]
    intro n5
    simp only [e1,e2] at n5 ⊢
    subst hC
    cases h16:ilt 16 (ofNat n) with
    | true =>
      have hc:ieq (BY a n g) 0 = false:=Zt h16
      rw [show BV _ = false from C5 hc]
      exact Ajr _ a n g m x t k p r q ln co h16
    | false =>
    cases hc:ieq (BY a n g) 0 with
    | false =>
      rw [show BV _ = false from C5 hc]
      exact Ajt _ a n g m x t k p r q ln co h16 hf hc
    | true =>
      rw [show BV _ = _ from B5 hc]
      cases hs:OQ ⟨a,n,g,m,x,t,k,p,r,q,fun u=>(ln u,co u)⟩ (ofS a n g) with
      | false=>exact Ajs _ a n g m x t k p r q ln co h16 hf hc (Cs _ _) (Cs _ _) n1 n2 n3 n4 n5 hs
      | true=>exact Ajq _ a n g m x t k p r q ln co h16 hf hc (Cs _ _) (Cs _ _) n1 n2 n3 n4 n5 hs
  · cases h
end Go.Proofs.Ytjhnfomefcngfaa.Sh
