/-
  Layer 7: whether a shape is one of a cycle: the program's, the document's. No conditions.
-/
import Derived.Test.YtjhnfomefcngfaaShJ
namespace Go.Proofs.Ytjhnfomefcngfaa.Sh
open Go.Sy Ed
open Int (ofNat)
set_option maxHeartbeats 1000000
set_option maxRecDepth 4000
def ofS (a:Int) (n:Nat) (f:Nat->E6):Sh7:=⟨a,n,shG n f,n,evF n (shG n f) (fun _=>true),ofNat (ttN n (shG n f)),ofNat (kkN n (shG n f)),n,rfF n (shG n f) (fun _=>true),kkN n (shG n f),
  fun k=>(lnN (mbF (shG n f)) (wrF (shG n f)) n k,fun i=>ofNat (coN (mbF (shG n f)) (wrF (shG n f)) n k i))⟩
def Dg (s:Sh7):Bool:=Af (ieq (B6 s.arch s.ne s.E) 0) (LI s (ofS s.arch s.ne s.E))
def ZF:List V->T (V × List Blk)
  | [v]=>apS v fun s=>.br (AL s.ne) (.br (Gi s) (.leaf (iV (sel (Dg s) 0 70),[])) .fail) .fail
  | _=>.fail
noncomputable def X2:List (Nat × (List V->T (V × List Blk))):=[(14,ofT),(72,KQ)]
theorem Aa0:AF Try.prog Gl X2:=.cons p14 <| .cons p72 .nil
section
variable (L:LT) (a:Int) (n:Nat) (g:Nat->E6) (m:Nat) (x:Nat->Ev5) (t k:Int) (p:Nat) (r:Nat->Int) (q:Nat) (ln:Nat->Nat) (co:Nat->Nat->Int)
include L a n g m x t k p r q ln co
theorem AjC (h16:AL n = true) (h0:ieq (B6 a n g) 0 = false):(A1 (Al tab ⟨Ao X2,L,Gl⟩ Try.f25 [.agg (shL a n g m x t k p r q ln co)] [])).sem = some ((iV 70),[]):=Aa (bbK 9 507) ((fun c0=>[An n (fun _=>true),AL n,ieq (B6 a n g) 0,c0,c0,c0,c0,c0,true]) (Am (ieq (B6 a n g) 0))) (by kernel_rfl) (by simp only [h16,h0,Ar] <;> rfl)
theorem AjB (h17:AL n = true) (h0:ieq (B6 a n g) 0 = true) (h19:An q (fun i=>An (ln i) (fun _=>true)) = true) (h20:An (kkN n (shG n g)) (fun i=>An (lnN (mbF (shG n g)) (wrF (shG n g)) n i) (fun _=>true)) = true) (h21:Ah n = true) (h22:Ah m = true) (h23:Ah p = true) (h24:Ah q = true) (h25:An q (fun i=>Ah (ln i)) = true) (h1:Af (ieq a a) (Af (ieq t (ofNat (ttN n (shG n g)))) (Af (ieq k (ofNat (kkN n (shG n g)))) (Af (Bn n g n (fun i=>shG n g i)) (Af (ieq (ofNat m) (ofNat n)) (Af (Bf p r n (rfF n (shG n g) (fun _=>true))) (Af (BM q ln (fun i i_1=>co i i_1) (kkN n (shG n g)) (lnN (mbF (shG n g)) (wrF (shG n g)) n) (fun i i_1=>ofNat (coN (mbF (shG n g)) (wrF (shG n g)) n i i_1))) (An m (fun k=>Co (x k) (evF n (shG n g) (fun _=>true) k))))))))) = false):(A1 (Al tab ⟨Ao X2,L,Gl⟩ Try.f25 [.agg (shL a n g m x t k p r q ln co)] [])).sem = some ((iV 70),[]):=Aa (bbK 19 327623) ((fun c0 c1=>[c0,AL n,ieq (B6 a n g) 0,c1,c1,c1,AT [.cells (shL a n g m x t k p r q ln co),.row 44 6 n (fun i=>eV (shG n g i)),.row 40 5 n (fun i=>evV (evF n (shG n g) (fun _=>true) i)),.row 3 1 n (fun i=>iV (rfF n (shG n g) (fun _=>true) i)),.jag (Jag.mk 25 1 (kkN n (shG n g)) (fun _=>.und) 0 3 1 (fun _=>true) (lnN (mbF (shG n g)) (wrF (shG n g)) n) (fun k i=>iV (ofNat (coN (mbF (shG n g)) (wrF (shG n g)) n k i)))),.cells [iV a,.ref 1,.ref 2,iV (ofNat (ttN n (shG n g))),iV (ofNat (kkN n (shG n g))),.ref 3,.jref 4]],c0,An m (fun _=>true),An p (fun _=>true),An q (fun i=>An (ln i) (fun _=>true)),c0,c0,c0,An (kkN n (shG n g)) (fun i=>An (lnN (mbF (shG n g)) (wrF (shG n g)) n i) (fun _=>true)),Af (Ah n) (Af (Ah m) (Af (Ah p) (Af (Ah q) (An q (fun i=>Ah (ln i)))))),c1,c1,Am (Af (ieq a a) (Af (ieq t (ofNat (ttN n (shG n g)))) (Af (ieq k (ofNat (kkN n (shG n g)))) (Af (Bn n g n (fun i=>shG n g i)) (Af (ieq (ofNat m) (ofNat n)) (Af (Bf p r n (rfF n (shG n g) (fun _=>true))) (Af (BM q ln (fun i i_1=>co i i_1) (kkN n (shG n g)) (lnN (mbF (shG n g)) (wrF (shG n g)) n) (fun i i_1=>ofNat (coN (mbF (shG n g)) (wrF (shG n g)) n i i_1))) (An m (fun k=>Co (x k) (evF n (shG n g) (fun _=>true) k))))))))))]) (An n (fun _=>true)) (Am (ieq 0 0))) (by kernel_rfl) (by simp only [h1] <;> simp only [*,Ar,jlC,jlR,jlJ,jlN] <;> rfl)
theorem AjA (h17:AL n = true) (h0:ieq (B6 a n g) 0 = true) (h19:An q (fun i=>An (ln i) (fun _=>true)) = true) (h20:An (kkN n (shG n g)) (fun i=>An (lnN (mbF (shG n g)) (wrF (shG n g)) n i) (fun _=>true)) = true) (h21:Ah n = true) (h22:Ah m = true) (h23:Ah p = true) (h24:Ah q = true) (h25:An q (fun i=>Ah (ln i)) = true) (h1:Af (ieq a a) (Af (ieq t (ofNat (ttN n (shG n g)))) (Af (ieq k (ofNat (kkN n (shG n g)))) (Af (Bn n g n (fun i=>shG n g i)) (Af (ieq (ofNat m) (ofNat n)) (Af (Bf p r n (rfF n (shG n g) (fun _=>true))) (Af (BM q ln (fun i i_1=>co i i_1) (kkN n (shG n g)) (lnN (mbF (shG n g)) (wrF (shG n g)) n) (fun i i_1=>ofNat (coN (mbF (shG n g)) (wrF (shG n g)) n i i_1))) (An m (fun k=>Co (x k) (evF n (shG n g) (fun _=>true) k))))))))) = true):(A1 (Al tab ⟨Ao X2,L,Gl⟩ Try.f25 [.agg (shL a n g m x t k p r q ln co)] [])).sem = some ((iV 0),[]):=Aa (bbK 19 65479) ((fun c0 c1=>[c0,AL n,ieq (B6 a n g) 0,c1,c1,c1,AT [.cells (shL a n g m x t k p r q ln co),.row 44 6 n (fun i=>eV (shG n g i)),.row 40 5 n (fun i=>evV (evF n (shG n g) (fun _=>true) i)),.row 3 1 n (fun i=>iV (rfF n (shG n g) (fun _=>true) i)),.jag (Jag.mk 25 1 (kkN n (shG n g)) (fun _=>.und) 0 3 1 (fun _=>true) (lnN (mbF (shG n g)) (wrF (shG n g)) n) (fun k i=>iV (ofNat (coN (mbF (shG n g)) (wrF (shG n g)) n k i)))),.cells [iV a,.ref 1,.ref 2,iV (ofNat (ttN n (shG n g))),iV (ofNat (kkN n (shG n g))),.ref 3,.jref 4]],c0,An m (fun _=>true),An p (fun _=>true),An q (fun i=>An (ln i) (fun _=>true)),c0,c0,c0,An (kkN n (shG n g)) (fun i=>An (lnN (mbF (shG n g)) (wrF (shG n g)) n i) (fun _=>true)),Af (Ah n) (Af (Ah m) (Af (Ah p) (Af (Ah q) (An q (fun i=>Ah (ln i)))))),c1,c1,Am (Af (ieq a a) (Af (ieq t (ofNat (ttN n (shG n g)))) (Af (ieq k (ofNat (kkN n (shG n g)))) (Af (Bn n g n (fun i=>shG n g i)) (Af (ieq (ofNat m) (ofNat n)) (Af (Bf p r n (rfF n (shG n g) (fun _=>true))) (Af (BM q ln (fun i i_1=>co i i_1) (kkN n (shG n g)) (lnN (mbF (shG n g)) (wrF (shG n g)) n) (fun i i_1=>ofNat (coN (mbF (shG n g)) (wrF (shG n g)) n i i_1))) (An m (fun k=>Co (x k) (evF n (shG n g) (fun _=>true) k))))))))))]) (An n (fun _=>true)) (Am (ieq 0 0))) (by kernel_rfl) (by simp only [h1] <;> simp only [*,Ar,jlC,jlR,jlJ,jlN] <;> rfl)
end
theorem p25:AD Try.prog Gl 25 ZF:=by
  refine A5 AO AP Try.func25 (by kernel_rfl) (by kernel_rfl) fun vs v h' h=>?_
  unfold ZF at h
  split at h
  · rename_i v1
    obtain ⟨s,a1,h⟩:=EI h
    obtain ⟨hf,h⟩:=Ag h
    obtain ⟨hn,h⟩:=Ag h
    have:=Ac h
    simp only [Prod.mk.injEq] at this
    obtain ⟨rfl,rfl⟩:=this
    obtain ⟨a,n,g,m,x,t,k,p,r,q,C⟩:=s
    have hA:BA [v1] [.agg [iV a,.sl 6 n (fun i=>eV (g i)),.sl 5 m (fun i=>evV (x i)),iV t,iV k,.sl 1 p (fun i=>iV (r i)),.sl 1 q (fun u=>.sl 1 (C u).1 (fun i=>iV ((C u).2 i)))]]:=fun S w cs hv=>by
      obtain ⟨c,l,rfl,q1,q2⟩:=hv
      exact ⟨c,_,rfl,a1 S w c q1,q2⟩
    have hn:Ah n = true ∧ Ah m = true ∧ Ah p = true ∧ Ah q = true ∧ (An q fun i=>Ah (C i).1) = true:=by simpa [Gi,Af] using hn
    obtain ⟨n1,n2,n3,n4,n5⟩:=hn
    have hx:=AQ Aa0 [] (G:=Gl)
    refine ⟨_,AR Gl X2 [],_,hA,rfl,hx.1,hx.2,?_,AB.refl _⟩
    have Fn:∀ (q:Nat) (ln:Nat->Nat),(An q fun i=>An (ln i) fun _=>true) = true:=fun _ _=>AA.2 fun _ _=>AA.2 fun _ _=>rfl
    show _ = some (iV (sel (Dg ⟨a,n,g,m,x,t,k,p,r,q,C⟩) 0 70),_)
    revert n5
    generalize hln:(fun i=>(C i).1) = ln
    generalize hco:(fun i=>(C i).2) = co
    have e1:∀ u,(C u).1 = ln u:=fun u=>by rw [<- hln]
    have e2:∀ u,(C u).2 = co u:=fun u=>by rw [<- hco]
    have hC:C = fun u=>(ln u,co u):=by
      funext u
      rw [<- e1,<- e2]
    intro n5
    simp only [e1,e2] at n5 ⊢
    subst hC
    cases hc:ieq (B6 a n g) 0 with
    | false =>
      rw [show Dg _ = false from C7 hc]
      exact AjC _ a n g m x t k p r q ln co hf hc
    | true =>
      rw [show Dg _ = _ from By hc]
      cases hs:LI ⟨a,n,g,m,x,t,k,p,r,q,fun u=>(ln u,co u)⟩ (ofS a n g) with
      | false=>exact AjB _ a n g m x t k p r q ln co hf hc (Fn _ _) (Fn _ _) n1 n2 n3 n4 n5 hs
      | true=>exact AjA _ a n g m x t k p r q ln co hf hc (Fn _ _) (Fn _ _) n1 n2 n3 n4 n5 hs
  · cases h
end Go.Proofs.Ytjhnfomefcngfaa.Sh
namespace Go.Proofs.Ytjhnfomefcngfaa.Sh
open Go.Sy Ed
open Int (ofNat)
set_option maxHeartbeats 1000000
set_option maxRecDepth 4000
def DE (P:Nat->Bool) (v:Nat->Int):Nat->Nat->V
  | 0=>fun _=>.und
  | b+1=>bif P b then AK (Aj P b) (DE P v b) (iV (v b)) else DE P v b
theorem Qb {P:Nat->Bool} {v:Nat->Int} {b:Nat} (h:P b = true):DE P v (b+1) = AK (Aj P b) (DE P v b) (iV (v b)):=by rw [DE,h]; rfl
theorem UV {P:Nat->Bool} {v:Nat->Int} {b:Nat} (h:P b = false):DE P v (b+1) = DE P v b:=by rw [DE,h]; rfl
def O6 (P:Nat->Bool) (n m:Nat):Nat:=Fe (fun i=>P i && decide (Aj P i = m)) n
theorem UF {P:Nat->Bool} {n i:Nat} (hi:i < n) (h:P i = true):O6 P n (Aj P i) = i:=Kg hi (by simp [h]) fun k hk=>by
  cases hp:P k with
  | false=>rfl
  | true =>
    have h1:=Bi hp
    have h2:=AY P (show k+1 <= i by omega)
    simp
    omega
theorem KP {P:Nat->Bool}:∀ {n m:Nat},m < Aj P n->O6 P n m < n ∧ P (O6 P n m) = true ∧ Aj P (O6 P n m) = m
  | 0,m,h=>by simp [Aj] at h
  | n+1,m,h=>by
    have:∃ i,i < n+1 ∧ P i = true ∧ Aj P i = m:=by
      cases hp:P n with
      | true =>
        rw [Bi hp] at h
        by_cases hm:m = Aj P n
        · exact ⟨n,by omega,hp,hm.symm⟩
        · obtain ⟨a,b,c⟩:=KP (P:=P) (n:=n) (m:=m) (by omega)
          exact ⟨_,by omega,b,c⟩
      | false =>
        rw [B2 hp] at h
        obtain ⟨a,b,c⟩:=KP (n:=n) (m:=m) h
        exact ⟨_,by omega,b,c⟩
    obtain ⟨i,h1,h2,h3⟩:=this
    rw [<- h3,UF h1 h2]
    exact ⟨h1,h2,rfl⟩
theorem R6 (P:Nat->Bool) (v:Nat->Int) {n:Nat}:∀ m,m < Aj P n->DE P v n m = iV (v (O6 P n m)):=by
  have key:∀ b,b <= n->∀ i,i < b->P i = true->DE P v b (Aj P i) = iV (v i):=fun b=>by
    induction b with
    | zero=>intro _ i hi; omega
    | succ b ih =>
      intro hb i hi hp
      cases hpb:P b with
      | true =>
        rw [Qb hpb,BH]
        by_cases he:i = b
        · rw [he,Nat.beq_refl]; rfl
        · have h1:=Bi hp
          have h2:=AY P (show i+1 <= b by omega)
          rw [nbeq_ne (by omega)]
          exact ih (by omega) i (by omega) hp
      | false =>
        have he:i ≠ b:=fun he=>by rw [he,hpb] at hp; cases hp
        rw [UV hpb]
        exact ih (by omega) i (by omega) hp
  intro m hm
  obtain ⟨h1,h2,h3⟩:=KP hm
  have:=key n (Nat.le_refl _) _ h1 h2
  rw [h3] at this
  exact this
theorem K2:∀ n,Aj (fun _=>true) n = n
  | 0=>rfl
  | n+1=>by rw [Bi rfl,K2 n]
theorem Ww (v:Nat->Int) {n:Nat} (m:Nat) (h:m < n):DE (fun _=>true) v n m = iV (v m):=by
  have h1:=R6 (fun _=>true) v (n:=n) m (by rw [K2]; exact h)
  have h2:=UF (P:=fun _=>true) h rfl
  rw [K2] at h2
  rw [h1,h2]
def Bu (a:Int) (n:Nat) (g:Nat->E6) (m:Nat) (x:Nat->Ev5) (t k:Int) (p:Nat) (r:Nat->Int) (q:Nat) (ln:Nat->Nat) (co:Nat->Nat->Int):Int:=sel (Dg ⟨a,n,g,m,x,t,k,p,r,q,fun u=>(ln u,co u)⟩) 0 70
def QS:List V->T (V × List Blk)
  | [v]=>apS v fun s=>.br (AL s.ne) (.br (Gi s) (.leaf (iV (Bu s.arch s.ne s.E s.nx s.X s.tt s.kk s.nr s.R s.nc (fun i=>(s.C i).1) (fun i=>(s.C i).2)),[])) .fail) .fail
  | _=>.fail
theorem Ai1:AD Try.prog Gl 25 QS:=p25
def noI (e:Int):V × List Blk:=(.tup [.ref 0,iV e],[.row 3 1 0 fun _=>.und])
def PD:List V->T (V × List Blk)
  | [v,.val (.int .i64 z)]=>apS v fun s=>.br (AL s.ne) (.br (Ca s.nx) (.br (Gi s) (.br (Dg s) (.br (bor (ilt z 0) (ile s.tt z)) (.leaf (noI 4))
      (.leaf (.tup [.ref 0,iV 0],[.row 3 1 (Aj (fun i=>ieq (s.X i).th z) s.nx) fun k=>iV (ofNat (O6 (fun i=>ieq (s.X i).th z) s.nx k))]))) (.leaf (noI 70))) .fail) .fail) .fail
  | _=>.fail
def YP:List V->T (V × List Blk)
  | [v]=>apS v fun s=>.br (AL s.ne) (.br (Ca s.nc) (.br (Gi s) (.br (Dg s) (.leaf (.tup [.ref 0,iV 0],[.row 3 1 s.nc fun k=>iV (ofNat (s.C k).1)])) (.leaf (noI 70))) .fail) .fail) .fail
  | _=>.fail
noncomputable def O4:List (Nat × (List V->T (V × List Blk))):=[(25,QS)]
theorem Aaz:AF Try.prog Gl O4:=.cons Ai1 .nil
def N4 (a:Int) (n:Nat) (g:Nat->E6) (m:Nat) (x:Nat->Ev5) (t k:Int) (p:Nat) (r:Nat->Int) (q:Nat) (ln:Nat->Nat) (co:Nat->Nat->Int) (z:Int):Lp:=⟨(bmK 41 0 [1,7,24,25,26]),3,bmK 41 0 [7],3,m+1⟩
def Wh (a:Int) (n:Nat) (g:Nat->E6) (m:Nat) (x:Nat->Ev5) (t k:Int) (p:Nat) (r:Nat->Int) (q:Nat) (ln:Nat->Nat) (co:Nat->Nat->Int) (z:Int) (b c:Nat) (y:Nat->V) (j:Nat->V):St:=⟨(jsV 41 0 j [(1,iV z),(7,.ref 2),(24,.sl 5 m (fun i=>evV (x i))),(25,nV m),(26,nV b)]),[.cells (shL a n g m x t k p r q ln co),r3Z,.row 3 1 c y]⟩
def VH (a:Int) (n:Nat) (g:Nat->E6) (m:Nat) (x:Nat->Ev5) (t k:Int) (p:Nat) (r:Nat->Int) (q:Nat) (ln:Nat->Nat) (co:Nat->Nat->Int) (z:Int) (b c:Nat) (y:Nat->V):Ex × St:=(.ex 0,⟨(jsV 41 0 (fun _=>.und) [(7,.ref 2)]),[.cells (shL a n g m x t k p r q ln co),r3Z,.row 3 1 c y]⟩)
noncomputable def L2 (L:LT):St->T (Ex × St):=fun st=>A9 tab ⟨Ao O4,L,Gl⟩ (Av Try.f26 0) 0 st
section
variable (L:LT) (a:Int) (n:Nat) (g:Nat->E6) (m:Nat) (x:Nat->Ev5) (t k:Int) (p:Nat) (r:Nat->Int) (q:Nat) (ln:Nat->Nat) (co:Nat->Nat->Int) (z:Int) (b c:Nat) (y:Nat->V)  (j:Nat->V)
include L a n g m x t k p r q ln co z b c y j
theorem Ake (h0:ilt (ofNat b) (ofNat m) = false):Ai (L2 L) (N4 a n g m x t k p r q ln co z) (Wh a n g m x t k p r q ln co z b c y j) = some ((.ex 0),⟨(jsV 41 0 (fun _=>.und) [(7,(.ref 2))]),[.cells (shL a n g m x t k p r q ln co),r3Z,.row 3 1 c y]⟩):=Aa [false] [ilt (ofNat b) (ofNat m)] (by kernel_rfl) (by simp only [h0] <;> rfl)
theorem Akc (h0:ilt (ofNat b) (ofNat m) = true) (h18:ile 0 (ofNat b) = true) (h1:ieq ((x b)).th z = true) (h19:Bj c 1 8 = true):Ai (L2 L) (N4 a n g m x t k p r q ln co z) (Wh a n g m x t k p r q ln co z b c y j) = some (.nm,⟨(jsV 41 0 (fun _=>.und) [(1,(iV z)),(7,(.ref 2)),(24,(.sl 5 m (fun i=>evV (x i)))),(25,(nV m)),(26,(iV (wr .i64 (Ae (ofNat b) 1))))]),[.cells (shL a n g m x t k p r q ln co),r3Z,.row 3 1 (B4 c 1) (AK c y (nV b))]⟩):=Aa [true,true,true,true] [ilt (ofNat b) (ofNat m),Af (ile 0 (ofNat b)) (ilt (ofNat b) (ofNat m)),ieq ((x b)).th z,Bj c 1 8] (by kernel_rfl) (by simp only [*] <;> rfl)
theorem Akd (h0:ilt (ofNat b) (ofNat m) = true) (h18:ile 0 (ofNat b) = true) (h1:ieq ((x b)).th z = false):Ai (L2 L) (N4 a n g m x t k p r q ln co z) (Wh a n g m x t k p r q ln co z b c y j) = some (.nm,⟨(jsV 41 0 (fun _=>.und) [(1,(iV z)),(7,(.ref 2)),(24,(.sl 5 m (fun i=>evV (x i)))),(25,(nV m)),(26,(iV (wr .i64 (Ae (ofNat b) 1))))]),[.cells (shL a n g m x t k p r q ln co),r3Z,.row 3 1 c y]⟩):=Aa [true,true,false] [ilt (ofNat b) (ofNat m),Af (ile 0 (ofNat b)) (ilt (ofNat b) (ofNat m)),ieq ((x b)).th z] (by kernel_rfl) (by simp only [*] <;> rfl)
end
def AiF (a:Int) (n:Nat) (g:Nat->E6) (m:Nat) (x:Nat->Ev5) (t k:Int) (p:Nat) (r:Nat->Int) (q:Nat) (ln:Nat->Nat) (co:Nat->Nat->Int) (z:Int) :Nat->V:=lkV A7 [(0,(.agg (shL a n g m x t k p r q ln co))),(2,(.ptr 0 0)),(4,(.ref 1)),(5,(iV 0)),(6,(iV (Bu a n g m x t k p r q ln (fun i i_1=>co i i_1)))),(10,(.agg (shL a n g m x t k p r q ln co))),(11,(iV (Bu a n g m x t k p r q ln (fun i i_1=>co i i_1)))),(12,(iV (Bu a n g m x t k p r q ln (fun i i_1=>co i i_1)))),(13,(bV (Am (ieq (Bu a n g m x t k p r q ln (fun i i_1=>co i i_1)) 0)))),(15,(iV z)),(16,(bV (ilt z 0))),(17,(bV (ilt z 0))),(18,(iV z)),(19,(.ptr 0 3)),(20,(iV t)),(21,(bV (ile t z))),(22,(bV (ile t z))),(23,(.ptr 0 2))]
section
variable (L:LT) (a:Int) (n:Nat) (g:Nat->E6) (m:Nat) (x:Nat->Ev5) (t k:Int) (p:Nat) (r:Nat->Int) (q:Nat) (ln:Nat->Nat) (co:Nat->Nat->Int) (z:Int)
include L a n g m x t k p r q ln co z
theorem Aj9 (h17:An q (fun i=>An (ln i) (fun _=>true)) = true) (h18:AL n = true) (h19:Ah n = true) (h20:Ah m = true) (h21:Ah p = true) (h22:Ah q = true) (h23:An q (fun i=>Ah (ln i)) = true) (h0:ieq (Bu a n g m x t k p r q ln (fun i i_1=>co i i_1)) 0 = false):(A1 (Al tab ⟨Ao O4,L,Gl⟩ Try.f26 [.agg (shL a n g m x t k p r q ln co),iV z] [])).sem = some ((.tup [.ref 0,iV (Bu a n g m x t k p r q ln (fun i i_1=>co i i_1))]),[r3Z]):=Aa (bbK 7 127) [An n (fun _=>true),An m (fun _=>true),An p (fun _=>true),An q (fun i=>An (ln i) (fun _=>true)),AL n,Af (Ah n) (Af (Ah m) (Af (Ah p) (Af (Ah q) (An q (fun i=>Ah (ln i)))))),Am (ieq (Bu a n g m x t k p r q ln (fun i i_1=>co i i_1)) 0)] (by kernel_rfl) (by simp only [*,Ar] <;> rfl)
theorem Aj7 (h18:An q (fun i=>An (ln i) (fun _=>true)) = true) (h19:AL n = true) (h20:Ah n = true) (h21:Ah m = true) (h22:Ah p = true) (h23:Ah q = true) (h24:An q (fun i=>Ah (ln i)) = true) (h0:ieq (Bu a n g m x t k p r q ln (fun i i_1=>co i i_1)) 0 = true) (h1:ilt z 0 = true):(A1 (Al tab ⟨Ao O4,L,Gl⟩ Try.f26 [.agg (shL a n g m x t k p r q ln co),iV z] [])).sem = some ((.tup [.ref 0,iV 4]),[r3Z]):=Aa (bbK 13 8127) [An n (fun _=>true),An m (fun _=>true),An p (fun _=>true),An q (fun i=>An (ln i) (fun _=>true)),AL n,Af (Ah n) (Af (Ah m) (Af (Ah p) (Af (Ah q) (An q (fun i=>Ah (ln i)))))),Am (ieq (Bu a n g m x t k p r q ln (fun i i_1=>co i i_1)) 0),ilt z 0,ilt z 0,ilt z 0,ilt z 0,ilt z 0,true] (by kernel_rfl) (by simp only [*,Ar] <;> rfl)
theorem Aj8 (h19:An q (fun i=>An (ln i) (fun _=>true)) = true) (h20:AL n = true) (h21:Ah n = true) (h22:Ah m = true) (h23:Ah p = true) (h24:Ah q = true) (h25:An q (fun i=>Ah (ln i)) = true) (h0:ieq (Bu a n g m x t k p r q ln (fun i i_1=>co i i_1)) 0 = true) (h1:ilt z 0 = false) (h2:ile t z = true):(A1 (Al tab ⟨Ao O4,L,Gl⟩ Try.f26 [.agg (shL a n g m x t k p r q ln co),iV z] [])).sem = some ((.tup [.ref 0,iV 4]),[r3Z]):=Aa (bbK 13 4159) [An n (fun _=>true),An m (fun _=>true),An p (fun _=>true),An q (fun i=>An (ln i) (fun _=>true)),AL n,Af (Ah n) (Af (Ah m) (Af (Ah p) (Af (Ah q) (An q (fun i=>Ah (ln i)))))),Am (ieq (Bu a n g m x t k p r q ln (fun i i_1=>co i i_1)) 0),ilt z 0,ilt z 0,ilt z 0,ilt z 0,ilt z 0,ile t z] (by kernel_rfl) (by simp only [*,Ar] <;> rfl)
end
theorem Aj6 (L:LT) (p0:PT) (a:Int) (n:Nat) (g:Nat->E6) (m:Nat) (x:Nat->Ev5) (t k:Int) (p:Nat) (r:Nat->Int) (q:Nat) (ln:Nat->Nat) (co:Nat->Nat->Int) (z:Int) (b c:Nat) (y:Nat->V) (h19:An q (fun i=>An (ln i) (fun _=>true)) = true) (h20:AL n = true) (h21:Ah n = true) (h22:Ah m = true) (h23:Ah p = true) (h24:Ah q = true) (h25:An q (fun i=>Ah (ln i)) = true) (h0:ieq (Bu a n g m x t k p r q ln (fun i i_1=>co i i_1)) 0 = true) (h1:ilt z 0 = false) (h2:ile t z = false) (hp0:p0 (L2 (onP 0 p0 (VH a n g m x t k p r q ln co z b c y) L)) (Wh a n g m x t k p r q ln co z 0 0 (fun _=>.und) (AiF a n g m x t k p r q ln co z )) = true):(A1 (Al tab ⟨Ao O4,onP 0 p0 (VH a n g m x t k p r q ln co z b c y) L,Gl⟩ Try.f26 [.agg (shL a n g m x t k p r q ln co),iV z] [])).sem = some ((.tup [.ref 0,iV 0]),[.row 3 1 c y]):=Aa (bbK 14 8255) [An n (fun _=>true),An m (fun _=>true),An p (fun _=>true),An q (fun i=>An (ln i) (fun _=>true)),AL n,Af (Ah n) (Af (Ah m) (Af (Ah p) (Af (Ah q) (An q (fun i=>Ah (ln i)))))),Am (ieq (Bu a n g m x t k p r q ln (fun i i_1=>co i i_1)) 0),ilt z 0,ilt z 0,ilt z 0,ilt z 0,ilt z 0,ile t z,p0 (L2 (onP 0 p0 (VH a n g m x t k p r q ln co z b c y) L)) (Wh a n g m x t k p r q ln co z 0 0 (fun _=>.und) (AiF a n g m x t k p r q ln co z ))] (by kernel_rfl) (by simp only [hp0] <;> simp only [*,Ar] <;> rfl)
theorem Acj (L:LT) (a:Int) (n:Nat) (g:Nat->E6) (m:Nat) (x:Nat->Ev5) (t k:Int) (p:Nat) (r:Nat->Int) (q:Nat) (ln:Nat->Nat) (co:Nat->Nat->Int) (z:Int) (h8:m * 8 <= 140737488355328):∀ (e b:Nat) (j:Nat->V) (u:Nat),m = b+e->e < u ->
    (A3 (L2 L) (N4 a n g m x t k p r q ln co z) u (Wh a n g m x t k p r q ln co z b (Aj (fun i=>ieq (x i).th z) b) (DE (fun i=>ieq (x i).th z) (fun i=>ofNat i) b) j)).sem = some (VH a n g m x t k p r q ln co z m (Aj (fun i=>ieq (x i).th z) m) (DE (fun i=>ieq (x i).th z) (fun i=>ofNat i) m))
  | 0,b,j,u+1,h,_=>by
    have:m = b:=by omega
    subst this
    exact Ab (Ake L a n g m x t k p r q ln co z m _ _ j (A8 (Nat.le_refl _)))
  | e+1,b,j,u+1,h,h2=>by
    have hl:b < m:=by omega
    have hcl:=Bd (fun i=>ieq (x i).th z) b
    have next:=Acj L a n g m x t k p r q ln co z h8 e (b+1) (fun _=>.und) u (by omega) (by omega)
    cases hp:(fun i=>ieq (x i).th z) b with
    | true =>
      rw [Ab (Akc L a n g m x t k p r q ln co z b (Aj (fun i=>ieq (x i).th z) b) (DE (fun i=>ieq (x i).th z) (fun i=>ofNat i) b) j (ofNat_lt hl) (AJ b) hp (CS (by omega))),Aw,Aq hl (by omega)]
      rw [Qb hp,Bi hp] at next
      exact next
    | false=>
      rw [Ab (Akd L a n g m x t k p r q ln co z b (Aj (fun i=>ieq (x i).th z) b) (DE (fun i=>ieq (x i).th z) (fun i=>ofNat i) b) j (ofNat_lt hl) (AJ b) hp),Aw,Aq hl (by omega)]
      rw [UV hp,B2 hp] at next
      exact next
theorem p26:AD Try.prog Gl 26 PD:=by
  refine A5 AO AP Try.func26 (by kernel_rfl) (by kernel_rfl) fun vs v h' h=>?_
  unfold PD at h
  split at h
  · rename_i v1 z
    obtain ⟨s,a1,h⟩:=EI h
    obtain ⟨hf,h⟩:=Ag h
    obtain ⟨h8,h⟩:=Ag h
    obtain ⟨hn,h⟩:=Ag h
    obtain ⟨a,n,g,m,x,t,k,p,r,q,C⟩:=s
    have hA:BA [v1,iV z] [.agg [iV a,.sl 6 n (fun i=>eV (g i)),.sl 5 m (fun i=>evV (x i)),iV t,iV k,.sl 1 p (fun i=>iV (r i)),.sl 1 q (fun u=>.sl 1 (C u).1 (fun i=>iV ((C u).2 i)))],iV z]:=fun S w cs hv=>by
      obtain ⟨c,l,rfl,q1,q2⟩:=hv
      exact ⟨c,_,rfl,a1 S w c q1,q2⟩
    have hn:Ah n = true ∧ Ah m = true ∧ Ah p = true ∧ Ah q = true ∧ (An q fun i=>Ah (C i).1) = true:=by simpa [Gi,Af] using hn
    obtain ⟨n1,n2,n3,n4,n5⟩:=hn
    have Fn:∀ (q:Nat) (ln:Nat->Nat),(An q fun i=>An (ln i) fun _=>true) = true:=fun _ _=>AA.2 fun _ _=>AA.2 fun _ _=>rfl
    obtain ⟨ln,co,hC⟩:∃ (ln:Nat->Nat) (co:Nat->Nat->Int),C = fun u=>(ln u,co u):=⟨fun u=>(C u).1,fun u=>(C u).2,rfl⟩
    subst hC
    have hx:=AQ Aaz [(0,N4 a n g m x t k p r q ln co z)] (G:=Gl)
    have hL:=AC [(0,N4 a n g m x t k p r q ln co z)]
    cases hs:Dg ⟨a,n,g,m,x,t,k,p,r,q,fun u=>(ln u,co u)⟩ with
    | false =>
      rw [hs] at h
      have:=Ac h
      simp only [noI,Prod.mk.injEq] at this
      obtain ⟨rfl,rfl⟩:=this
      have hc:ieq (Bu a n g m x t k p r q ln co) 0 = false:=by unfold Bu; rw [hs]; rfl
      have hv:Bu a n g m x t k p r q ln co = 70:=by unfold Bu; rw [hs]; rfl
      refine ⟨_,AR Gl O4 [(0,N4 a n g m x t k p r q ln co z)],_,hA,rfl,hx.1,hx.2,?_,AB.refl _⟩
      have hw:=Aj9 (Bc [(0,N4 a n g m x t k p r q ln co z)]) a n g m x t k p r q ln co z (Fn _ _) hf n1 n2 n3 n4 n5 hc
      rw [hv] at hw
      exact hw
    | true =>
      rw [hs] at h
      have hc:ieq (Bu a n g m x t k p r q ln co) 0 = true:=by unfold Bu; rw [hs]; rfl
      cases hz:ilt z 0 with
      | true =>
        rw [show bor (ilt z 0) (ile t z) = true by rw [hz]; rfl] at h
        have:=Ac h
        simp only [noI,Prod.mk.injEq] at this
        obtain ⟨rfl,rfl⟩:=this
        exact ⟨_,AR Gl O4 [(0,N4 a n g m x t k p r q ln co z)],_,hA,rfl,hx.1,hx.2,Aj7 _ a n g m x t k p r q ln co z (Fn _ _) hf n1 n2 n3 n4 n5 hc hz,AB.refl _⟩
      | false =>
      cases hg:ile t z with
      | true =>
        rw [show bor (ilt z 0) (ile t z) = true by rw [hz,hg]; rfl] at h
        have:=Ac h
        simp only [noI,Prod.mk.injEq] at this
        obtain ⟨rfl,rfl⟩:=this
        exact ⟨_,AR Gl O4 [(0,N4 a n g m x t k p r q ln co z)],_,hA,rfl,hx.1,hx.2,Aj8 _ a n g m x t k p r q ln co z (Fn _ _) hf n1 n2 n3 n4 n5 hc hz hg,AB.refl _⟩
      | false =>
      rw [show bor (ilt z 0) (ile t z) = false by rw [hz,hg]; rfl] at h
      have:=Ac h
      simp only [noI,Prod.mk.injEq] at this
      obtain ⟨rfl,rfl⟩:=this
      have h8':m * 8 <= 140737488355328:=of_decide_eq_true h8
      have hrun:=fun L j=>Acj L a n g m x t k p r q ln co z h8' m 0 j (m+1) (by omega) (by omega)
      refine ⟨_,AR Gl O4 [(0,N4 a n g m x t k p r q ln co z)],_,hA,rfl,hx.1,hx.2,A6 (Ax hL hL) _ (Aj6 _ _ a n g m x t k p r q ln co z m (Aj (fun i=>ieq (x i).th z) m) (DE (fun i=>ieq (x i).th z) (fun i=>ofNat i) m) (Fn _ _) hf n1 n2 n3 n4 n5 hc hz hg (Ak (hrun _ _))),?_⟩
      exact AB.one fun i hi=>(R6 _ _ i hi).symm
  · cases h
noncomputable def We:List (Nat × (List V->T (V × List Blk))):=[(25,QS)]
theorem Aay:AF Try.prog Gl We:=.cons Ai1 .nil
def RN (a:Int) (n:Nat) (g:Nat->E6) (m:Nat) (x:Nat->Ev5) (t k:Int) (p:Nat) (r:Nat->Int) (q:Nat) (ln:Nat->Nat) (co:Nat->Nat->Int):Lp:=⟨(bmK 27 0 [5,14,15,16]),3,bmK 27 0 [5],3,q+1⟩
def XD (a:Int) (n:Nat) (g:Nat->E6) (m:Nat) (x:Nat->Ev5) (t k:Int) (p:Nat) (r:Nat->Int) (q:Nat) (ln:Nat->Nat) (co:Nat->Nat->Int) (b c:Nat) (y:Nat->V) (j:Nat->V):St:=⟨(jsV 27 0 j [(5,.ref 2),(14,.sl 1 q (fun u=>.sl 1 (ln u) (fun i=>iV (co u i)))),(15,nV q),(16,nV b)]),[.cells (shL a n g m x t k p r q ln co),r3Z,.row 3 1 c y]⟩
def VG (a:Int) (n:Nat) (g:Nat->E6) (m:Nat) (x:Nat->Ev5) (t k:Int) (p:Nat) (r:Nat->Int) (q:Nat) (ln:Nat->Nat) (co:Nat->Nat->Int) (b c:Nat) (y:Nat->V):Ex × St:=(.ex 0,⟨(jsV 27 0 (fun _=>.und) [(5,.ref 2)]),[.cells (shL a n g m x t k p r q ln co),r3Z,.row 3 1 c y]⟩)
noncomputable def Ol (L:LT):St->T (Ex × St):=fun st=>A9 tab ⟨Ao We,L,Gl⟩ (Av Try.f27 0) 0 st
section
variable (L:LT) (a:Int) (n:Nat) (g:Nat->E6) (m:Nat) (x:Nat->Ev5) (t k:Int) (p:Nat) (r:Nat->Int) (q:Nat) (ln:Nat->Nat) (co:Nat->Nat->Int) (b c:Nat) (y:Nat->V)  (j:Nat->V)
include L a n g m x t k p r q ln co b c y j
theorem Akb (h0:ilt (ofNat b) (ofNat q) = false):Ai (Ol L) (RN a n g m x t k p r q ln co) (XD a n g m x t k p r q ln co b c y j) = some ((.ex 0),⟨(jsV 27 0 (fun _=>.und) [(5,(.ref 2))]),[.cells (shL a n g m x t k p r q ln co),r3Z,.row 3 1 c y]⟩):=Aa [false] [ilt (ofNat b) (ofNat q)] (by kernel_rfl) (by simp only [h0] <;> rfl)
theorem Aka (h0:ilt (ofNat b) (ofNat q) = true) (h17:ile 0 (ofNat b) = true) (h18:Bj c 1 8 = true):Ai (Ol L) (RN a n g m x t k p r q ln co) (XD a n g m x t k p r q ln co b c y j) = some (.nm,⟨(jsV 27 0 (fun _=>.und) [(5,(.ref 2)),(14,(.sl 1 q (fun u=>.sl 1 (ln u) (fun i=>iV (co u i))))),(15,(nV q)),(16,(iV (wr .i64 (Ae (ofNat b) 1))))]),[.cells (shL a n g m x t k p r q ln co),r3Z,.row 3 1 (B4 c 1) (AK c y (iV (ofNat (ln b))))]⟩):=Aa [true,true,true] [ilt (ofNat b) (ofNat q),Af (ile 0 (ofNat b)) (ilt (ofNat b) (ofNat q)),Bj c 1 8] (by kernel_rfl) (by simp only [*] <;> rfl)
end
def AiE (a:Int) (n:Nat) (g:Nat->E6) (m:Nat) (x:Nat->Ev5) (t k:Int) (p:Nat) (r:Nat->Int) (q:Nat) (ln:Nat->Nat) (co:Nat->Nat->Int) :Nat->V:=lkV A7 [(0,(.agg (shL a n g m x t k p r q ln co))),(1,(.ptr 0 0)),(2,(.ref 1)),(3,(iV 0)),(4,(iV (Bu a n g m x t k p r q ln (fun i i_1=>co i i_1)))),(8,(.agg (shL a n g m x t k p r q ln co))),(9,(iV (Bu a n g m x t k p r q ln (fun i i_1=>co i i_1)))),(10,(iV (Bu a n g m x t k p r q ln (fun i i_1=>co i i_1)))),(11,(bV (Am (ieq (Bu a n g m x t k p r q ln (fun i i_1=>co i i_1)) 0)))),(13,(.ptr 0 6))]
theorem Aj5 (L:LT) (a:Int) (n:Nat) (g:Nat->E6) (m:Nat) (x:Nat->Ev5) (t k:Int) (p:Nat) (r:Nat->Int) (q:Nat) (ln:Nat->Nat) (co:Nat->Nat->Int) (h17:An q (fun i=>An (ln i) (fun _=>true)) = true) (h18:AL n = true) (h19:Ah n = true) (h20:Ah m = true) (h21:Ah p = true) (h22:Ah q = true) (h23:An q (fun i=>Ah (ln i)) = true) (h0:ieq (Bu a n g m x t k p r q ln (fun i i_1=>co i i_1)) 0 = false):(A1 (Al tab ⟨Ao We,L,Gl⟩ Try.f27 [.agg (shL a n g m x t k p r q ln co)] [])).sem = some ((.tup [.ref 0,iV (Bu a n g m x t k p r q ln (fun i i_1=>co i i_1))]),[r3Z]):=Aa (bbK 7 127) [An n (fun _=>true),An m (fun _=>true),An p (fun _=>true),An q (fun i=>An (ln i) (fun _=>true)),AL n,Af (Ah n) (Af (Ah m) (Af (Ah p) (Af (Ah q) (An q (fun i=>Ah (ln i)))))),Am (ieq (Bu a n g m x t k p r q ln (fun i i_1=>co i i_1)) 0)] (by kernel_rfl) (by simp only [*,Ar] <;> rfl)
theorem Aj4 (L:LT) (p0:PT) (a:Int) (n:Nat) (g:Nat->E6) (m:Nat) (x:Nat->Ev5) (t k:Int) (p:Nat) (r:Nat->Int) (q:Nat) (ln:Nat->Nat) (co:Nat->Nat->Int) (b c:Nat) (y:Nat->V) (h17:An q (fun i=>An (ln i) (fun _=>true)) = true) (h18:AL n = true) (h19:Ah n = true) (h20:Ah m = true) (h21:Ah p = true) (h22:Ah q = true) (h23:An q (fun i=>Ah (ln i)) = true) (h0:ieq (Bu a n g m x t k p r q ln (fun i i_1=>co i i_1)) 0 = true) (hp0:p0 (Ol (onP 0 p0 (VG a n g m x t k p r q ln co b c y) L)) (XD a n g m x t k p r q ln co 0 0 (fun _=>.und) (AiE a n g m x t k p r q ln co )) = true):(A1 (Al tab ⟨Ao We,onP 0 p0 (VG a n g m x t k p r q ln co b c y) L,Gl⟩ Try.f27 [.agg (shL a n g m x t k p r q ln co)] [])).sem = some ((.tup [.ref 0,iV 0]),[.row 3 1 c y]):=Aa (bbK 8 191) [An n (fun _=>true),An m (fun _=>true),An p (fun _=>true),An q (fun i=>An (ln i) (fun _=>true)),AL n,Af (Ah n) (Af (Ah m) (Af (Ah p) (Af (Ah q) (An q (fun i=>Ah (ln i)))))),Am (ieq (Bu a n g m x t k p r q ln (fun i i_1=>co i i_1)) 0),p0 (Ol (onP 0 p0 (VG a n g m x t k p r q ln co b c y) L)) (XD a n g m x t k p r q ln co 0 0 (fun _=>.und) (AiE a n g m x t k p r q ln co ))] (by kernel_rfl) (by simp only [hp0] <;> simp only [*,Ar] <;> rfl)
theorem Aci (L:LT) (a:Int) (n:Nat) (g:Nat->E6) (m:Nat) (x:Nat->Ev5) (t k:Int) (p:Nat) (r:Nat->Int) (q:Nat) (ln:Nat->Nat) (co:Nat->Nat->Int) (h8:q * 8 <= 140737488355328):∀ (e b:Nat) (j:Nat->V) (u:Nat),q = b+e->e < u ->
    (A3 (Ol L) (RN a n g m x t k p r q ln co) u (XD a n g m x t k p r q ln co b (Aj (fun _=>true) b) (DE (fun _=>true) (fun i=>ofNat (ln i)) b) j)).sem = some (VG a n g m x t k p r q ln co q (Aj (fun _=>true) q) (DE (fun _=>true) (fun i=>ofNat (ln i)) q))
  | 0,b,j,u+1,h,_=>by
    have:q = b:=by omega
    subst this
    exact Ab (Akb L a n g m x t k p r q ln co q _ _ j (A8 (Nat.le_refl _)))
  | e+1,b,j,u+1,h,h2=>by
    have hl:b < q:=by omega
    have hcl:=Bd (fun _=>true) b
    have next:=Aci L a n g m x t k p r q ln co h8 e (b+1) (fun _=>.und) u (by omega) (by omega)
    cases hp:(fun _=>true) b with
    | true =>
      rw [Ab (Aka L a n g m x t k p r q ln co b (Aj (fun _=>true) b) (DE (fun _=>true) (fun i=>ofNat (ln i)) b) j (ofNat_lt hl) (AJ b) (CS (by omega))),Aw,Aq hl (by omega)]
      rw [Qb hp,Bi hp] at next
      exact next
    | false=>cases hp
theorem p27:AD Try.prog Gl 27 YP:=by
  refine A5 AO AP Try.func27 (by kernel_rfl) (by kernel_rfl) fun vs v h' h=>?_
  unfold YP at h
  split at h
  · rename_i v1
    obtain ⟨s,a1,h⟩:=EI h
    obtain ⟨hf,h⟩:=Ag h
    obtain ⟨h8,h⟩:=Ag h
    obtain ⟨hn,h⟩:=Ag h
    obtain ⟨a,n,g,m,x,t,k,p,r,q,C⟩:=s
    have hA:BA [v1] [.agg [iV a,.sl 6 n (fun i=>eV (g i)),.sl 5 m (fun i=>evV (x i)),iV t,iV k,.sl 1 p (fun i=>iV (r i)),.sl 1 q (fun u=>.sl 1 (C u).1 (fun i=>iV ((C u).2 i)))]]:=fun S w cs hv=>by
      obtain ⟨c,l,rfl,q1,q2⟩:=hv
      exact ⟨c,_,rfl,a1 S w c q1,q2⟩
    have hn:Ah n = true ∧ Ah m = true ∧ Ah p = true ∧ Ah q = true ∧ (An q fun i=>Ah (C i).1) = true:=by simpa [Gi,Af] using hn
    obtain ⟨n1,n2,n3,n4,n5⟩:=hn
    have Fn:∀ (q:Nat) (ln:Nat->Nat),(An q fun i=>An (ln i) fun _=>true) = true:=fun _ _=>AA.2 fun _ _=>AA.2 fun _ _=>rfl
    obtain ⟨ln,co,hC⟩:∃ (ln:Nat->Nat) (co:Nat->Nat->Int),C = fun u=>(ln u,co u):=⟨fun u=>(C u).1,fun u=>(C u).2,rfl⟩
    subst hC
    have hx:=AQ Aay [(0,RN a n g m x t k p r q ln co)] (G:=Gl)
    have hL:=AC [(0,RN a n g m x t k p r q ln co)]
    cases hs:Dg ⟨a,n,g,m,x,t,k,p,r,q,fun u=>(ln u,co u)⟩ with
    | false =>
      rw [hs] at h
      have:=Ac h
      simp only [noI,Prod.mk.injEq] at this
      obtain ⟨rfl,rfl⟩:=this
      have hc:ieq (Bu a n g m x t k p r q ln co) 0 = false:=by unfold Bu; rw [hs]; rfl
      have hv:Bu a n g m x t k p r q ln co = 70:=by unfold Bu; rw [hs]; rfl
      refine ⟨_,AR Gl We [(0,RN a n g m x t k p r q ln co)],_,hA,rfl,hx.1,hx.2,?_,AB.refl _⟩
      have hw:=Aj5 (Bc [(0,RN a n g m x t k p r q ln co)]) a n g m x t k p r q ln co (Fn _ _) hf n1 n2 n3 n4 n5 hc
      rw [hv] at hw
      exact hw
    | true =>
      rw [hs] at h
      have hc:ieq (Bu a n g m x t k p r q ln co) 0 = true:=by unfold Bu; rw [hs]; rfl
      have:=Ac h
      simp only [noI,Prod.mk.injEq] at this
      obtain ⟨rfl,rfl⟩:=this
      have h8':q * 8 <= 140737488355328:=of_decide_eq_true h8
      have hrun:=fun L j=>Aci L a n g m x t k p r q ln co h8' q 0 j (q+1) (by omega) (by omega)
      refine ⟨_,AR Gl We [(0,RN a n g m x t k p r q ln co)],_,hA,rfl,hx.1,hx.2,A6 (Ax hL hL) _ (Aj4 _ _ a n g m x t k p r q ln co q (Aj (fun _=>true) q) (DE (fun _=>true) (fun i=>ofNat (ln i)) q) (Fn _ _) hf n1 n2 n3 n4 n5 hc (Ak (hrun _ _))),?_⟩
      rw [K2]
      exact AB.one fun i hi=>(Ww (fun i=>ofNat (ln i)) i hi).symm
  · cases h
end Go.Proofs.Ytjhnfomefcngfaa.Sh
