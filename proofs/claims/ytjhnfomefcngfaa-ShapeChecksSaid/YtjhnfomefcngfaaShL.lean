/-
  Layer 7: a shape's threads, its last values, the locations that are asked for: the program's, the document's. No conditions.
-/
import Derived.Test.YtjhnfomefcngfaaShK
namespace Go.Proofs.Ytjhnfomefcngfaa.Sh
open Go.Sy Ed
open Int (ofNat)
set_option maxHeartbeats 1000000
set_option maxRecDepth 4000
def BD (P:Nat->Bool) (v:Nat->Int):Nat->Nat->V
  | 0=>fun _=>.und
  | b+1=>bif P b then AO (Ak P b) (BD P v b) (iV (v b)) else BD P v b
theorem Hm {P:Nat->Bool} {v:Nat->Int} {b:Nat} (h:P b = true):BD P v (b+1) = AO (Ak P b) (BD P v b) (iV (v b)):=by rw [BD,h]; rfl
theorem Ke {P:Nat->Bool} {v:Nat->Int} {b:Nat} (h:P b = false):BD P v (b+1) = BD P v b:=by rw [BD,h]; rfl
def Dg (P:Nat->Bool) (n m:Nat):Nat:=F4 (fun i=>P i && decide (Ak P i = m)) n
theorem U3 {P:Nat->Bool} {n i:Nat} (hi:i < n) (h:P i = true):Dg P n (Ak P i) = i:=Kl hi (by simp [h]) fun k hk=>by
  cases hp:P k with
  | false=>rfl
  | true =>
    have h1:=Bg hp
    have h2:=Bb P (show k+1 <= i by omega)
    simp
    omega
theorem KS {P:Nat->Bool}:∀ {n m:Nat},m < Ak P n->Dg P n m < n ∧ P (Dg P n m) = true ∧ Ak P (Dg P n m) = m
  | 0,m,h=>by simp [Ak] at h
  | n+1,m,h=>by
    have:∃ i,i < n+1 ∧ P i = true ∧ Ak P i = m:=by
      cases hp:P n with
      | true =>
        rw [Bg hp] at h
        by_cases hm:m = Ak P n
        · exact ⟨n,by omega,hp,hm.symm⟩
        · obtain ⟨a,b,c⟩:=KS (P:=P) (n:=n) (m:=m) (by omega)
          exact ⟨_,by omega,b,c⟩
      | false =>
        rw [Bv hp] at h
        obtain ⟨a,b,c⟩:=KS (n:=n) (m:=m) h
        exact ⟨_,by omega,b,c⟩
    obtain ⟨i,h1,h2,h3⟩:=this
    rw [<- h3,U3 h1 h2]
    exact ⟨h1,h2,rfl⟩
theorem Ii (P:Nat->Bool) (v:Nat->Int) {n:Nat}:∀ m,m < Ak P n->BD P v n m = iV (v (Dg P n m)):=by
  have key:∀ b,b <= n->∀ i,i < b->P i = true->BD P v b (Ak P i) = iV (v i):=fun b=>by
    induction b with
    | zero=>intro _ i hi; omega
    | succ b ih =>
      intro hb i hi hp
      cases hpb:P b with
      | true =>
        rw [Hm hpb,B4]
        by_cases he:i = b
        · rw [he,Nat.beq_refl]; rfl
        · have h1:=Bg hp
          have h2:=Bb P (show i+1 <= b by omega)
          rw [nbeq_ne (by omega)]
          exact ih (by omega) i (by omega) hp
      | false =>
        have he:i ≠ b:=fun he=>by rw [he,hpb] at hp; cases hp
        rw [Ke hpb]
        exact ih (by omega) i (by omega) hp
  intro m hm
  obtain ⟨h1,h2,h3⟩:=KS hm
  have:=key n (Nat.le_refl _) _ h1 h2
  rw [h3] at this
  exact this
theorem I1:∀ n,Ak (fun _=>true) n = n
  | 0=>rfl
  | n+1=>by rw [Bg rfl,I1 n]
theorem OX (v:Nat->Int) {n:Nat} (m:Nat) (h:m < n):BD (fun _=>true) v n m = iV (v m):=by
  have h1:=Ii (fun _=>true) v (n:=n) m (by rw [I1]; exact h)
  have h2:=U3 (P:=fun _=>true) h rfl
  rw [I1] at h2
  rw [h1,h2]
def A9 (a:Int) (n:Nat) (g:Nat->E6) (m:Nat) (x:Nat->Ev5) (t k:Int) (p:Nat) (r:Nat->Int) (q:Nat) (ln:Nat->Nat) (co:Nat->Nat->Int):Int:=sel (BV ⟨a,n,g,m,x,t,k,p,r,q,fun u=>(ln u,co u)⟩) 0 70
def Gi:List V->T (V × List Blk)
  | [v]=>apS v fun s=>.br (AL s.ne) (.br (Dx s) (.leaf (iV (A9 s.arch s.ne s.E s.nx s.X s.tt s.kk s.nr s.R s.nc (fun i=>(s.C i).1) (fun i=>(s.C i).2)),[])) .fail) .fail
  | _=>.fail
theorem Af1:AB Try.prog Gl 25 Gi:=p25
theorem Af0:AB Try.prog Gl 39 Gi:=p39
def noI (e:Int):V × List Blk:=(.tup [.ref 0,iV e],[.row 3 1 0 fun _=>.und])
def ID:List V->T (V × List Blk)
  | [v,.val (.int .i64 z)]=>apS v fun s=>.br (AL s.ne) (.br (BL s.nx) (.br (Dx s) (.br (BV s) (.br (bor (ilt z 0) (ile s.tt z)) (.leaf (noI 4))
      (.leaf (.tup [.ref 0,iV 0],[.row 3 1 (Ak (fun i=>ieq (s.X i).th z) s.nx) fun k=>iV (ofNat (Dg (fun i=>ieq (s.X i).th z) s.nx k))]))) (.leaf (noI 70))) .fail) .fail) .fail
  | _=>.fail
def Po:List V->T (V × List Blk)
  | [v]=>apS v fun s=>.br (AL s.ne) (.br (BL s.nc) (.br (Dx s) (.br (BV s) (.leaf (.tup [.ref 0,iV 0],[.row 3 1 s.nc fun k=>iV (ofNat (s.C k).1)])) (.leaf (noI 70))) .fail) .fail) .fail
  | _=>.fail
def L7:List V->T (V × List Blk)
  | [v]=>apS v fun s=>.br (AL s.ne) (.br (BL s.nc) (.br (Dx s) (.br (BV s) (.leaf (.tup [.ref 0,iV 0],[.row 3 1 (Ak (fun k=>ieq (ofNat (s.C k).1) 2) s.nc) fun k=>iV (ofNat (Dg (fun k=>ieq (ofNat (s.C k).1) 2) s.nc k))])) (.leaf (noI 70))) .fail) .fail) .fail
  | _=>.fail
noncomputable def O5:List (Nat × (List V->T (V × List Blk))):=[(25,Gi)]
theorem Aah:AC Try.prog Gl O5:=.cons Af1 .nil
def N4 (_:Int) (_:Nat) (_:Nat->E6) (m:Nat) (_:Nat->Ev5) (_ _:Int) (_:Nat) (_:Nat->Int) (_:Nat) (_:Nat->Nat) (_:Nat->Nat->Int) (_:Int):Lp:=⟨(bmK 41 0 [1,7,24,25,26]),3,bmK 41 0 [7],3,m+1⟩
def Wd (a:Int) (n:Nat) (g:Nat->E6) (m:Nat) (x:Nat->Ev5) (t k:Int) (p:Nat) (r:Nat->Int) (q:Nat) (ln:Nat->Nat) (co:Nat->Nat->Int) (z:Int) (b c:Nat) (y:Nat->V) (j:Nat->V):St:=⟨(jsV 41 0 j [(1,iV z),(7,.ref 2),(24,.sl 5 m (fun i=>evV (x i))),(25,nV m),(26,nV b)]),[.cells (shL a n g m x t k p r q ln co),r3Z,.row 3 1 c y]⟩
def V8 (a:Int) (n:Nat) (g:Nat->E6) (m:Nat) (x:Nat->Ev5) (t k:Int) (p:Nat) (r:Nat->Int) (q:Nat) (ln:Nat->Nat) (co:Nat->Nat->Int) (_:Int) (_ c:Nat) (y:Nat->V):Ex × St:=(.ex 0,⟨(jsV 41 0 (fun _=>.und) [(7,.ref 2)]),[.cells (shL a n g m x t k p r q ln co),r3Z,.row 3 1 c y]⟩)
noncomputable def L3 (L:LT):St->T (Ex × St):=fun st=>AE tab ⟨Ao O5,L,Gl⟩ (Az Try.f26 0) 0 st
section
variable (L:LT) (a:Int) (n:Nat) (g:Nat->E6) (m:Nat) (x:Nat->Ev5) (t k:Int) (p:Nat) (r:Nat->Int) (q:Nat) (ln:Nat->Nat) (co:Nat->Nat->Int) (z:Int) (b c:Nat) (y:Nat->V)  (j:Nat->V)
include L a n g m x t k p r q ln co z b c y j
theorem Akr (h0:ilt (ofNat b) (ofNat m) = false):Al (L3 L) (N4 a n g m x t k p r q ln co z) (Wd a n g m x t k p r q ln co z b c y j) = some ((.ex 0),⟨(jsV 41 0 (fun _=>.und) [(7,(.ref 2))]),[.cells (shL a n g m x t k p r q ln co),r3Z,.row 3 1 c y]⟩):=Aa [false] [ilt (ofNat b) (ofNat m)] (by kernel_rfl) (by simp only [h0] <;> rfl)
theorem Akp (h0:ilt (ofNat b) (ofNat m) = true) (h18:ile 0 (ofNat b) = true) (h1:ieq ((x b)).th z = true) (h19:AN c 1 8 = true):Al (L3 L) (N4 a n g m x t k p r q ln co z) (Wd a n g m x t k p r q ln co z b c y j) = some (.nm,⟨(jsV 41 0 (fun _=>.und) [(1,(iV z)),(7,(.ref 2)),(24,(.sl 5 m (fun i=>evV (x i)))),(25,(nV m)),(26,(iV (wr .i64 (Af (ofNat b) 1))))]),[.cells (shL a n g m x t k p r q ln co),r3Z,.row 3 1 (Bj c 1) (AO c y (nV b))]⟩):=Aa [true,true,true,true] [ilt (ofNat b) (ofNat m),Ag (ile 0 (ofNat b)) (ilt (ofNat b) (ofNat m)),ieq ((x b)).th z,AN c 1 8] (by kernel_rfl) (by simp only [*] <;> rfl)
theorem Akq (h0:ilt (ofNat b) (ofNat m) = true) (h18:ile 0 (ofNat b) = true) (h1:ieq ((x b)).th z = false):Al (L3 L) (N4 a n g m x t k p r q ln co z) (Wd a n g m x t k p r q ln co z b c y j) = some (.nm,⟨(jsV 41 0 (fun _=>.und) [(1,(iV z)),(7,(.ref 2)),(24,(.sl 5 m (fun i=>evV (x i)))),(25,(nV m)),(26,(iV (wr .i64 (Af (ofNat b) 1))))]),[.cells (shL a n g m x t k p r q ln co),r3Z,.row 3 1 c y]⟩):=Aa [true,true,false] [ilt (ofNat b) (ofNat m),Ag (ile 0 (ofNat b)) (ilt (ofNat b) (ofNat m)),ieq ((x b)).th z] (by kernel_rfl) (by simp only [*] <;> rfl)
end
def Ai5 (a:Int) (n:Nat) (g:Nat->E6) (m:Nat) (x:Nat->Ev5) (t k:Int) (p:Nat) (r:Nat->Int) (q:Nat) (ln:Nat->Nat) (co:Nat->Nat->Int) (z:Int) :Nat->V:=lkV A8 [(0,(.agg (shL a n g m x t k p r q ln co))),(2,(.ptr 0 0)),(4,(.ref 1)),(5,(iV 0)),(6,(iV (A9 a n g m x t k p r q ln (fun i i_1=>co i i_1)))),(10,(.agg (shL a n g m x t k p r q ln co))),(11,(iV (A9 a n g m x t k p r q ln (fun i i_1=>co i i_1)))),(12,(iV (A9 a n g m x t k p r q ln (fun i i_1=>co i i_1)))),(13,(bV (Am (ieq (A9 a n g m x t k p r q ln (fun i i_1=>co i i_1)) 0)))),(15,(iV z)),(16,(bV (ilt z 0))),(17,(bV (ilt z 0))),(18,(iV z)),(19,(.ptr 0 3)),(20,(iV t)),(21,(bV (ile t z))),(22,(bV (ile t z))),(23,(.ptr 0 2))]
section
variable (L:LT) (a:Int) (n:Nat) (g:Nat->E6) (m:Nat) (x:Nat->Ev5) (t k:Int) (p:Nat) (r:Nat->Int) (q:Nat) (ln:Nat->Nat) (co:Nat->Nat->Int) (z:Int)
include L a n g m x t k p r q ln co z
theorem AjE (h17:Ai q (fun i=>Ai (ln i) (fun _=>true)) = true) (h18:AL n = true) (h19:Ab n = true) (h20:Ab m = true) (h21:Ab p = true) (h22:Ab q = true) (h23:Ai q (fun i=>Ab (ln i)) = true) (h0:ieq (A9 a n g m x t k p r q ln (fun i i_1=>co i i_1)) 0 = false):(As (Aj tab ⟨Ao O5,L,Gl⟩ Try.f26 [.agg (shL a n g m x t k p r q ln co),iV z] [])).sem = some ((.tup [.ref 0,iV (A9 a n g m x t k p r q ln (fun i i_1=>co i i_1))]),[r3Z]):=Aa (bbK 7 127) [Ai n (fun _=>true),Ai m (fun _=>true),Ai p (fun _=>true),Ai q (fun i=>Ai (ln i) (fun _=>true)),AL n,Ag (Ab n) (Ag (Ab m) (Ag (Ab p) (Ag (Ab q) (Ai q (fun i=>Ab (ln i)))))),Am (ieq (A9 a n g m x t k p r q ln (fun i i_1=>co i i_1)) 0)] (by kernel_rfl) (by simp only [*,Ar] <;> rfl)
theorem AjC (h18:Ai q (fun i=>Ai (ln i) (fun _=>true)) = true) (h19:AL n = true) (h20:Ab n = true) (h21:Ab m = true) (h22:Ab p = true) (h23:Ab q = true) (h24:Ai q (fun i=>Ab (ln i)) = true) (h0:ieq (A9 a n g m x t k p r q ln (fun i i_1=>co i i_1)) 0 = true) (h1:ilt z 0 = true):(As (Aj tab ⟨Ao O5,L,Gl⟩ Try.f26 [.agg (shL a n g m x t k p r q ln co),iV z] [])).sem = some ((.tup [.ref 0,iV 4]),[r3Z]):=Aa (bbK 13 8127) [Ai n (fun _=>true),Ai m (fun _=>true),Ai p (fun _=>true),Ai q (fun i=>Ai (ln i) (fun _=>true)),AL n,Ag (Ab n) (Ag (Ab m) (Ag (Ab p) (Ag (Ab q) (Ai q (fun i=>Ab (ln i)))))),Am (ieq (A9 a n g m x t k p r q ln (fun i i_1=>co i i_1)) 0),ilt z 0,ilt z 0,ilt z 0,ilt z 0,ilt z 0,true] (by kernel_rfl) (by simp only [*,Ar] <;> rfl)
theorem AjD (h19:Ai q (fun i=>Ai (ln i) (fun _=>true)) = true) (h20:AL n = true) (h21:Ab n = true) (h22:Ab m = true) (h23:Ab p = true) (h24:Ab q = true) (h25:Ai q (fun i=>Ab (ln i)) = true) (h0:ieq (A9 a n g m x t k p r q ln (fun i i_1=>co i i_1)) 0 = true) (h1:ilt z 0 = false) (h2:ile t z = true):(As (Aj tab ⟨Ao O5,L,Gl⟩ Try.f26 [.agg (shL a n g m x t k p r q ln co),iV z] [])).sem = some ((.tup [.ref 0,iV 4]),[r3Z]):=Aa (bbK 13 4159) [Ai n (fun _=>true),Ai m (fun _=>true),Ai p (fun _=>true),Ai q (fun i=>Ai (ln i) (fun _=>true)),AL n,Ag (Ab n) (Ag (Ab m) (Ag (Ab p) (Ag (Ab q) (Ai q (fun i=>Ab (ln i)))))),Am (ieq (A9 a n g m x t k p r q ln (fun i i_1=>co i i_1)) 0),ilt z 0,ilt z 0,ilt z 0,ilt z 0,ilt z 0,ile t z] (by kernel_rfl) (by simp only [*,Ar] <;> rfl)
end
theorem AjB (L:LT) (p0:PT) (a:Int) (n:Nat) (g:Nat->E6) (m:Nat) (x:Nat->Ev5) (t k:Int) (p:Nat) (r:Nat->Int) (q:Nat) (ln:Nat->Nat) (co:Nat->Nat->Int) (z:Int) (b c:Nat) (y:Nat->V) (h19:Ai q (fun i=>Ai (ln i) (fun _=>true)) = true) (h20:AL n = true) (h21:Ab n = true) (h22:Ab m = true) (h23:Ab p = true) (h24:Ab q = true) (h25:Ai q (fun i=>Ab (ln i)) = true) (h0:ieq (A9 a n g m x t k p r q ln (fun i i_1=>co i i_1)) 0 = true) (h1:ilt z 0 = false) (h2:ile t z = false) (hp0:p0 (L3 (onP 0 p0 (V8 a n g m x t k p r q ln co z b c y) L)) (Wd a n g m x t k p r q ln co z 0 0 (fun _=>.und) (Ai5 a n g m x t k p r q ln co z )) = true):(As (Aj tab ⟨Ao O5,onP 0 p0 (V8 a n g m x t k p r q ln co z b c y) L,Gl⟩ Try.f26 [.agg (shL a n g m x t k p r q ln co),iV z] [])).sem = some ((.tup [.ref 0,iV 0]),[.row 3 1 c y]):=Aa (bbK 14 8255) [Ai n (fun _=>true),Ai m (fun _=>true),Ai p (fun _=>true),Ai q (fun i=>Ai (ln i) (fun _=>true)),AL n,Ag (Ab n) (Ag (Ab m) (Ag (Ab p) (Ag (Ab q) (Ai q (fun i=>Ab (ln i)))))),Am (ieq (A9 a n g m x t k p r q ln (fun i i_1=>co i i_1)) 0),ilt z 0,ilt z 0,ilt z 0,ilt z 0,ilt z 0,ile t z,p0 (L3 (onP 0 p0 (V8 a n g m x t k p r q ln co z b c y) L)) (Wd a n g m x t k p r q ln co z 0 0 (fun _=>.und) (Ai5 a n g m x t k p r q ln co z ))] (by kernel_rfl) (by simp only [hp0] <;> simp only [*,Ar] <;> rfl)
theorem Acd (L:LT) (a:Int) (n:Nat) (g:Nat->E6) (m:Nat) (x:Nat->Ev5) (t k:Int) (p:Nat) (r:Nat->Int) (q:Nat) (ln:Nat->Nat) (co:Nat->Nat->Int) (z:Int) (h8:m * 8 <= 140737488355328):∀ (e b:Nat) (j:Nat->V) (u:Nat),m = b+e->e < u ->
    (A7 (L3 L) (N4 a n g m x t k p r q ln co z) u (Wd a n g m x t k p r q ln co z b (Ak (fun i=>ieq (x i).th z) b) (BD (fun i=>ieq (x i).th z) (fun i=>ofNat i) b) j)).sem = some (V8 a n g m x t k p r q ln co z m (Ak (fun i=>ieq (x i).th z) m) (BD (fun i=>ieq (x i).th z) (fun i=>ofNat i) m))
  | 0,b,j,u+1,h,_=>by
    have:m = b:=by omega
    subst this
    exact Ac (Akr L a n g m x t k p r q ln co z m _ _ j (AA (Nat.le_refl _)))
  | e+1,b,j,u+1,h,h2=>by
    have hl:b < m:=by omega
    have hcl:=Be (fun i=>ieq (x i).th z) b
    have next:=Acd L a n g m x t k p r q ln co z h8 e (b+1) (fun _=>.und) u (by omega) (by omega)
    cases hp:(fun i=>ieq (x i).th z) b with
    | true =>
      rw [Ac (Akp L a n g m x t k p r q ln co z b (Ak (fun i=>ieq (x i).th z) b) (BD (fun i=>ieq (x i).th z) (fun i=>ofNat i) b) j (ofNat_lt hl) (AH b) hp (C6 (by omega))),Av,Aq hl (by omega)]
      rw [Hm hp,Bg hp] at next
      exact next
    | false=>
      rw [Ac (Akq L a n g m x t k p r q ln co z b (Ak (fun i=>ieq (x i).th z) b) (BD (fun i=>ieq (x i).th z) (fun i=>ofNat i) b) j (ofNat_lt hl) (AH b) hp),Av,Aq hl (by omega)]
      rw [Ke hp,Bv hp] at next
      exact next
theorem p26:AB Try.prog Gl 26 ID:=by
  refine A1 AQ AR Try.func26 (by kernel_rfl) (by kernel_rfl) fun vs v h' h=>?_
  unfold ID at h
  split at h
  · rename_i v1 z
    obtain ⟨s,a1,h⟩:=Ci h
    obtain ⟨hf,h⟩:=Ah h
    obtain ⟨h8,h⟩:=Ah h
    obtain ⟨hn,h⟩:=Ah h
    obtain ⟨a,n,g,m,x,t,k,p,r,q,C⟩:=s
    have hA:Bw [v1,iV z] [.agg [iV a,.sl 6 n (fun i=>eV (g i)),.sl 5 m (fun i=>evV (x i)),iV t,iV k,.sl 1 p (fun i=>iV (r i)),.sl 1 q (fun u=>.sl 1 (C u).1 (fun i=>iV ((C u).2 i)))],iV z]:=fun S w cs hv=>by
      obtain ⟨c,l,rfl,q1,q2⟩:=hv
      exact ⟨c,_,rfl,a1 S w c q1,q2⟩
    have hn:Ab n = true ∧ Ab m = true ∧ Ab p = true ∧ Ab q = true ∧ (Ai q fun i=>Ab (C i).1) = true:=by simpa [Dx,Ag] using hn
    obtain ⟨n1,n2,n3,n4,n5⟩:=hn
    have Cs:∀ (q:Nat) (ln:Nat->Nat),(Ai q fun i=>Ai (ln i) fun _=>true) = true:=fun _ _=>A4.2 fun _ _=>A4.2 fun _ _=>rfl
    obtain ⟨ln,co,hC⟩:∃ (ln:Nat->Nat) (co:Nat->Nat->Int),C = fun u=>(ln u,co u):=⟨fun u=>(C u).1,fun u=>(C u).2,rfl⟩
    subst hC
    have hx:=AP Aah [(0,N4 a n g m x t k p r q ln co z)] (G:=Gl)
    have hL:=AD [(0,N4 a n g m x t k p r q ln co z)]
    cases hs:BV ⟨a,n,g,m,x,t,k,p,r,q,fun u=>(ln u,co u)⟩ with
    | false =>
      rw [hs] at h
      have:=Ad h
      simp only [noI,Prod.mk.injEq] at this
      obtain ⟨rfl,rfl⟩:=this
      have hc:ieq (A9 a n g m x t k p r q ln co) 0 = false:=by unfold A9; rw [hs]; rfl
      have hv:A9 a n g m x t k p r q ln co = 70:=by unfold A9; rw [hs]; rfl
      refine ⟨_,AI Gl O5 [(0,N4 a n g m x t k p r q ln co z)],_,hA,rfl,hx.1,hx.2,?_,A6.refl _⟩
      have hw:=AjE (Bk [(0,N4 a n g m x t k p r q ln co z)]) a n g m x t k p r q ln co z (Cs _ _) hf n1 n2 n3 n4 n5 hc
      rw [hv] at hw
      exact hw
    | true =>
      rw [hs] at h
      have hc:ieq (A9 a n g m x t k p r q ln co) 0 = true:=by unfold A9; rw [hs]; rfl
      cases hz:ilt z 0 with
      | true =>
        rw [show bor (ilt z 0) (ile t z) = true by rw [hz]; rfl] at h
        have:=Ad h
        simp only [noI,Prod.mk.injEq] at this
        obtain ⟨rfl,rfl⟩:=this
        exact ⟨_,AI Gl O5 [(0,N4 a n g m x t k p r q ln co z)],_,hA,rfl,hx.1,hx.2,AjC _ a n g m x t k p r q ln co z (Cs _ _) hf n1 n2 n3 n4 n5 hc hz,A6.refl _⟩
      | false =>
      cases hg:ile t z with
      | true =>
        rw [show bor (ilt z 0) (ile t z) = true by rw [hz,hg]; rfl] at h
        have:=Ad h
        simp only [noI,Prod.mk.injEq] at this
        obtain ⟨rfl,rfl⟩:=this
        exact ⟨_,AI Gl O5 [(0,N4 a n g m x t k p r q ln co z)],_,hA,rfl,hx.1,hx.2,AjD _ a n g m x t k p r q ln co z (Cs _ _) hf n1 n2 n3 n4 n5 hc hz hg,A6.refl _⟩
      | false =>
      rw [show bor (ilt z 0) (ile t z) = false by rw [hz,hg]; rfl] at h
      have:=Ad h
      simp only [noI,Prod.mk.injEq] at this
      obtain ⟨rfl,rfl⟩:=this
      have h8':m * 8 <= 140737488355328:=of_decide_eq_true h8
      have hrun:=fun L j=>Acd L a n g m x t k p r q ln co z h8' m 0 j (m+1) (by omega) (by omega)
      refine ⟨_,AI Gl O5 [(0,N4 a n g m x t k p r q ln co z)],_,hA,rfl,hx.1,hx.2,A3 (Aw hL hL) _ (AjB _ _ a n g m x t k p r q ln co z m (Ak (fun i=>ieq (x i).th z) m) (BD (fun i=>ieq (x i).th z) (fun i=>ofNat i) m) (Cs _ _) hf n1 n2 n3 n4 n5 hc hz hg (An (hrun _ _))),?_⟩
      exact A6.one fun i hi=>(Ii _ _ i hi).symm
  · cases h
noncomputable def O4:List (Nat × (List V->T (V × List Blk))):=[(39,Gi)]
theorem Aac:AC Try.prog Gl O4:=.cons Af0 .nil
def lp36 (_:Int) (_:Nat) (_:Nat->E6) (m:Nat) (_:Nat->Ev5) (_ _:Int) (_:Nat) (_:Nat->Int) (_:Nat) (_:Nat->Nat) (_:Nat->Nat->Int) (_:Int):Lp:=⟨(bmK 39 0 [1,2,6,7]),3,bmK 39 0 [6],3,m+1⟩
def st36 (a:Int) (n:Nat) (g:Nat->E6) (m:Nat) (x:Nat->Ev5) (t k:Int) (p:Nat) (r:Nat->Int) (q:Nat) (ln:Nat->Nat) (co:Nat->Nat->Int) (z:Int) (b c:Nat) (y:Nat->V) (j:Nat->V):St:=⟨(jsV 39 0 j [(1,iV z),(2,.ptr 0 0),(6,.ref 2),(7,nV b)]),[.cells (shL a n g m x t k p r q ln co),r3Z,.row 3 1 c y]⟩
def V3 (a:Int) (n:Nat) (g:Nat->E6) (m:Nat) (x:Nat->Ev5) (t k:Int) (p:Nat) (r:Nat->Int) (q:Nat) (ln:Nat->Nat) (co:Nat->Nat->Int) (_:Int) (_ c:Nat) (y:Nat->V):Ex × St:=(.ex 0,⟨(jsV 39 0 (fun _=>.und) [(6,.ref 2)]),[.cells (shL a n g m x t k p r q ln co),r3Z,.row 3 1 c y]⟩)
noncomputable def body36 (L:LT):St->T (Ex × St):=fun st=>AE tab ⟨Ao O4,L,Gl⟩ (Az Try.f36 0) 0 st
section
variable (L:LT) (a:Int) (n:Nat) (g:Nat->E6) (m:Nat) (x:Nat->Ev5) (t k:Int) (p:Nat) (r:Nat->Int) (q:Nat) (ln:Nat->Nat) (co:Nat->Nat->Int) (z:Int) (b c:Nat) (y:Nat->V)  (j:Nat->V)
include L a n g m x t k p r q ln co z b c y j
theorem Ake (h0:ilt (ofNat b) (ofNat m) = false):Al (body36 L) (lp36 a n g m x t k p r q ln co z) (st36 a n g m x t k p r q ln co z b c y j) = some ((.ex 0),⟨(jsV 39 0 (fun _=>.und) [(6,(.ref 2))]),[.cells (shL a n g m x t k p r q ln co),r3Z,.row 3 1 c y]⟩):=Aa [false] [ilt (ofNat b) (ofNat m)] (by kernel_rfl) (by simp only [h0] <;> rfl)
theorem Akc (h0:ilt (ofNat b) (ofNat m) = true) (h18:ile 0 (ofNat b) = true) (h1:ieq ((x b)).th z = true) (h19:AN c 1 8 = true):Al (body36 L) (lp36 a n g m x t k p r q ln co z) (st36 a n g m x t k p r q ln co z b c y j) = some (.nm,⟨(jsV 39 0 (fun _=>.und) [(1,(iV z)),(2,(.ptr 0 0)),(6,(.ref 2)),(7,(iV (wr .i64 (Af (ofNat b) 1))))]),[.cells (shL a n g m x t k p r q ln co),r3Z,.row 3 1 (Bj c 1) (AO c y (nV b))]⟩):=Aa [true,true,true,true] [ilt (ofNat b) (ofNat m),Ag (ile 0 (ofNat b)) (ilt (ofNat b) (ofNat m)),ieq ((x b)).th z,AN c 1 8] (by kernel_rfl) (by simp only [*] <;> rfl)
theorem Akd (h0:ilt (ofNat b) (ofNat m) = true) (h18:ile 0 (ofNat b) = true) (h1:ieq ((x b)).th z = false):Al (body36 L) (lp36 a n g m x t k p r q ln co z) (st36 a n g m x t k p r q ln co z b c y j) = some (.nm,⟨(jsV 39 0 (fun _=>.und) [(1,(iV z)),(2,(.ptr 0 0)),(6,(.ref 2)),(7,(iV (wr .i64 (Af (ofNat b) 1))))]),[.cells (shL a n g m x t k p r q ln co),r3Z,.row 3 1 c y]⟩):=Aa [true,true,false] [ilt (ofNat b) (ofNat m),Ag (ile 0 (ofNat b)) (ilt (ofNat b) (ofNat m)),ieq ((x b)).th z] (by kernel_rfl) (by simp only [*] <;> rfl)
end
def jk36 (a:Int) (n:Nat) (g:Nat->E6) (m:Nat) (x:Nat->Ev5) (t k:Int) (p:Nat) (r:Nat->Int) (q:Nat) (ln:Nat->Nat) (co:Nat->Nat->Int) (z:Int) :Nat->V:=lkV A8 [(0,(.agg (shL a n g m x t k p r q ln co))),(4,(.ref 1)),(5,(iV 0)),(8,(.agg (shL a n g m x t k p r q ln co))),(9,(iV (A9 a n g m x t k p r q ln (fun i i_1=>co i i_1)))),(10,(bV (Am (ieq (A9 a n g m x t k p r q ln (fun i i_1=>co i i_1)) 0)))),(11,(iV z)),(12,(bV (ilt z 0))),(13,(bV (ilt z 0))),(14,(iV z)),(15,(.ptr 0 3)),(16,(iV t)),(17,(bV (ile t z))),(18,(bV (ile t z)))]
section
variable (L:LT) (a:Int) (n:Nat) (g:Nat->E6) (m:Nat) (x:Nat->Ev5) (t k:Int) (p:Nat) (r:Nat->Int) (q:Nat) (ln:Nat->Nat) (co:Nat->Nat->Int) (z:Int)
include L a n g m x t k p r q ln co z
theorem Aj1 (h17:Ai q (fun i=>Ai (ln i) (fun _=>true)) = true) (h18:AL n = true) (h19:Ab n = true) (h20:Ab m = true) (h21:Ab p = true) (h22:Ab q = true) (h23:Ai q (fun i=>Ab (ln i)) = true) (h0:ieq (A9 a n g m x t k p r q ln (fun i i_1=>co i i_1)) 0 = false):(As (Aj tab ⟨Ao O4,L,Gl⟩ Try.f36 [.agg (shL a n g m x t k p r q ln co),iV z] [])).sem = some ((.tup [.ref 0,iV 70]),[r3Z]):=Aa (bbK 7 127) [Ai n (fun _=>true),Ai m (fun _=>true),Ai p (fun _=>true),Ai q (fun i=>Ai (ln i) (fun _=>true)),AL n,Ag (Ab n) (Ag (Ab m) (Ag (Ab p) (Ag (Ab q) (Ai q (fun i=>Ab (ln i)))))),Am (ieq (A9 a n g m x t k p r q ln (fun i i_1=>co i i_1)) 0)] (by kernel_rfl) (by simp only [*,Ar] <;> rfl)
theorem Ajz (h18:Ai q (fun i=>Ai (ln i) (fun _=>true)) = true) (h19:AL n = true) (h20:Ab n = true) (h21:Ab m = true) (h22:Ab p = true) (h23:Ab q = true) (h24:Ai q (fun i=>Ab (ln i)) = true) (h0:ieq (A9 a n g m x t k p r q ln (fun i i_1=>co i i_1)) 0 = true) (h1:ilt z 0 = true):(As (Aj tab ⟨Ao O4,L,Gl⟩ Try.f36 [.agg (shL a n g m x t k p r q ln co),iV z] [])).sem = some ((.tup [.ref 0,iV 4]),[r3Z]):=Aa (bbK 13 8127) [Ai n (fun _=>true),Ai m (fun _=>true),Ai p (fun _=>true),Ai q (fun i=>Ai (ln i) (fun _=>true)),AL n,Ag (Ab n) (Ag (Ab m) (Ag (Ab p) (Ag (Ab q) (Ai q (fun i=>Ab (ln i)))))),Am (ieq (A9 a n g m x t k p r q ln (fun i i_1=>co i i_1)) 0),ilt z 0,ilt z 0,ilt z 0,ilt z 0,ilt z 0,true] (by kernel_rfl) (by simp only [*,Ar] <;> rfl)
theorem Aj0 (h19:Ai q (fun i=>Ai (ln i) (fun _=>true)) = true) (h20:AL n = true) (h21:Ab n = true) (h22:Ab m = true) (h23:Ab p = true) (h24:Ab q = true) (h25:Ai q (fun i=>Ab (ln i)) = true) (h0:ieq (A9 a n g m x t k p r q ln (fun i i_1=>co i i_1)) 0 = true) (h1:ilt z 0 = false) (h2:ile t z = true):(As (Aj tab ⟨Ao O4,L,Gl⟩ Try.f36 [.agg (shL a n g m x t k p r q ln co),iV z] [])).sem = some ((.tup [.ref 0,iV 4]),[r3Z]):=Aa (bbK 13 4159) [Ai n (fun _=>true),Ai m (fun _=>true),Ai p (fun _=>true),Ai q (fun i=>Ai (ln i) (fun _=>true)),AL n,Ag (Ab n) (Ag (Ab m) (Ag (Ab p) (Ag (Ab q) (Ai q (fun i=>Ab (ln i)))))),Am (ieq (A9 a n g m x t k p r q ln (fun i i_1=>co i i_1)) 0),ilt z 0,ilt z 0,ilt z 0,ilt z 0,ilt z 0,ile t z] (by kernel_rfl) (by simp only [*,Ar] <;> rfl)
end
theorem Ajy (L:LT) (p0:PT) (a:Int) (n:Nat) (g:Nat->E6) (m:Nat) (x:Nat->Ev5) (t k:Int) (p:Nat) (r:Nat->Int) (q:Nat) (ln:Nat->Nat) (co:Nat->Nat->Int) (z:Int) (b c:Nat) (y:Nat->V) (h19:Ai q (fun i=>Ai (ln i) (fun _=>true)) = true) (h20:AL n = true) (h21:Ab n = true) (h22:Ab m = true) (h23:Ab p = true) (h24:Ab q = true) (h25:Ai q (fun i=>Ab (ln i)) = true) (h0:ieq (A9 a n g m x t k p r q ln (fun i i_1=>co i i_1)) 0 = true) (h1:ilt z 0 = false) (h2:ile t z = false) (hp0:p0 (body36 (onP 0 p0 (V3 a n g m x t k p r q ln co z b c y) L)) (st36 a n g m x t k p r q ln co z 0 0 (fun _=>.und) (jk36 a n g m x t k p r q ln co z )) = true):(As (Aj tab ⟨Ao O4,onP 0 p0 (V3 a n g m x t k p r q ln co z b c y) L,Gl⟩ Try.f36 [.agg (shL a n g m x t k p r q ln co),iV z] [])).sem = some ((.tup [.ref 0,iV 0]),[.row 3 1 c y]):=Aa (bbK 14 8255) [Ai n (fun _=>true),Ai m (fun _=>true),Ai p (fun _=>true),Ai q (fun i=>Ai (ln i) (fun _=>true)),AL n,Ag (Ab n) (Ag (Ab m) (Ag (Ab p) (Ag (Ab q) (Ai q (fun i=>Ab (ln i)))))),Am (ieq (A9 a n g m x t k p r q ln (fun i i_1=>co i i_1)) 0),ilt z 0,ilt z 0,ilt z 0,ilt z 0,ilt z 0,ile t z,p0 (body36 (onP 0 p0 (V3 a n g m x t k p r q ln co z b c y) L)) (st36 a n g m x t k p r q ln co z 0 0 (fun _=>.und) (jk36 a n g m x t k p r q ln co z ))] (by kernel_rfl) (by simp only [hp0] <;> simp only [*,Ar] <;> rfl)
theorem AbX (L:LT) (a:Int) (n:Nat) (g:Nat->E6) (m:Nat) (x:Nat->Ev5) (t k:Int) (p:Nat) (r:Nat->Int) (q:Nat) (ln:Nat->Nat) (co:Nat->Nat->Int) (z:Int) (h8:m * 8 <= 140737488355328):∀ (e b:Nat) (j:Nat->V) (u:Nat),m = b+e->e < u ->
    (A7 (body36 L) (lp36 a n g m x t k p r q ln co z) u (st36 a n g m x t k p r q ln co z b (Ak (fun i=>ieq (x i).th z) b) (BD (fun i=>ieq (x i).th z) (fun i=>ofNat i) b) j)).sem = some (V3 a n g m x t k p r q ln co z m (Ak (fun i=>ieq (x i).th z) m) (BD (fun i=>ieq (x i).th z) (fun i=>ofNat i) m))
  | 0,b,j,u+1,h,_=>by
    have:m = b:=by omega
    subst this
    exact Ac (Ake L a n g m x t k p r q ln co z m _ _ j (AA (Nat.le_refl _)))
  | e+1,b,j,u+1,h,h2=>by
    have hl:b < m:=by omega
    have hcl:=Be (fun i=>ieq (x i).th z) b
    have next:=AbX L a n g m x t k p r q ln co z h8 e (b+1) (fun _=>.und) u (by omega) (by omega)
    cases hp:(fun i=>ieq (x i).th z) b with
    | true =>
      rw [Ac (Akc L a n g m x t k p r q ln co z b (Ak (fun i=>ieq (x i).th z) b) (BD (fun i=>ieq (x i).th z) (fun i=>ofNat i) b) j (ofNat_lt hl) (AH b) hp (C6 (by omega))),Av,Aq hl (by omega)]
      rw [Hm hp,Bg hp] at next
      exact next
    | false=>
      rw [Ac (Akd L a n g m x t k p r q ln co z b (Ak (fun i=>ieq (x i).th z) b) (BD (fun i=>ieq (x i).th z) (fun i=>ofNat i) b) j (ofNat_lt hl) (AH b) hp),Av,Aq hl (by omega)]
      rw [Ke hp,Bv hp] at next
      exact next
theorem p36:AB Try.prog Gl 36 ID:=by
  refine A1 AQ AR Try.func36 (by kernel_rfl) (by kernel_rfl) fun vs v h' h=>?_
  unfold ID at h
  split at h
  · rename_i v1 z
    obtain ⟨s,a1,h⟩:=Ci h
    obtain ⟨hf,h⟩:=Ah h
    obtain ⟨h8,h⟩:=Ah h
    obtain ⟨hn,h⟩:=Ah h
    obtain ⟨a,n,g,m,x,t,k,p,r,q,C⟩:=s
    have hA:Bw [v1,iV z] [.agg [iV a,.sl 6 n (fun i=>eV (g i)),.sl 5 m (fun i=>evV (x i)),iV t,iV k,.sl 1 p (fun i=>iV (r i)),.sl 1 q (fun u=>.sl 1 (C u).1 (fun i=>iV ((C u).2 i)))],iV z]:=fun S w cs hv=>by
      obtain ⟨c,l,rfl,q1,q2⟩:=hv
      exact ⟨c,_,rfl,a1 S w c q1,q2⟩
    have hn:Ab n = true ∧ Ab m = true ∧ Ab p = true ∧ Ab q = true ∧ (Ai q fun i=>Ab (C i).1) = true:=by simpa [Dx,Ag] using hn
    obtain ⟨n1,n2,n3,n4,n5⟩:=hn
    have Cs:∀ (q:Nat) (ln:Nat->Nat),(Ai q fun i=>Ai (ln i) fun _=>true) = true:=fun _ _=>A4.2 fun _ _=>A4.2 fun _ _=>rfl
    obtain ⟨ln,co,hC⟩:∃ (ln:Nat->Nat) (co:Nat->Nat->Int),C = fun u=>(ln u,co u):=⟨fun u=>(C u).1,fun u=>(C u).2,rfl⟩
    subst hC
    have hx:=AP Aac [(0,lp36 a n g m x t k p r q ln co z)] (G:=Gl)
    have hL:=AD [(0,lp36 a n g m x t k p r q ln co z)]
    cases hs:BV ⟨a,n,g,m,x,t,k,p,r,q,fun u=>(ln u,co u)⟩ with
    | false =>
      rw [hs] at h
      have:=Ad h
      simp only [noI,Prod.mk.injEq] at this
      obtain ⟨rfl,rfl⟩:=this
      have hc:ieq (A9 a n g m x t k p r q ln co) 0 = false:=by unfold A9; rw [hs]; rfl
      have hv:A9 a n g m x t k p r q ln co = 70:=by unfold A9; rw [hs]; rfl
      refine ⟨_,AI Gl O4 [(0,lp36 a n g m x t k p r q ln co z)],_,hA,rfl,hx.1,hx.2,?_,A6.refl _⟩
      have hw:=Aj1 (Bk [(0,lp36 a n g m x t k p r q ln co z)]) a n g m x t k p r q ln co z (Cs _ _) hf n1 n2 n3 n4 n5 hc
      
      exact hw
    | true =>
      rw [hs] at h
      have hc:ieq (A9 a n g m x t k p r q ln co) 0 = true:=by unfold A9; rw [hs]; rfl
      cases hz:ilt z 0 with
      | true =>
        rw [show bor (ilt z 0) (ile t z) = true by rw [hz]; rfl] at h
        have:=Ad h
        simp only [noI,Prod.mk.injEq] at this
        obtain ⟨rfl,rfl⟩:=this
        exact ⟨_,AI Gl O4 [(0,lp36 a n g m x t k p r q ln co z)],_,hA,rfl,hx.1,hx.2,Ajz _ a n g m x t k p r q ln co z (Cs _ _) hf n1 n2 n3 n4 n5 hc hz,A6.refl _⟩
      | false =>
      cases hg:ile t z with
      | true =>
        rw [show bor (ilt z 0) (ile t z) = true by rw [hz,hg]; rfl] at h
        have:=Ad h
        simp only [noI,Prod.mk.injEq] at this
        obtain ⟨rfl,rfl⟩:=this
        exact ⟨_,AI Gl O4 [(0,lp36 a n g m x t k p r q ln co z)],_,hA,rfl,hx.1,hx.2,Aj0 _ a n g m x t k p r q ln co z (Cs _ _) hf n1 n2 n3 n4 n5 hc hz hg,A6.refl _⟩
      | false =>
      rw [show bor (ilt z 0) (ile t z) = false by rw [hz,hg]; rfl] at h
      have:=Ad h
      simp only [noI,Prod.mk.injEq] at this
      obtain ⟨rfl,rfl⟩:=this
      have h8':m * 8 <= 140737488355328:=of_decide_eq_true h8
      have hrun:=fun L j=>AbX L a n g m x t k p r q ln co z h8' m 0 j (m+1) (by omega) (by omega)
      refine ⟨_,AI Gl O4 [(0,lp36 a n g m x t k p r q ln co z)],_,hA,rfl,hx.1,hx.2,A3 (Aw hL hL) _ (Ajy _ _ a n g m x t k p r q ln co z m (Ak (fun i=>ieq (x i).th z) m) (BD (fun i=>ieq (x i).th z) (fun i=>ofNat i) m) (Cs _ _) hf n1 n2 n3 n4 n5 hc hz hg (An (hrun _ _))),?_⟩
      exact A6.one fun i hi=>(Ii _ _ i hi).symm
  · cases h
noncomputable def VY:List (Nat × (List V->T (V × List Blk))):=[(25,Gi)]
theorem Aag:AC Try.prog Gl VY:=.cons Af1 .nil
def RR (_:Int) (_:Nat) (_:Nat->E6) (_:Nat) (_:Nat->Ev5) (_ _:Int) (_:Nat) (_:Nat->Int) (q:Nat) (_:Nat->Nat) (_:Nat->Nat->Int):Lp:=⟨(bmK 27 0 [5,14,15,16]),3,bmK 27 0 [5],3,q+1⟩
def Xz (a:Int) (n:Nat) (g:Nat->E6) (m:Nat) (x:Nat->Ev5) (t k:Int) (p:Nat) (r:Nat->Int) (q:Nat) (ln:Nat->Nat) (co:Nat->Nat->Int) (b c:Nat) (y:Nat->V) (j:Nat->V):St:=⟨(jsV 27 0 j [(5,.ref 2),(14,.sl 1 q (fun u=>.sl 1 (ln u) (fun i=>iV (co u i)))),(15,nV q),(16,nV b)]),[.cells (shL a n g m x t k p r q ln co),r3Z,.row 3 1 c y]⟩
def V7 (a:Int) (n:Nat) (g:Nat->E6) (m:Nat) (x:Nat->Ev5) (t k:Int) (p:Nat) (r:Nat->Int) (q:Nat) (ln:Nat->Nat) (co:Nat->Nat->Int) (_ c:Nat) (y:Nat->V):Ex × St:=(.ex 0,⟨(jsV 27 0 (fun _=>.und) [(5,.ref 2)]),[.cells (shL a n g m x t k p r q ln co),r3Z,.row 3 1 c y]⟩)
noncomputable def On (L:LT):St->T (Ex × St):=fun st=>AE tab ⟨Ao VY,L,Gl⟩ (Az Try.f27 0) 0 st
section
variable (L:LT) (a:Int) (n:Nat) (g:Nat->E6) (m:Nat) (x:Nat->Ev5) (t k:Int) (p:Nat) (r:Nat->Int) (q:Nat) (ln:Nat->Nat) (co:Nat->Nat->Int) (b c:Nat) (y:Nat->V)  (j:Nat->V)
include L a n g m x t k p r q ln co b c y j
theorem Ako (h0:ilt (ofNat b) (ofNat q) = false):Al (On L) (RR a n g m x t k p r q ln co) (Xz a n g m x t k p r q ln co b c y j) = some ((.ex 0),⟨(jsV 27 0 (fun _=>.und) [(5,(.ref 2))]),[.cells (shL a n g m x t k p r q ln co),r3Z,.row 3 1 c y]⟩):=Aa [false] [ilt (ofNat b) (ofNat q)] (by kernel_rfl) (by simp only [h0] <;> rfl)
theorem Akn (h0:ilt (ofNat b) (ofNat q) = true) (h17:ile 0 (ofNat b) = true) (h18:AN c 1 8 = true):Al (On L) (RR a n g m x t k p r q ln co) (Xz a n g m x t k p r q ln co b c y j) = some (.nm,⟨(jsV 27 0 (fun _=>.und) [(5,(.ref 2)),(14,(.sl 1 q (fun u=>.sl 1 (ln u) (fun i=>iV (co u i))))),(15,(nV q)),(16,(iV (wr .i64 (Af (ofNat b) 1))))]),[.cells (shL a n g m x t k p r q ln co),r3Z,.row 3 1 (Bj c 1) (AO c y (iV (ofNat (ln b))))]⟩):=Aa [true,true,true] [ilt (ofNat b) (ofNat q),Ag (ile 0 (ofNat b)) (ilt (ofNat b) (ofNat q)),AN c 1 8] (by kernel_rfl) (by simp only [*] <;> rfl)
end
def Ai4 (a:Int) (n:Nat) (g:Nat->E6) (m:Nat) (x:Nat->Ev5) (t k:Int) (p:Nat) (r:Nat->Int) (q:Nat) (ln:Nat->Nat) (co:Nat->Nat->Int) :Nat->V:=lkV A8 [(0,(.agg (shL a n g m x t k p r q ln co))),(1,(.ptr 0 0)),(2,(.ref 1)),(3,(iV 0)),(4,(iV (A9 a n g m x t k p r q ln (fun i i_1=>co i i_1)))),(8,(.agg (shL a n g m x t k p r q ln co))),(9,(iV (A9 a n g m x t k p r q ln (fun i i_1=>co i i_1)))),(10,(iV (A9 a n g m x t k p r q ln (fun i i_1=>co i i_1)))),(11,(bV (Am (ieq (A9 a n g m x t k p r q ln (fun i i_1=>co i i_1)) 0)))),(13,(.ptr 0 6))]
theorem AjA (L:LT) (a:Int) (n:Nat) (g:Nat->E6) (m:Nat) (x:Nat->Ev5) (t k:Int) (p:Nat) (r:Nat->Int) (q:Nat) (ln:Nat->Nat) (co:Nat->Nat->Int) (h17:Ai q (fun i=>Ai (ln i) (fun _=>true)) = true) (h18:AL n = true) (h19:Ab n = true) (h20:Ab m = true) (h21:Ab p = true) (h22:Ab q = true) (h23:Ai q (fun i=>Ab (ln i)) = true) (h0:ieq (A9 a n g m x t k p r q ln (fun i i_1=>co i i_1)) 0 = false):(As (Aj tab ⟨Ao VY,L,Gl⟩ Try.f27 [.agg (shL a n g m x t k p r q ln co)] [])).sem = some ((.tup [.ref 0,iV (A9 a n g m x t k p r q ln (fun i i_1=>co i i_1))]),[r3Z]):=Aa (bbK 7 127) [Ai n (fun _=>true),Ai m (fun _=>true),Ai p (fun _=>true),Ai q (fun i=>Ai (ln i) (fun _=>true)),AL n,Ag (Ab n) (Ag (Ab m) (Ag (Ab p) (Ag (Ab q) (Ai q (fun i=>Ab (ln i)))))),Am (ieq (A9 a n g m x t k p r q ln (fun i i_1=>co i i_1)) 0)] (by kernel_rfl) (by simp only [*,Ar] <;> rfl)
theorem Aj9 (L:LT) (p0:PT) (a:Int) (n:Nat) (g:Nat->E6) (m:Nat) (x:Nat->Ev5) (t k:Int) (p:Nat) (r:Nat->Int) (q:Nat) (ln:Nat->Nat) (co:Nat->Nat->Int) (b c:Nat) (y:Nat->V) (h17:Ai q (fun i=>Ai (ln i) (fun _=>true)) = true) (h18:AL n = true) (h19:Ab n = true) (h20:Ab m = true) (h21:Ab p = true) (h22:Ab q = true) (h23:Ai q (fun i=>Ab (ln i)) = true) (h0:ieq (A9 a n g m x t k p r q ln (fun i i_1=>co i i_1)) 0 = true) (hp0:p0 (On (onP 0 p0 (V7 a n g m x t k p r q ln co b c y) L)) (Xz a n g m x t k p r q ln co 0 0 (fun _=>.und) (Ai4 a n g m x t k p r q ln co )) = true):(As (Aj tab ⟨Ao VY,onP 0 p0 (V7 a n g m x t k p r q ln co b c y) L,Gl⟩ Try.f27 [.agg (shL a n g m x t k p r q ln co)] [])).sem = some ((.tup [.ref 0,iV 0]),[.row 3 1 c y]):=Aa (bbK 8 191) [Ai n (fun _=>true),Ai m (fun _=>true),Ai p (fun _=>true),Ai q (fun i=>Ai (ln i) (fun _=>true)),AL n,Ag (Ab n) (Ag (Ab m) (Ag (Ab p) (Ag (Ab q) (Ai q (fun i=>Ab (ln i)))))),Am (ieq (A9 a n g m x t k p r q ln (fun i i_1=>co i i_1)) 0),p0 (On (onP 0 p0 (V7 a n g m x t k p r q ln co b c y) L)) (Xz a n g m x t k p r q ln co 0 0 (fun _=>.und) (Ai4 a n g m x t k p r q ln co ))] (by kernel_rfl) (by simp only [hp0] <;> simp only [*,Ar] <;> rfl)
theorem Acc (L:LT) (a:Int) (n:Nat) (g:Nat->E6) (m:Nat) (x:Nat->Ev5) (t k:Int) (p:Nat) (r:Nat->Int) (q:Nat) (ln:Nat->Nat) (co:Nat->Nat->Int) (h8:q * 8 <= 140737488355328):∀ (e b:Nat) (j:Nat->V) (u:Nat),q = b+e->e < u ->
    (A7 (On L) (RR a n g m x t k p r q ln co) u (Xz a n g m x t k p r q ln co b (Ak (fun _=>true) b) (BD (fun _=>true) (fun i=>ofNat (ln i)) b) j)).sem = some (V7 a n g m x t k p r q ln co q (Ak (fun _=>true) q) (BD (fun _=>true) (fun i=>ofNat (ln i)) q))
  | 0,b,j,u+1,h,_=>by
    have:q = b:=by omega
    subst this
    exact Ac (Ako L a n g m x t k p r q ln co q _ _ j (AA (Nat.le_refl _)))
  | e+1,b,j,u+1,h,h2=>by
    have hl:b < q:=by omega
    have hcl:=Be (fun _=>true) b
    have next:=Acc L a n g m x t k p r q ln co h8 e (b+1) (fun _=>.und) u (by omega) (by omega)
    cases hp:(fun _=>true) b with
    | true =>
      rw [Ac (Akn L a n g m x t k p r q ln co b (Ak (fun _=>true) b) (BD (fun _=>true) (fun i=>ofNat (ln i)) b) j (ofNat_lt hl) (AH b) (C6 (by omega))),Av,Aq hl (by omega)]
      rw [Hm hp,Bg hp] at next
      exact next
    | false=>cases hp
theorem p27:AB Try.prog Gl 27 Po:=by
  refine A1 AQ AR Try.func27 (by kernel_rfl) (by kernel_rfl) fun vs v h' h=>?_
  unfold Po at h
  split at h
  · rename_i v1
    obtain ⟨s,a1,h⟩:=Ci h
    obtain ⟨hf,h⟩:=Ah h
    obtain ⟨h8,h⟩:=Ah h
    obtain ⟨hn,h⟩:=Ah h
    obtain ⟨a,n,g,m,x,t,k,p,r,q,C⟩:=s
    have hA:Bw [v1] [.agg [iV a,.sl 6 n (fun i=>eV (g i)),.sl 5 m (fun i=>evV (x i)),iV t,iV k,.sl 1 p (fun i=>iV (r i)),.sl 1 q (fun u=>.sl 1 (C u).1 (fun i=>iV ((C u).2 i)))]]:=fun S w cs hv=>by
      obtain ⟨c,l,rfl,q1,q2⟩:=hv
      exact ⟨c,_,rfl,a1 S w c q1,q2⟩
    have hn:Ab n = true ∧ Ab m = true ∧ Ab p = true ∧ Ab q = true ∧ (Ai q fun i=>Ab (C i).1) = true:=by simpa [Dx,Ag] using hn
    obtain ⟨n1,n2,n3,n4,n5⟩:=hn
    have Cs:∀ (q:Nat) (ln:Nat->Nat),(Ai q fun i=>Ai (ln i) fun _=>true) = true:=fun _ _=>A4.2 fun _ _=>A4.2 fun _ _=>rfl
    obtain ⟨ln,co,hC⟩:∃ (ln:Nat->Nat) (co:Nat->Nat->Int),C = fun u=>(ln u,co u):=⟨fun u=>(C u).1,fun u=>(C u).2,rfl⟩
    subst hC
    have hx:=AP Aag [(0,RR a n g m x t k p r q ln co)] (G:=Gl)
    have hL:=AD [(0,RR a n g m x t k p r q ln co)]
    cases hs:BV ⟨a,n,g,m,x,t,k,p,r,q,fun u=>(ln u,co u)⟩ with
    | false =>
      rw [hs] at h
      have:=Ad h
      simp only [noI,Prod.mk.injEq] at this
      obtain ⟨rfl,rfl⟩:=this
      have hc:ieq (A9 a n g m x t k p r q ln co) 0 = false:=by unfold A9; rw [hs]; rfl
      have hv:A9 a n g m x t k p r q ln co = 70:=by unfold A9; rw [hs]; rfl
      refine ⟨_,AI Gl VY [(0,RR a n g m x t k p r q ln co)],_,hA,rfl,hx.1,hx.2,?_,A6.refl _⟩
      have hw:=AjA (Bk [(0,RR a n g m x t k p r q ln co)]) a n g m x t k p r q ln co (Cs _ _) hf n1 n2 n3 n4 n5 hc
      rw [hv] at hw
      exact hw
    | true =>
      rw [hs] at h
      have hc:ieq (A9 a n g m x t k p r q ln co) 0 = true:=by unfold A9; rw [hs]; rfl
      have:=Ad h
      simp only [noI,Prod.mk.injEq] at this
      obtain ⟨rfl,rfl⟩:=this
      have h8':q * 8 <= 140737488355328:=of_decide_eq_true h8
      have hrun:=fun L j=>Acc L a n g m x t k p r q ln co h8' q 0 j (q+1) (by omega) (by omega)
      refine ⟨_,AI Gl VY [(0,RR a n g m x t k p r q ln co)],_,hA,rfl,hx.1,hx.2,A3 (Aw hL hL) _ (Aj9 _ _ a n g m x t k p r q ln co q (Ak (fun _=>true) q) (BD (fun _=>true) (fun i=>ofNat (ln i)) q) (Cs _ _) hf n1 n2 n3 n4 n5 hc (An (hrun _ _))),?_⟩
      rw [I1]
      exact A6.one fun i hi=>(OX (fun i=>ofNat (ln i)) i hi).symm
  · cases h
noncomputable def VX:List (Nat × (List V->T (V × List Blk))):=[(39,Gi)]
theorem Aaf:AC Try.prog Gl VX:=.cons Af0 .nil
def RQ (_:Int) (_:Nat) (_:Nat->E6) (_:Nat) (_:Nat->Ev5) (_ _:Int) (_:Nat) (_:Nat->Int) (q:Nat) (_:Nat->Nat) (_:Nat->Nat->Int):Lp:=⟨(bmK 26 0 [1,4,5]),3,bmK 26 0 [4],3,q+1⟩
def Xy (a:Int) (n:Nat) (g:Nat->E6) (m:Nat) (x:Nat->Ev5) (t k:Int) (p:Nat) (r:Nat->Int) (q:Nat) (ln:Nat->Nat) (co:Nat->Nat->Int) (b c:Nat) (y:Nat->V) (j:Nat->V):St:=⟨(jsV 26 0 j [(1,.ptr 0 0),(4,.ref 2),(5,nV b)]),[.cells (shL a n g m x t k p r q ln co),r3Z,.row 3 1 c y]⟩
def V6 (a:Int) (n:Nat) (g:Nat->E6) (m:Nat) (x:Nat->Ev5) (t k:Int) (p:Nat) (r:Nat->Int) (q:Nat) (ln:Nat->Nat) (co:Nat->Nat->Int) (_ c:Nat) (y:Nat->V):Ex × St:=(.ex 0,⟨(jsV 26 0 (fun _=>.und) [(4,.ref 2)]),[.cells (shL a n g m x t k p r q ln co),r3Z,.row 3 1 c y]⟩)
noncomputable def Ol (L:LT):St->T (Ex × St):=fun st=>AE tab ⟨Ao VX,L,Gl⟩ (Az Try.f33 0) 0 st
section
variable (L:LT) (a:Int) (n:Nat) (g:Nat->E6) (m:Nat) (x:Nat->Ev5) (t k:Int) (p:Nat) (r:Nat->Int) (q:Nat) (ln:Nat->Nat) (co:Nat->Nat->Int) (b c:Nat) (y:Nat->V)  (j:Nat->V)
include L a n g m x t k p r q ln co b c y j
theorem Akm (h0:ilt (ofNat b) (ofNat q) = false):Al (Ol L) (RQ a n g m x t k p r q ln co) (Xy a n g m x t k p r q ln co b c y j) = some ((.ex 0),⟨(jsV 26 0 (fun _=>.und) [(4,(.ref 2))]),[.cells (shL a n g m x t k p r q ln co),r3Z,.row 3 1 c y]⟩):=Aa [false] [ilt (ofNat b) (ofNat q)] (by kernel_rfl) (by simp only [h0] <;> rfl)
theorem Akl (h0:ilt (ofNat b) (ofNat q) = true) (h17:ile 0 (ofNat b) = true) (h18:AN c 1 8 = true):Al (Ol L) (RQ a n g m x t k p r q ln co) (Xy a n g m x t k p r q ln co b c y j) = some (.nm,⟨(jsV 26 0 (fun _=>.und) [(1,(.ptr 0 0)),(4,(.ref 2)),(5,(iV (wr .i64 (Af (ofNat b) 1))))]),[.cells (shL a n g m x t k p r q ln co),r3Z,.row 3 1 (Bj c 1) (AO c y (iV (ofNat (ln b))))]⟩):=Aa [true,true,true] [ilt (ofNat b) (ofNat q),Ag (ile 0 (ofNat b)) (ilt (ofNat b) (ofNat q)),AN c 1 8] (by kernel_rfl) (by simp only [*] <;> rfl)
end
def Ai3 (a:Int) (n:Nat) (g:Nat->E6) (m:Nat) (x:Nat->Ev5) (t k:Int) (p:Nat) (r:Nat->Int) (q:Nat) (ln:Nat->Nat) (co:Nat->Nat->Int) :Nat->V:=lkV A8 [(0,(.agg (shL a n g m x t k p r q ln co))),(2,(.ref 1)),(3,(iV 0)),(6,(.agg (shL a n g m x t k p r q ln co))),(7,(iV (A9 a n g m x t k p r q ln (fun i i_1=>co i i_1)))),(8,(bV (Am (ieq (A9 a n g m x t k p r q ln (fun i i_1=>co i i_1)) 0))))]
theorem Aj7 (L:LT) (a:Int) (n:Nat) (g:Nat->E6) (m:Nat) (x:Nat->Ev5) (t k:Int) (p:Nat) (r:Nat->Int) (q:Nat) (ln:Nat->Nat) (co:Nat->Nat->Int) (h17:Ai q (fun i=>Ai (ln i) (fun _=>true)) = true) (h18:AL n = true) (h19:Ab n = true) (h20:Ab m = true) (h21:Ab p = true) (h22:Ab q = true) (h23:Ai q (fun i=>Ab (ln i)) = true) (h0:ieq (A9 a n g m x t k p r q ln (fun i i_1=>co i i_1)) 0 = false):(As (Aj tab ⟨Ao VX,L,Gl⟩ Try.f33 [.agg (shL a n g m x t k p r q ln co)] [])).sem = some ((.tup [.ref 0,iV 70]),[r3Z]):=Aa (bbK 7 127) [Ai n (fun _=>true),Ai m (fun _=>true),Ai p (fun _=>true),Ai q (fun i=>Ai (ln i) (fun _=>true)),AL n,Ag (Ab n) (Ag (Ab m) (Ag (Ab p) (Ag (Ab q) (Ai q (fun i=>Ab (ln i)))))),Am (ieq (A9 a n g m x t k p r q ln (fun i i_1=>co i i_1)) 0)] (by kernel_rfl) (by simp only [*,Ar] <;> rfl)
theorem Aj6 (L:LT) (p0:PT) (a:Int) (n:Nat) (g:Nat->E6) (m:Nat) (x:Nat->Ev5) (t k:Int) (p:Nat) (r:Nat->Int) (q:Nat) (ln:Nat->Nat) (co:Nat->Nat->Int) (b c:Nat) (y:Nat->V) (h17:Ai q (fun i=>Ai (ln i) (fun _=>true)) = true) (h18:AL n = true) (h19:Ab n = true) (h20:Ab m = true) (h21:Ab p = true) (h22:Ab q = true) (h23:Ai q (fun i=>Ab (ln i)) = true) (h0:ieq (A9 a n g m x t k p r q ln (fun i i_1=>co i i_1)) 0 = true) (hp0:p0 (Ol (onP 0 p0 (V6 a n g m x t k p r q ln co b c y) L)) (Xy a n g m x t k p r q ln co 0 0 (fun _=>.und) (Ai3 a n g m x t k p r q ln co )) = true):(As (Aj tab ⟨Ao VX,onP 0 p0 (V6 a n g m x t k p r q ln co b c y) L,Gl⟩ Try.f33 [.agg (shL a n g m x t k p r q ln co)] [])).sem = some ((.tup [.ref 0,iV 0]),[.row 3 1 c y]):=Aa (bbK 8 191) [Ai n (fun _=>true),Ai m (fun _=>true),Ai p (fun _=>true),Ai q (fun i=>Ai (ln i) (fun _=>true)),AL n,Ag (Ab n) (Ag (Ab m) (Ag (Ab p) (Ag (Ab q) (Ai q (fun i=>Ab (ln i)))))),Am (ieq (A9 a n g m x t k p r q ln (fun i i_1=>co i i_1)) 0),p0 (Ol (onP 0 p0 (V6 a n g m x t k p r q ln co b c y) L)) (Xy a n g m x t k p r q ln co 0 0 (fun _=>.und) (Ai3 a n g m x t k p r q ln co ))] (by kernel_rfl) (by simp only [hp0] <;> simp only [*,Ar] <;> rfl)
theorem Aca (L:LT) (a:Int) (n:Nat) (g:Nat->E6) (m:Nat) (x:Nat->Ev5) (t k:Int) (p:Nat) (r:Nat->Int) (q:Nat) (ln:Nat->Nat) (co:Nat->Nat->Int) (h8:q * 8 <= 140737488355328):∀ (e b:Nat) (j:Nat->V) (u:Nat),q = b+e->e < u ->
    (A7 (Ol L) (RQ a n g m x t k p r q ln co) u (Xy a n g m x t k p r q ln co b (Ak (fun _=>true) b) (BD (fun _=>true) (fun i=>ofNat (ln i)) b) j)).sem = some (V6 a n g m x t k p r q ln co q (Ak (fun _=>true) q) (BD (fun _=>true) (fun i=>ofNat (ln i)) q))
  | 0,b,j,u+1,h,_=>by
    have:q = b:=by omega
    subst this
    exact Ac (Akm L a n g m x t k p r q ln co q _ _ j (AA (Nat.le_refl _)))
  | e+1,b,j,u+1,h,h2=>by
    have hl:b < q:=by omega
    have hcl:=Be (fun _=>true) b
    have next:=Aca L a n g m x t k p r q ln co h8 e (b+1) (fun _=>.und) u (by omega) (by omega)
    cases hp:(fun _=>true) b with
    | true =>
      rw [Ac (Akl L a n g m x t k p r q ln co b (Ak (fun _=>true) b) (BD (fun _=>true) (fun i=>ofNat (ln i)) b) j (ofNat_lt hl) (AH b) (C6 (by omega))),Av,Aq hl (by omega)]
      rw [Hm hp,Bg hp] at next
      exact next
    | false=>cases hp
theorem p33:AB Try.prog Gl 33 Po:=by
  refine A1 AQ AR Try.func33 (by kernel_rfl) (by kernel_rfl) fun vs v h' h=>?_
  unfold Po at h
  split at h
  · rename_i v1
    obtain ⟨s,a1,h⟩:=Ci h
    obtain ⟨hf,h⟩:=Ah h
    obtain ⟨h8,h⟩:=Ah h
    obtain ⟨hn,h⟩:=Ah h
    obtain ⟨a,n,g,m,x,t,k,p,r,q,C⟩:=s
    have hA:Bw [v1] [.agg [iV a,.sl 6 n (fun i=>eV (g i)),.sl 5 m (fun i=>evV (x i)),iV t,iV k,.sl 1 p (fun i=>iV (r i)),.sl 1 q (fun u=>.sl 1 (C u).1 (fun i=>iV ((C u).2 i)))]]:=fun S w cs hv=>by
      obtain ⟨c,l,rfl,q1,q2⟩:=hv
      exact ⟨c,_,rfl,a1 S w c q1,q2⟩
    have hn:Ab n = true ∧ Ab m = true ∧ Ab p = true ∧ Ab q = true ∧ (Ai q fun i=>Ab (C i).1) = true:=by simpa [Dx,Ag] using hn
    obtain ⟨n1,n2,n3,n4,n5⟩:=hn
    have Cs:∀ (q:Nat) (ln:Nat->Nat),(Ai q fun i=>Ai (ln i) fun _=>true) = true:=fun _ _=>A4.2 fun _ _=>A4.2 fun _ _=>rfl
    obtain ⟨ln,co,hC⟩:∃ (ln:Nat->Nat) (co:Nat->Nat->Int),C = fun u=>(ln u,co u):=⟨fun u=>(C u).1,fun u=>(C u).2,rfl⟩
    subst hC
    have hx:=AP Aaf [(0,RQ a n g m x t k p r q ln co)] (G:=Gl)
    have hL:=AD [(0,RQ a n g m x t k p r q ln co)]
    cases hs:BV ⟨a,n,g,m,x,t,k,p,r,q,fun u=>(ln u,co u)⟩ with
    | false =>
      rw [hs] at h
      have:=Ad h
      simp only [noI,Prod.mk.injEq] at this
      obtain ⟨rfl,rfl⟩:=this
      have hc:ieq (A9 a n g m x t k p r q ln co) 0 = false:=by unfold A9; rw [hs]; rfl
      have hv:A9 a n g m x t k p r q ln co = 70:=by unfold A9; rw [hs]; rfl
      refine ⟨_,AI Gl VX [(0,RQ a n g m x t k p r q ln co)],_,hA,rfl,hx.1,hx.2,?_,A6.refl _⟩
      have hw:=Aj7 (Bk [(0,RQ a n g m x t k p r q ln co)]) a n g m x t k p r q ln co (Cs _ _) hf n1 n2 n3 n4 n5 hc
      
      exact hw
    | true =>
      rw [hs] at h
      have hc:ieq (A9 a n g m x t k p r q ln co) 0 = true:=by unfold A9; rw [hs]; rfl
      have:=Ad h
      simp only [noI,Prod.mk.injEq] at this
      obtain ⟨rfl,rfl⟩:=this
      have h8':q * 8 <= 140737488355328:=of_decide_eq_true h8
      have hrun:=fun L j=>Aca L a n g m x t k p r q ln co h8' q 0 j (q+1) (by omega) (by omega)
      refine ⟨_,AI Gl VX [(0,RQ a n g m x t k p r q ln co)],_,hA,rfl,hx.1,hx.2,A3 (Aw hL hL) _ (Aj6 _ _ a n g m x t k p r q ln co q (Ak (fun _=>true) q) (BD (fun _=>true) (fun i=>ofNat (ln i)) q) (Cs _ _) hf n1 n2 n3 n4 n5 hc (An (hrun _ _))),?_⟩
      rw [I1]
      exact A6.one fun i hi=>(OX (fun i=>ofNat (ln i)) i hi).symm
  · cases h
noncomputable def VW:List (Nat × (List V->T (V × List Blk))):=[(25,Gi)]
theorem Aae:AC Try.prog Gl VW:=.cons Af1 .nil
def Ql (_:Int) (_:Nat) (_:Nat->E6) (_:Nat) (_:Nat->Ev5) (_ _:Int) (_:Nat) (_:Nat->Int) (q:Nat) (_:Nat->Nat) (_:Nat->Nat->Int):Lp:=⟨(bmK 30 0 [5,14,15,16]),3,bmK 30 0 [5],3,q+1⟩
def Wc (a:Int) (n:Nat) (g:Nat->E6) (m:Nat) (x:Nat->Ev5) (t k:Int) (p:Nat) (r:Nat->Int) (q:Nat) (ln:Nat->Nat) (co:Nat->Nat->Int) (b c:Nat) (y:Nat->V) (j:Nat->V):St:=⟨(jsV 30 0 j [(5,.ref 2),(14,.sl 1 q (fun u=>.sl 1 (ln u) (fun i=>iV (co u i)))),(15,nV q),(16,nV b)]),[.cells (shL a n g m x t k p r q ln co),r3Z,.row 3 1 c y]⟩
def V5 (a:Int) (n:Nat) (g:Nat->E6) (m:Nat) (x:Nat->Ev5) (t k:Int) (p:Nat) (r:Nat->Int) (q:Nat) (ln:Nat->Nat) (co:Nat->Nat->Int) (_ c:Nat) (y:Nat->V):Ex × St:=(.ex 0,⟨(jsV 30 0 (fun _=>.und) [(5,.ref 2)]),[.cells (shL a n g m x t k p r q ln co),r3Z,.row 3 1 c y]⟩)
noncomputable def L2 (L:LT):St->T (Ex × St):=fun st=>AE tab ⟨Ao VW,L,Gl⟩ (Az Try.f34 0) 0 st
section
variable (L:LT) (a:Int) (n:Nat) (g:Nat->E6) (m:Nat) (x:Nat->Ev5) (t k:Int) (p:Nat) (r:Nat->Int) (q:Nat) (ln:Nat->Nat) (co:Nat->Nat->Int) (b c:Nat) (y:Nat->V)  (j:Nat->V)
include L a n g m x t k p r q ln co b c y j
theorem Akk (h0:ilt (ofNat b) (ofNat q) = false):Al (L2 L) (Ql a n g m x t k p r q ln co) (Wc a n g m x t k p r q ln co b c y j) = some ((.ex 0),⟨(jsV 30 0 (fun _=>.und) [(5,(.ref 2))]),[.cells (shL a n g m x t k p r q ln co),r3Z,.row 3 1 c y]⟩):=Aa [false] [ilt (ofNat b) (ofNat q)] (by kernel_rfl) (by simp only [h0] <;> rfl)
theorem Aki (h0:ilt (ofNat b) (ofNat q) = true) (h18:ile 0 (ofNat b) = true) (h1:ieq (ofNat (ln b)) 2 = true) (h19:AN c 1 8 = true):Al (L2 L) (Ql a n g m x t k p r q ln co) (Wc a n g m x t k p r q ln co b c y j) = some (.nm,⟨(jsV 30 0 (fun _=>.und) [(5,(.ref 2)),(14,(.sl 1 q (fun u=>.sl 1 (ln u) (fun i=>iV (co u i))))),(15,(nV q)),(16,(iV (wr .i64 (Af (ofNat b) 1))))]),[.cells (shL a n g m x t k p r q ln co),r3Z,.row 3 1 (Bj c 1) (AO c y (nV b))]⟩):=Aa [true,true,true,true] [ilt (ofNat b) (ofNat q),Ag (ile 0 (ofNat b)) (ilt (ofNat b) (ofNat q)),ieq (ofNat (ln b)) 2,AN c 1 8] (by kernel_rfl) (by simp only [*] <;> rfl)
theorem Akj (h0:ilt (ofNat b) (ofNat q) = true) (h18:ile 0 (ofNat b) = true) (h1:ieq (ofNat (ln b)) 2 = false):Al (L2 L) (Ql a n g m x t k p r q ln co) (Wc a n g m x t k p r q ln co b c y j) = some (.nm,⟨(jsV 30 0 (fun _=>.und) [(5,(.ref 2)),(14,(.sl 1 q (fun u=>.sl 1 (ln u) (fun i=>iV (co u i))))),(15,(nV q)),(16,(iV (wr .i64 (Af (ofNat b) 1))))]),[.cells (shL a n g m x t k p r q ln co),r3Z,.row 3 1 c y]⟩):=Aa [true,true,false] [ilt (ofNat b) (ofNat q),Ag (ile 0 (ofNat b)) (ilt (ofNat b) (ofNat q)),ieq (ofNat (ln b)) 2] (by kernel_rfl) (by simp only [*] <;> rfl)
end
def Ai2 (a:Int) (n:Nat) (g:Nat->E6) (m:Nat) (x:Nat->Ev5) (t k:Int) (p:Nat) (r:Nat->Int) (q:Nat) (ln:Nat->Nat) (co:Nat->Nat->Int) :Nat->V:=lkV A8 [(0,(.agg (shL a n g m x t k p r q ln co))),(1,(.ptr 0 0)),(2,(.ref 1)),(3,(iV 0)),(4,(iV (A9 a n g m x t k p r q ln (fun i i_1=>co i i_1)))),(8,(.agg (shL a n g m x t k p r q ln co))),(9,(iV (A9 a n g m x t k p r q ln (fun i i_1=>co i i_1)))),(10,(iV (A9 a n g m x t k p r q ln (fun i i_1=>co i i_1)))),(11,(bV (Am (ieq (A9 a n g m x t k p r q ln (fun i i_1=>co i i_1)) 0)))),(13,(.ptr 0 6))]
theorem Aj5 (L:LT) (a:Int) (n:Nat) (g:Nat->E6) (m:Nat) (x:Nat->Ev5) (t k:Int) (p:Nat) (r:Nat->Int) (q:Nat) (ln:Nat->Nat) (co:Nat->Nat->Int) (h17:Ai q (fun i=>Ai (ln i) (fun _=>true)) = true) (h18:AL n = true) (h19:Ab n = true) (h20:Ab m = true) (h21:Ab p = true) (h22:Ab q = true) (h23:Ai q (fun i=>Ab (ln i)) = true) (h0:ieq (A9 a n g m x t k p r q ln (fun i i_1=>co i i_1)) 0 = false):(As (Aj tab ⟨Ao VW,L,Gl⟩ Try.f34 [.agg (shL a n g m x t k p r q ln co)] [])).sem = some ((.tup [.ref 0,iV (A9 a n g m x t k p r q ln (fun i i_1=>co i i_1))]),[r3Z]):=Aa (bbK 7 127) [Ai n (fun _=>true),Ai m (fun _=>true),Ai p (fun _=>true),Ai q (fun i=>Ai (ln i) (fun _=>true)),AL n,Ag (Ab n) (Ag (Ab m) (Ag (Ab p) (Ag (Ab q) (Ai q (fun i=>Ab (ln i)))))),Am (ieq (A9 a n g m x t k p r q ln (fun i i_1=>co i i_1)) 0)] (by kernel_rfl) (by simp only [*,Ar] <;> rfl)
theorem Aj4 (L:LT) (p0:PT) (a:Int) (n:Nat) (g:Nat->E6) (m:Nat) (x:Nat->Ev5) (t k:Int) (p:Nat) (r:Nat->Int) (q:Nat) (ln:Nat->Nat) (co:Nat->Nat->Int) (b c:Nat) (y:Nat->V) (h17:Ai q (fun i=>Ai (ln i) (fun _=>true)) = true) (h18:AL n = true) (h19:Ab n = true) (h20:Ab m = true) (h21:Ab p = true) (h22:Ab q = true) (h23:Ai q (fun i=>Ab (ln i)) = true) (h0:ieq (A9 a n g m x t k p r q ln (fun i i_1=>co i i_1)) 0 = true) (hp0:p0 (L2 (onP 0 p0 (V5 a n g m x t k p r q ln co b c y) L)) (Wc a n g m x t k p r q ln co 0 0 (fun _=>.und) (Ai2 a n g m x t k p r q ln co )) = true):(As (Aj tab ⟨Ao VW,onP 0 p0 (V5 a n g m x t k p r q ln co b c y) L,Gl⟩ Try.f34 [.agg (shL a n g m x t k p r q ln co)] [])).sem = some ((.tup [.ref 0,iV 0]),[.row 3 1 c y]):=Aa (bbK 8 191) [Ai n (fun _=>true),Ai m (fun _=>true),Ai p (fun _=>true),Ai q (fun i=>Ai (ln i) (fun _=>true)),AL n,Ag (Ab n) (Ag (Ab m) (Ag (Ab p) (Ag (Ab q) (Ai q (fun i=>Ab (ln i)))))),Am (ieq (A9 a n g m x t k p r q ln (fun i i_1=>co i i_1)) 0),p0 (L2 (onP 0 p0 (V5 a n g m x t k p r q ln co b c y) L)) (Wc a n g m x t k p r q ln co 0 0 (fun _=>.und) (Ai2 a n g m x t k p r q ln co ))] (by kernel_rfl) (by simp only [hp0] <;> simp only [*,Ar] <;> rfl)
theorem AbZ (L:LT) (a:Int) (n:Nat) (g:Nat->E6) (m:Nat) (x:Nat->Ev5) (t k:Int) (p:Nat) (r:Nat->Int) (q:Nat) (ln:Nat->Nat) (co:Nat->Nat->Int) (h8:q * 8 <= 140737488355328):∀ (e b:Nat) (j:Nat->V) (u:Nat),q = b+e->e < u ->
    (A7 (L2 L) (Ql a n g m x t k p r q ln co) u (Wc a n g m x t k p r q ln co b (Ak (fun i=>ieq (ofNat (ln i)) 2) b) (BD (fun i=>ieq (ofNat (ln i)) 2) (fun i=>ofNat i) b) j)).sem = some (V5 a n g m x t k p r q ln co q (Ak (fun i=>ieq (ofNat (ln i)) 2) q) (BD (fun i=>ieq (ofNat (ln i)) 2) (fun i=>ofNat i) q))
  | 0,b,j,u+1,h,_=>by
    have:q = b:=by omega
    subst this
    exact Ac (Akk L a n g m x t k p r q ln co q _ _ j (AA (Nat.le_refl _)))
  | e+1,b,j,u+1,h,h2=>by
    have hl:b < q:=by omega
    have hcl:=Be (fun i=>ieq (ofNat (ln i)) 2) b
    have next:=AbZ L a n g m x t k p r q ln co h8 e (b+1) (fun _=>.und) u (by omega) (by omega)
    cases hp:(fun i=>ieq (ofNat (ln i)) 2) b with
    | true =>
      rw [Ac (Aki L a n g m x t k p r q ln co b (Ak (fun i=>ieq (ofNat (ln i)) 2) b) (BD (fun i=>ieq (ofNat (ln i)) 2) (fun i=>ofNat i) b) j (ofNat_lt hl) (AH b) hp (C6 (by omega))),Av,Aq hl (by omega)]
      rw [Hm hp,Bg hp] at next
      exact next
    | false=>
      rw [Ac (Akj L a n g m x t k p r q ln co b (Ak (fun i=>ieq (ofNat (ln i)) 2) b) (BD (fun i=>ieq (ofNat (ln i)) 2) (fun i=>ofNat i) b) j (ofNat_lt hl) (AH b) hp),Av,Aq hl (by omega)]
      rw [Ke hp,Bv hp] at next
      exact next
theorem p34:AB Try.prog Gl 34 L7:=by
  refine A1 AQ AR Try.func34 (by kernel_rfl) (by kernel_rfl) fun vs v h' h=>?_
  unfold L7 at h
  split at h
  · rename_i v1
    obtain ⟨s,a1,h⟩:=Ci h
    obtain ⟨hf,h⟩:=Ah h
    obtain ⟨h8,h⟩:=Ah h
    obtain ⟨hn,h⟩:=Ah h
    obtain ⟨a,n,g,m,x,t,k,p,r,q,C⟩:=s
    have hA:Bw [v1] [.agg [iV a,.sl 6 n (fun i=>eV (g i)),.sl 5 m (fun i=>evV (x i)),iV t,iV k,.sl 1 p (fun i=>iV (r i)),.sl 1 q (fun u=>.sl 1 (C u).1 (fun i=>iV ((C u).2 i)))]]:=fun S w cs hv=>by
      obtain ⟨c,l,rfl,q1,q2⟩:=hv
      exact ⟨c,_,rfl,a1 S w c q1,q2⟩
    have hn:Ab n = true ∧ Ab m = true ∧ Ab p = true ∧ Ab q = true ∧ (Ai q fun i=>Ab (C i).1) = true:=by simpa [Dx,Ag] using hn
    obtain ⟨n1,n2,n3,n4,n5⟩:=hn
    have Cs:∀ (q:Nat) (ln:Nat->Nat),(Ai q fun i=>Ai (ln i) fun _=>true) = true:=fun _ _=>A4.2 fun _ _=>A4.2 fun _ _=>rfl
    obtain ⟨ln,co,hC⟩:∃ (ln:Nat->Nat) (co:Nat->Nat->Int),C = fun u=>(ln u,co u):=⟨fun u=>(C u).1,fun u=>(C u).2,rfl⟩
    subst hC
    have hx:=AP Aae [(0,Ql a n g m x t k p r q ln co)] (G:=Gl)
    have hL:=AD [(0,Ql a n g m x t k p r q ln co)]
    cases hs:BV ⟨a,n,g,m,x,t,k,p,r,q,fun u=>(ln u,co u)⟩ with
    | false =>
      rw [hs] at h
      have:=Ad h
      simp only [noI,Prod.mk.injEq] at this
      obtain ⟨rfl,rfl⟩:=this
      have hc:ieq (A9 a n g m x t k p r q ln co) 0 = false:=by unfold A9; rw [hs]; rfl
      have hv:A9 a n g m x t k p r q ln co = 70:=by unfold A9; rw [hs]; rfl
      refine ⟨_,AI Gl VW [(0,Ql a n g m x t k p r q ln co)],_,hA,rfl,hx.1,hx.2,?_,A6.refl _⟩
      have hw:=Aj5 (Bk [(0,Ql a n g m x t k p r q ln co)]) a n g m x t k p r q ln co (Cs _ _) hf n1 n2 n3 n4 n5 hc
      rw [hv] at hw
      exact hw
    | true =>
      rw [hs] at h
      have hc:ieq (A9 a n g m x t k p r q ln co) 0 = true:=by unfold A9; rw [hs]; rfl
      have:=Ad h
      simp only [noI,Prod.mk.injEq] at this
      obtain ⟨rfl,rfl⟩:=this
      have h8':q * 8 <= 140737488355328:=of_decide_eq_true h8
      have hrun:=fun L j=>AbZ L a n g m x t k p r q ln co h8' q 0 j (q+1) (by omega) (by omega)
      refine ⟨_,AI Gl VW [(0,Ql a n g m x t k p r q ln co)],_,hA,rfl,hx.1,hx.2,A3 (Aw hL hL) _ (Aj4 _ _ a n g m x t k p r q ln co q (Ak (fun i=>ieq (ofNat (ln i)) 2) q) (BD (fun i=>ieq (ofNat (ln i)) 2) (fun i=>ofNat i) q) (Cs _ _) hf n1 n2 n3 n4 n5 hc (An (hrun _ _))),?_⟩
      exact A6.one fun i hi=>(Ii _ _ i hi).symm
  · cases h
noncomputable def VV:List (Nat × (List V->T (V × List Blk))):=[(39,Gi)]
theorem Aad:AC Try.prog Gl VV:=.cons Af0 .nil
def Qk (_:Int) (_:Nat) (_:Nat->E6) (_:Nat) (_:Nat->Ev5) (_ _:Int) (_:Nat) (_:Nat->Int) (q:Nat) (_:Nat->Nat) (_:Nat->Nat->Int):Lp:=⟨(bmK 28 0 [1,4,5]),3,bmK 28 0 [4],3,q+1⟩
def Wb (a:Int) (n:Nat) (g:Nat->E6) (m:Nat) (x:Nat->Ev5) (t k:Int) (p:Nat) (r:Nat->Int) (q:Nat) (ln:Nat->Nat) (co:Nat->Nat->Int) (b c:Nat) (y:Nat->V) (j:Nat->V):St:=⟨(jsV 28 0 j [(1,.ptr 0 0),(4,.ref 2),(5,nV b)]),[.cells (shL a n g m x t k p r q ln co),r3Z,.row 3 1 c y]⟩
def V4 (a:Int) (n:Nat) (g:Nat->E6) (m:Nat) (x:Nat->Ev5) (t k:Int) (p:Nat) (r:Nat->Int) (q:Nat) (ln:Nat->Nat) (co:Nat->Nat->Int) (_ c:Nat) (y:Nat->V):Ex × St:=(.ex 0,⟨(jsV 28 0 (fun _=>.und) [(4,.ref 2)]),[.cells (shL a n g m x t k p r q ln co),r3Z,.row 3 1 c y]⟩)
noncomputable def L1 (L:LT):St->T (Ex × St):=fun st=>AE tab ⟨Ao VV,L,Gl⟩ (Az Try.f35 0) 0 st
section
variable (L:LT) (a:Int) (n:Nat) (g:Nat->E6) (m:Nat) (x:Nat->Ev5) (t k:Int) (p:Nat) (r:Nat->Int) (q:Nat) (ln:Nat->Nat) (co:Nat->Nat->Int) (b c:Nat) (y:Nat->V)  (j:Nat->V)
include L a n g m x t k p r q ln co b c y j
theorem Akh (h0:ilt (ofNat b) (ofNat q) = false):Al (L1 L) (Qk a n g m x t k p r q ln co) (Wb a n g m x t k p r q ln co b c y j) = some ((.ex 0),⟨(jsV 28 0 (fun _=>.und) [(4,(.ref 2))]),[.cells (shL a n g m x t k p r q ln co),r3Z,.row 3 1 c y]⟩):=Aa [false] [ilt (ofNat b) (ofNat q)] (by kernel_rfl) (by simp only [h0] <;> rfl)
theorem Akf (h0:ilt (ofNat b) (ofNat q) = true) (h18:ile 0 (ofNat b) = true) (h1:ieq (ofNat (ln b)) 2 = true) (h19:AN c 1 8 = true):Al (L1 L) (Qk a n g m x t k p r q ln co) (Wb a n g m x t k p r q ln co b c y j) = some (.nm,⟨(jsV 28 0 (fun _=>.und) [(1,(.ptr 0 0)),(4,(.ref 2)),(5,(iV (wr .i64 (Af (ofNat b) 1))))]),[.cells (shL a n g m x t k p r q ln co),r3Z,.row 3 1 (Bj c 1) (AO c y (nV b))]⟩):=Aa [true,true,true,true] [ilt (ofNat b) (ofNat q),Ag (ile 0 (ofNat b)) (ilt (ofNat b) (ofNat q)),ieq (ofNat (ln b)) 2,AN c 1 8] (by kernel_rfl) (by simp only [*] <;> rfl)
theorem Akg (h0:ilt (ofNat b) (ofNat q) = true) (h18:ile 0 (ofNat b) = true) (h1:ieq (ofNat (ln b)) 2 = false):Al (L1 L) (Qk a n g m x t k p r q ln co) (Wb a n g m x t k p r q ln co b c y j) = some (.nm,⟨(jsV 28 0 (fun _=>.und) [(1,(.ptr 0 0)),(4,(.ref 2)),(5,(iV (wr .i64 (Af (ofNat b) 1))))]),[.cells (shL a n g m x t k p r q ln co),r3Z,.row 3 1 c y]⟩):=Aa [true,true,false] [ilt (ofNat b) (ofNat q),Ag (ile 0 (ofNat b)) (ilt (ofNat b) (ofNat q)),ieq (ofNat (ln b)) 2] (by kernel_rfl) (by simp only [*] <;> rfl)
end
def Ai1 (a:Int) (n:Nat) (g:Nat->E6) (m:Nat) (x:Nat->Ev5) (t k:Int) (p:Nat) (r:Nat->Int) (q:Nat) (ln:Nat->Nat) (co:Nat->Nat->Int) :Nat->V:=lkV A8 [(0,(.agg (shL a n g m x t k p r q ln co))),(2,(.ref 1)),(3,(iV 0)),(6,(.agg (shL a n g m x t k p r q ln co))),(7,(iV (A9 a n g m x t k p r q ln (fun i i_1=>co i i_1)))),(8,(bV (Am (ieq (A9 a n g m x t k p r q ln (fun i i_1=>co i i_1)) 0))))]
theorem Aj3 (L:LT) (a:Int) (n:Nat) (g:Nat->E6) (m:Nat) (x:Nat->Ev5) (t k:Int) (p:Nat) (r:Nat->Int) (q:Nat) (ln:Nat->Nat) (co:Nat->Nat->Int) (h17:Ai q (fun i=>Ai (ln i) (fun _=>true)) = true) (h18:AL n = true) (h19:Ab n = true) (h20:Ab m = true) (h21:Ab p = true) (h22:Ab q = true) (h23:Ai q (fun i=>Ab (ln i)) = true) (h0:ieq (A9 a n g m x t k p r q ln (fun i i_1=>co i i_1)) 0 = false):(As (Aj tab ⟨Ao VV,L,Gl⟩ Try.f35 [.agg (shL a n g m x t k p r q ln co)] [])).sem = some ((.tup [.ref 0,iV 70]),[r3Z]):=Aa (bbK 7 127) [Ai n (fun _=>true),Ai m (fun _=>true),Ai p (fun _=>true),Ai q (fun i=>Ai (ln i) (fun _=>true)),AL n,Ag (Ab n) (Ag (Ab m) (Ag (Ab p) (Ag (Ab q) (Ai q (fun i=>Ab (ln i)))))),Am (ieq (A9 a n g m x t k p r q ln (fun i i_1=>co i i_1)) 0)] (by kernel_rfl) (by simp only [*,Ar] <;> rfl)
theorem Aj2 (L:LT) (p0:PT) (a:Int) (n:Nat) (g:Nat->E6) (m:Nat) (x:Nat->Ev5) (t k:Int) (p:Nat) (r:Nat->Int) (q:Nat) (ln:Nat->Nat) (co:Nat->Nat->Int) (b c:Nat) (y:Nat->V) (h17:Ai q (fun i=>Ai (ln i) (fun _=>true)) = true) (h18:AL n = true) (h19:Ab n = true) (h20:Ab m = true) (h21:Ab p = true) (h22:Ab q = true) (h23:Ai q (fun i=>Ab (ln i)) = true) (h0:ieq (A9 a n g m x t k p r q ln (fun i i_1=>co i i_1)) 0 = true) (hp0:p0 (L1 (onP 0 p0 (V4 a n g m x t k p r q ln co b c y) L)) (Wb a n g m x t k p r q ln co 0 0 (fun _=>.und) (Ai1 a n g m x t k p r q ln co )) = true):(As (Aj tab ⟨Ao VV,onP 0 p0 (V4 a n g m x t k p r q ln co b c y) L,Gl⟩ Try.f35 [.agg (shL a n g m x t k p r q ln co)] [])).sem = some ((.tup [.ref 0,iV 0]),[.row 3 1 c y]):=Aa (bbK 8 191) [Ai n (fun _=>true),Ai m (fun _=>true),Ai p (fun _=>true),Ai q (fun i=>Ai (ln i) (fun _=>true)),AL n,Ag (Ab n) (Ag (Ab m) (Ag (Ab p) (Ag (Ab q) (Ai q (fun i=>Ab (ln i)))))),Am (ieq (A9 a n g m x t k p r q ln (fun i i_1=>co i i_1)) 0),p0 (L1 (onP 0 p0 (V4 a n g m x t k p r q ln co b c y) L)) (Wb a n g m x t k p r q ln co 0 0 (fun _=>.und) (Ai1 a n g m x t k p r q ln co ))] (by kernel_rfl) (by simp only [hp0] <;> simp only [*,Ar] <;> rfl)
theorem AbY (L:LT) (a:Int) (n:Nat) (g:Nat->E6) (m:Nat) (x:Nat->Ev5) (t k:Int) (p:Nat) (r:Nat->Int) (q:Nat) (ln:Nat->Nat) (co:Nat->Nat->Int) (h8:q * 8 <= 140737488355328):∀ (e b:Nat) (j:Nat->V) (u:Nat),q = b+e->e < u ->
    (A7 (L1 L) (Qk a n g m x t k p r q ln co) u (Wb a n g m x t k p r q ln co b (Ak (fun i=>ieq (ofNat (ln i)) 2) b) (BD (fun i=>ieq (ofNat (ln i)) 2) (fun i=>ofNat i) b) j)).sem = some (V4 a n g m x t k p r q ln co q (Ak (fun i=>ieq (ofNat (ln i)) 2) q) (BD (fun i=>ieq (ofNat (ln i)) 2) (fun i=>ofNat i) q))
  | 0,b,j,u+1,h,_=>by
    have:q = b:=by omega
    subst this
    exact Ac (Akh L a n g m x t k p r q ln co q _ _ j (AA (Nat.le_refl _)))
  | e+1,b,j,u+1,h,h2=>by
    have hl:b < q:=by omega
    have hcl:=Be (fun i=>ieq (ofNat (ln i)) 2) b
    have next:=AbY L a n g m x t k p r q ln co h8 e (b+1) (fun _=>.und) u (by omega) (by omega)
    cases hp:(fun i=>ieq (ofNat (ln i)) 2) b with
    | true =>
      rw [Ac (Akf L a n g m x t k p r q ln co b (Ak (fun i=>ieq (ofNat (ln i)) 2) b) (BD (fun i=>ieq (ofNat (ln i)) 2) (fun i=>ofNat i) b) j (ofNat_lt hl) (AH b) hp (C6 (by omega))),Av,Aq hl (by omega)]
      rw [Hm hp,Bg hp] at next
      exact next
    | false=>
      rw [Ac (Akg L a n g m x t k p r q ln co b (Ak (fun i=>ieq (ofNat (ln i)) 2) b) (BD (fun i=>ieq (ofNat (ln i)) 2) (fun i=>ofNat i) b) j (ofNat_lt hl) (AH b) hp),Av,Aq hl (by omega)]
      rw [Ke hp,Bv hp] at next
      exact next
theorem p35:AB Try.prog Gl 35 L7:=by
  refine A1 AQ AR Try.func35 (by kernel_rfl) (by kernel_rfl) fun vs v h' h=>?_
  unfold L7 at h
  split at h
  · rename_i v1
    obtain ⟨s,a1,h⟩:=Ci h
    obtain ⟨hf,h⟩:=Ah h
    obtain ⟨h8,h⟩:=Ah h
    obtain ⟨hn,h⟩:=Ah h
    obtain ⟨a,n,g,m,x,t,k,p,r,q,C⟩:=s
    have hA:Bw [v1] [.agg [iV a,.sl 6 n (fun i=>eV (g i)),.sl 5 m (fun i=>evV (x i)),iV t,iV k,.sl 1 p (fun i=>iV (r i)),.sl 1 q (fun u=>.sl 1 (C u).1 (fun i=>iV ((C u).2 i)))]]:=fun S w cs hv=>by
      obtain ⟨c,l,rfl,q1,q2⟩:=hv
      exact ⟨c,_,rfl,a1 S w c q1,q2⟩
    have hn:Ab n = true ∧ Ab m = true ∧ Ab p = true ∧ Ab q = true ∧ (Ai q fun i=>Ab (C i).1) = true:=by simpa [Dx,Ag] using hn
    obtain ⟨n1,n2,n3,n4,n5⟩:=hn
    have Cs:∀ (q:Nat) (ln:Nat->Nat),(Ai q fun i=>Ai (ln i) fun _=>true) = true:=fun _ _=>A4.2 fun _ _=>A4.2 fun _ _=>rfl
    obtain ⟨ln,co,hC⟩:∃ (ln:Nat->Nat) (co:Nat->Nat->Int),C = fun u=>(ln u,co u):=⟨fun u=>(C u).1,fun u=>(C u).2,rfl⟩
    subst hC
    have hx:=AP Aad [(0,Qk a n g m x t k p r q ln co)] (G:=Gl)
    have hL:=AD [(0,Qk a n g m x t k p r q ln co)]
    cases hs:BV ⟨a,n,g,m,x,t,k,p,r,q,fun u=>(ln u,co u)⟩ with
    | false =>
      rw [hs] at h
      have:=Ad h
      simp only [noI,Prod.mk.injEq] at this
      obtain ⟨rfl,rfl⟩:=this
      have hc:ieq (A9 a n g m x t k p r q ln co) 0 = false:=by unfold A9; rw [hs]; rfl
      have hv:A9 a n g m x t k p r q ln co = 70:=by unfold A9; rw [hs]; rfl
      refine ⟨_,AI Gl VV [(0,Qk a n g m x t k p r q ln co)],_,hA,rfl,hx.1,hx.2,?_,A6.refl _⟩
      have hw:=Aj3 (Bk [(0,Qk a n g m x t k p r q ln co)]) a n g m x t k p r q ln co (Cs _ _) hf n1 n2 n3 n4 n5 hc
      
      exact hw
    | true =>
      rw [hs] at h
      have hc:ieq (A9 a n g m x t k p r q ln co) 0 = true:=by unfold A9; rw [hs]; rfl
      have:=Ad h
      simp only [noI,Prod.mk.injEq] at this
      obtain ⟨rfl,rfl⟩:=this
      have h8':q * 8 <= 140737488355328:=of_decide_eq_true h8
      have hrun:=fun L j=>AbY L a n g m x t k p r q ln co h8' q 0 j (q+1) (by omega) (by omega)
      refine ⟨_,AI Gl VV [(0,Qk a n g m x t k p r q ln co)],_,hA,rfl,hx.1,hx.2,A3 (Aw hL hL) _ (Aj2 _ _ a n g m x t k p r q ln co q (Ak (fun i=>ieq (ofNat (ln i)) 2) q) (BD (fun i=>ieq (ofNat (ln i)) 2) (fun i=>ofNat i) q) (Cs _ _) hf n1 n2 n3 n4 n5 hc (An (hrun _ _))),?_⟩
      exact A6.one fun i hi=>(Ii _ _ i hi).symm
  · cases h
end Go.Proofs.Ytjhnfomefcngfaa.Sh
