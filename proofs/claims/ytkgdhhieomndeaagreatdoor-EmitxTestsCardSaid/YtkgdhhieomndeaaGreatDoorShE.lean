/-
  Layer 7: the document's cycle turned, where a location's segment begins, its walk through it. No conditions.
-/
import Derived.Test.YtkgdhhieomndeaaGreatDoorShW
namespace Go.Proofs.YtkgdhhieomndeaaGreatDoor.Sh
open Go.Sy Ed
open Int (ofNat)
set_option maxHeartbeats 1000000
set_option maxRecDepth 4000
noncomputable def Afk (n:Nat) (f:Nat->E6):Bool:=@decide (∃ a,IsCycle a n f) (Classical.propDecidable _)
theorem Um {n:Nat} {f:Nat->E6}:Afk n f=true↔∃ a,IsCycle a n f:=by
 unfold Afk;exact @decide_eq_true_iff _ (Classical.propDecidable _)
noncomputable def Ad4:AP:=(47,H7)::(78,BI λe=>bV (AK e))::(69,I9)::[]
theorem Ad3:Av Tryz.prog Gl Ad4:=.cons p93 <| .cons p60 <| .cons p69 .nil
def lp56 (n:Nat) (f:Nat->E6):Lp:=⟨bmK 27 0 [3,5],2,bmK 27 0 [2],3,n+1⟩
def st56 (n:Nat) (f:Nat->E6) (b:Nat) (j:Nat->V):St:=⟨jsV 27 0 j [(3,.ref 1),(5,nV b)],[.row 92 6 0 Aa,.row 92 6 n (λi=>eV (AV n f i))]⟩
def Acp (n:Nat) (f:Nat->E6) (b:Nat):Ex×St:=(.rt,⟨jsV 27 0 Aa [(2,.ref 2)],[.row 92 6 0 Aa,.row 92 6 n (λi=>eV (AV n f i)),.row 92 6 n (λi=>eV (AT n (AV n f) (ofNat b) i))]⟩)
noncomputable def body56 (L:LT):St->T (Ex×St):=λst=>A7 tab ⟨Ap Ad4,L,Gl⟩ (Ar Tryz.f53 0) 0 st
section
variable (L:LT) (n:Nat) (f:Nat->E6) (b:Nat)  (j:Nat->V)
include L n f b j
theorem AnT (h0:ilt (ofNat b) (ofNat n)=true) (h13:ile 0 (ofNat b)=true) (h1:nlt b n=true) (h2:AK (AV n f b)=false):Ah (body56 L) (lp56 n f) (st56 n f b j)=some (.nm,⟨jsV 27 0 Aa [(3,.ref 1),(5,iV (wr .i64 (Af (ofNat b) 1)))],[.row 92 6 0 Aa,.row 92 6 n (λi=>eV (AV n f i))]⟩):=by
 exact Ab (ks:=[kn h0,kA (kn h13) (kn h0),kn h1,kn h2]) (by kernel_rfl)
theorem AnS (h0:ilt (ofNat b) (ofNat n)=true) (h14:ile 0 (ofNat b)=true) (h1:nlt b n=true) (h2:AK (AV n f b)=true) (h3:BF n=true) (h15:BC [.row 3 1 n (λ_=>iV 0)]=true):Ah (body56 L) (lp56 n f) (st56 n f b j)=some (.rt,⟨jsV 27 0 Aa [(2,.ref 2)],[.row 92 6 0 Aa,.row 92 6 n (λi=>eV (AV n f i)),.row 92 6 n (λi=>eV (AT n (λi=>AV n f i) (wr .i64 (Af (ofNat b) 1)) i))]⟩):=by
 exact Ab (ks:=[kn h0,kA (kn h14) (kn h0),kn h1,kn h2,kL n,kn h3,kn h15]) (by kernel_rfl)
end
def AoD (n:Nat) (f:Nat->E6) :Nat->V:=lkV A9 [(0,.sl 6 n (λi=>eV (f i))),(2,.ref 0),(4,iV 0),(6,.tup [.ref 1,iV 0]),(7,.sl 6 n (λi=>eV (f i))),(8,.tup [.ref 1,iV 0]),(9,.ref 1),(10,iV 0)]
theorem w56 (L:LT) (p0:PT) (n:Nat) (f:Nat->E6) (q:Nat) (h0:BF n=true) (h1:Co n f=true) (hp0:p0 (body56 (onP 0 p0 (Acp n f q) L)) (st56 n f 0 (AoD n f ))=true):(Az (Ak tab ⟨Ap Ad4,onP 0 p0 (Acp n f q) L,Gl⟩ Tryz.f53 [.sl 6 n λi=>eV (f i)] [])).sem=some ((.ref 0),[.row 92 6 n (λi=>eV (AT n (AV n f) (ofNat q) i))]):=by
 exact Ab (ks:=[kL n,kn h0,kn h1,kn hp0]) (by kernel_rfl)
theorem run56 (L:LT) (n:Nat) (f:Nat->E6) (hf:BF n=true) (hn:n <= 4611686018427387903) (k:Nat) (hk:k<n) (ht:AK (AV n f k)=true) (hb:∀ i,i<k->AK (AV n f i)=false):∀ (e b:Nat) (j:Nat->V) (q:Nat),k=b+e->e<q ->
  (A3 (body56 L) (lp56 n f) q (st56 n f b j)).sem=some (Acp n f (k+1))
 | 0,b,j,q+1,h,_=>by
  have:k=b:=by omega
  subst this;rw [Ae (AnS L n f k j (ofNat_lt hk) (AF k) (decide_eq_true hk) ht hf ED),IR,Aq hk (by omega)];rfl
 | e+1,b,j,q+1,h,h2=>by
  have hl:b<n:=by omega
  rw [Ae (AnT L n f b j (ofNat_lt hl) (AF b) (decide_eq_true hl) (hb b (by omega))),Ay,Aq hl (by omega)];exact run56 L n f hf hn k hk ht hb e (b+1) Aa q (by omega) (by omega)
theorem Yg {n k:Nat}:DG n (ofNat k)=k % n:=by
 unfold DG;rw [CO];have:ilt (ofNat (k % n)) 0=false:=by simp [ilt]; omega
 rw [this];rfl
noncomputable def Ac2:List V->AR:=FT λn f=>.br (BF n) (.br (Afk n f) (.leaf (.ref 0,[.row 92 6 n λi=>eV (shG n f i)])) .fail) .fail
theorem p56:Ax Tryz.prog Gl 53 Ac2:=by
 refine Am A8 mixed Tryz.func53 (by kernel_rfl) (by kernel_rfl) λvs v h' h=>?_;obtain ⟨n,f,ha,h⟩:=Ct h;obtain ⟨hn,h⟩:=Ad h;obtain ⟨hc,h⟩:=Ad h;have:=Ac h;simp only [Prod.mk.injEq] at this;obtain ⟨rfl,rfl⟩:=this;obtain ⟨a,hy⟩:=Um.1 hc;have hhi:=hy.hi;obtain ⟨z1,z2,z3,z4⟩:=QX hy;have hx:=AI Ad3 [(0,lp56 n f)] (G:=Gl);have hL:=AL [(0,lp56 n f)];refine ⟨_,AC Gl Ad4 [(0,lp56 n f)],_,ha,rfl,hx.1,hx.2,AH (AA hL hL) _ (w56 _ _ n f (Eh (λi=>AK (AV n f i)) n+1) hn hy.may (Au (run56 _ n f hn (by omega) _ z1 z2 z3 _ 0 _ (n+1) (Nat.zero_add _).symm (by omega)))),Aw.one λi hi=>?_⟩;rw [QY hi];unfold AT shQ;rw [Yg]
def K3 (n:Nat) (g:Nat->E6) (x:Nat->Ev5) (lc:Int) (i:Nat):Bool:=Al (ieq (x i).loc lc) (AJ (g ((i+(n-1)) % n)))
def GC (n:Nat) (g:Nat->E6) (x:Nat->Ev5) (lc:Int):Int:=bif decide (Eh (K3 n g x lc) n<n) then ofNat (Eh (K3 n g x lc) n) else -1
noncomputable def ZN:AP:=(79,BI λe=>bV (AJ e))::[]
theorem Adq:Av Tryz.prog Gl ZN:=.cons p61 .nil
def lp95 (a:Int) (n:Nat) (g:Nat->E6) (x:Nat->Ev5) (tt k0:Int) (nr:Nat) (r:Nat->Int) (nc:Nat) (ln:Nat->Nat) (co:Nat->Nat->Int) (lc:Int):Lp:=⟨bmK 37 0 [1,2,4,5,6],1,bmK 37 0 [4],0,n+1⟩
def st95 (a:Int) (n:Nat) (g:Nat->E6) (x:Nat->Ev5) (tt k0:Int) (nr:Nat) (r:Nat->Int) (nc:Nat) (ln:Nat->Nat) (co:Nat->Nat->Int) (lc:Int) (b:Nat) (j:Nat->V):St:=⟨jsV 37 0 j [(1,iV lc),(2,.ptr 0 0),(4,iV 0),(5,nV n),(6,nV b)],[.cells [iV a,.sl 6 n (λi=>eV (g i)),.sl 5 n (λi=>evV (x i)),iV tt,iV k0,.sl 1 nr (λi=>iV (r i)),.sl 1 nc (λk=>.sl 1 (ln k) (λi=>iV (co k i)))]]⟩
def XE (a:Int) (n:Nat) (g:Nat->E6) (x:Nat->Ev5) (tt k0:Int) (nr:Nat) (r:Nat->Int) (nc:Nat) (ln:Nat->Nat) (co:Nat->Nat->Int) (lc:Int) (b:Nat):Ex×St:=(.rt,⟨jsV 37 0 Aa [(4,nV b)],[]⟩)
def XF (a:Int) (n:Nat) (g:Nat->E6) (x:Nat->Ev5) (tt k0:Int) (nr:Nat) (r:Nat->Int) (nc:Nat) (ln:Nat->Nat) (co:Nat->Nat->Int) (lc:Int) (b:Nat):Ex×St:=(.ex 0,⟨jsV 37 0 Aa [(4,iV 0)],[]⟩)
noncomputable def body95 (L:LT):St->T (Ex×St):=λst=>A7 tab ⟨Ap ZN,L,Gl⟩ (Ar Tryz.f83 0) 0 st
section
variable (L:LT) (a:Int) (n:Nat) (g:Nat->E6) (x:Nat->Ev5) (tt k0:Int) (nr:Nat) (r:Nat->Int) (nc:Nat) (ln:Nat->Nat) (co:Nat->Nat->Int) (lc:Int) (b:Nat)  (j:Nat->V)
include L a n g x tt k0 nr r nc ln co lc b j
theorem AnN (h0:ilt (ofNat b) (ofNat n)=false):Ah (body95 L) (lp95 a n g x tt k0 nr r nc ln co lc) (st95 a n g x tt k0 nr r nc ln co lc b j)=some ((.ex 0),⟨jsV 37 0 Aa [(4,iV 0)],[]⟩):=by
 exact Ab (ks:=[kn h0]) (by kernel_rfl)
theorem AnP (h0:ilt (ofNat b) (ofNat n)=true) (h14:ile 0 (ofNat b)=true) (h3:ieq (x b).loc lc=false):Ah (body95 L) (lp95 a n g x tt k0 nr r nc ln co lc) (st95 a n g x tt k0 nr r nc ln co lc b j)=some (.nm,⟨jsV 37 0 Aa [(1,iV lc),(2,.ptr 0 0),(4,iV 0),(5,nV n),(6,iV (wr .i64 (Af (ofNat b) 1)))],[.cells [iV a,.sl 6 n (λi=>eV (g i)),.sl 5 n (λi=>evV (x i)),iV tt,iV k0,.sl 1 nr (λi=>iV (r i)),.sl 1 nc (λk=>.sl 1 (ln k) (λi=>iV (co k i)))]]⟩):=by
 exact Ab (ks:=[kn h0,kA (kn h14) (kn h0),kn h3,kn h3,kn h3,kn h3,kn h3,kn h3,kn h3,kn h3,kn h3,kn h3,kn h3,kn h3,kF]) (by kernel_rfl)
theorem AnO (h0:ilt (ofNat b) (ofNat n)=true) (h15:ile 0 (ofNat b)=true) (h3:ieq (x b).loc lc=true) (h1:ieq (ofNat n) 0=false) (h17:Al (ile 0 (Ag (wr .i64 (A5 (wr .i64 (Af (ofNat b) (ofNat n))) 1)) (ofNat n))) (ilt (Ag (wr .i64 (A5 (wr .i64 (Af (ofNat b) (ofNat n))) 1)) (ofNat n)) (ofNat n))=true) (h4:AJ (g (toN (Ag (wr .i64 (A5 (wr .i64 (Af (ofNat b) (ofNat n))) 1)) (ofNat n))))=false):Ah (body95 L) (lp95 a n g x tt k0 nr r nc ln co lc) (st95 a n g x tt k0 nr r nc ln co lc b j)=some (.nm,⟨jsV 37 0 Aa [(1,iV lc),(2,.ptr 0 0),(4,iV 0),(5,nV n),(6,iV (wr .i64 (Af (ofNat b) 1)))],[.cells [iV a,.sl 6 n (λi=>eV (g i)),.sl 5 n (λi=>evV (x i)),iV tt,iV k0,.sl 1 nr (λi=>iV (r i)),.sl 1 nc (λk=>.sl 1 (ln k) (λi=>iV (co k i)))]]⟩):=by
 exact Ab (ks:=[kn h0,kA (kn h15) (kn h0),kn h3,kn h3,kn h3,kn h3,kn h3,kn h3,kn h3,kn h3,kn h1,kn h3,kn h17,kn h3,kn h3,kn h3,kn h4]) (by kernel_rfl)
theorem AnM (h0:ilt (ofNat b) (ofNat n)=true) (h15:ile 0 (ofNat b)=true) (h3:ieq (x b).loc lc=true) (h1:ieq (ofNat n) 0=false) (h17:Al (ile 0 (Ag (wr .i64 (A5 (wr .i64 (Af (ofNat b) (ofNat n))) 1)) (ofNat n))) (ilt (Ag (wr .i64 (A5 (wr .i64 (Af (ofNat b) (ofNat n))) 1)) (ofNat n)) (ofNat n))=true) (h4:AJ (g (toN (Ag (wr .i64 (A5 (wr .i64 (Af (ofNat b) (ofNat n))) 1)) (ofNat n))))=true):Ah (body95 L) (lp95 a n g x tt k0 nr r nc ln co lc) (st95 a n g x tt k0 nr r nc ln co lc b j)=some (.rt,⟨jsV 37 0 Aa [(4,nV b)],[]⟩):=by
 exact Ab (ks:=[kn h0,kA (kn h15) (kn h0),kn h3,kn h3,kn h3,kn h3,kn h3,kn h3,kn h3,kn h3,kn h1,kn h3,kn h17,kn h3,kn h3,kn h3,kn h4]) (by kernel_rfl)
end
def Amv (a:Int) (n:Nat) (g:Nat->E6) (x:Nat->Ev5) (tt k0:Int) (nr:Nat) (r:Nat->Int) (nc:Nat) (ln:Nat->Nat) (co:Nat->Nat->Int) (lc:Int) :Nat->V:=lkV A9 [(0,.agg [iV a,.sl 6 n (λi=>eV (g i)),.sl 5 n (λi=>evV (x i)),iV tt,iV k0,.sl 1 nr (λi=>iV (r i)),.sl 1 nc (λk=>.sl 1 (ln k) (λi=>iV (co k i)))]),(7,.ptr 0 1),(8,.sl 6 n (λi=>eV (g i))),(9,nV n)]
section
variable (L:LT) (p0:PT) (a:Int) (n:Nat) (g:Nat->E6) (x:Nat->Ev5) (tt k0:Int) (nr:Nat) (r:Nat->Int) (nc:Nat) (ln:Nat->Nat) (co:Nat->Nat->Int) (lc:Int) (q:Nat)
include L p0 a n g x tt k0 nr r nc ln co lc q
theorem Anu  (hp0:p0 (body95 (onP 0 p0 (XE a n g x tt k0 nr r nc ln co lc q) L)) (st95 a n g x tt k0 nr r nc ln co lc 0 (Amv a n g x tt k0 nr r nc ln co lc ))=true):(Az (Ak tab ⟨Ap ZN,onP 0 p0 (XE a n g x tt k0 nr r nc ln co lc q) L,Gl⟩ Tryz.f83 [.agg [iV a,.sl 6 n (λi=>eV (g i)),.sl 5 n (λi=>evV (x i)),iV tt,iV k0,.sl 1 nr (λi=>iV (r i)),.sl 1 nc (λk=>.sl 1 (ln k) (λi=>iV (co k i)))],iV lc] [])).sem=some ((nV q),[]):=by
 exact Ab (ks:=[kn hp0]) (by kernel_rfl)
theorem Anv  (hp0:p0 (body95 (onP 0 p0 (XF a n g x tt k0 nr r nc ln co lc q) L)) (st95 a n g x tt k0 nr r nc ln co lc 0 (Amv a n g x tt k0 nr r nc ln co lc ))=true):(Az (Ak tab ⟨Ap ZN,onP 0 p0 (XF a n g x tt k0 nr r nc ln co lc q) L,Gl⟩ Tryz.f83 [.agg [iV a,.sl 6 n (λi=>eV (g i)),.sl 5 n (λi=>evV (x i)),iV tt,iV k0,.sl 1 nr (λi=>iV (r i)),.sl 1 nc (λk=>.sl 1 (ln k) (λi=>iV (co k i)))],iV lc] [])).sem=some ((iV (-1)),[]):=by
 exact Ab (ks:=[kn hp0]) (by kernel_rfl)
end
theorem run95 (L:LT) (a:Int) (n:Nat) (g:Nat->E6) (x:Nat->Ev5) (tt k0:Int) (nr:Nat) (r:Nat->Int) (nc:Nat) (ln:Nat->Nat) (co:Nat->Nat->Int) (lc:Int) (hn:n <= 4611686018427387904):∀ (e b:Nat) (j:Nat->V) (q:Nat),n=b+e->e<q->(∀ k,k<b->K3 n g x lc k=false) ->
  ((A3 (body95 L) (lp95 a n g x tt k0 nr r nc ln co lc) q (st95 a n g x tt k0 nr r nc ln co lc b j)).sem=some (XF a n g x tt k0 nr r nc ln co lc 0)∧GC n g x lc = -1) ∨ ∃ i,(A3 (body95 L) (lp95 a n g x tt k0 nr r nc ln co lc) q (st95 a n g x tt k0 nr r nc ln co lc b j)).sem=some (XE a n g x tt k0 nr r nc ln co lc i)∧GC n g x lc=ofNat i
 | 0,b,j,q+1,h,_,hb=>by
  have:n=b:=by omega
  subst this;refine .inl ⟨Ae (AnN L a n g x tt k0 nr r nc ln co lc n j (A1 (Nat.le_refl _))),?_⟩;unfold GC;rw [GQ hb];simp
 | e+1,b,j,q+1,h,h2,hb=>by
  have hl:b<n:=by omega
  have hx:=Lh (a:=b) (n:=n) (by omega) (by omega);have hlt:(b+(n-1)) % n<n:=Nat.mod_lt _ (by omega);have hin:Al (ile 0 (Ag (wr .i64 (A5 (wr .i64 (Af (ofNat b) (ofNat n))) 1)) (ofNat n))) (ilt (Ag (wr .i64 (A5 (wr .i64 (Af (ofNat b) (ofNat n))) 1)) (ofNat n)) (ofNat n))=true:=by rw [hx]; exact Ao hlt
  have next:K3 n g x lc b=false->_:=λhf=>run95 L a n g x tt k0 nr r nc ln co lc hn e (b+1) Aa q (by omega) (by omega) λk hk=>by
   by_cases hki:k=b
   ·rw [hki]; exact hf
   ·exact hb k (by omega)
  cases h1:ieq (x b).loc lc with
  | false =>rw [Ae (AnP L a n g x tt k0 nr r nc ln co lc b j (ofNat_lt hl) (AF b) h1),Ay,Aq hl (by omega)];exact next (by unfold K3; rw [h1]; rfl)
  | true =>
   cases hm:AJ (g ((b+(n-1)) % n)) with
   | false =>rw [Ae (AnO L a n g x tt k0 nr r nc ln co lc b j (ofNat_lt hl) (AF b) h1 (LQ (by omega)) hin (by rw [hx]; exact hm)),Ay,Aq hl (by omega)];exact next (by unfold K3; rw [h1,hm]; rfl)
   | true =>refine .inr ⟨b,Ae (AnM L a n g x tt k0 nr r nc ln co lc b j (ofNat_lt hl) (AF b) h1 (LQ (by omega)) hin (by rw [hx]; exact hm)),?_⟩;unfold GC;rw [Kv hl (by unfold K3; rw [h1,hm]; rfl) hb,decide_eq_true hl];rfl
def VS:List V->AR
 | [v,.val (.int .i64 lc)]=>apS v λs=>.br (AE s.nx s.ne) (.br (Aj s.ne) (.leaf (iV (GC s.ne s.E s.X lc),[])) .fail) .fail
 | _=>.fail
theorem p95:Ax Tryz.prog Gl 83 VS:=by
 refine Am A8 mixed Tryz.func83 (by kernel_rfl) (by kernel_rfl) λvs v h' h=>?_;unfold VS at h;split at h
 ·rename_i u lc
  obtain ⟨s,ha,h⟩:=apS_some h;obtain ⟨h1,h⟩:=Ad h;obtain ⟨h2,h⟩:=Ad h;have:=Ac h;simp only [Prod.mk.injEq] at this;obtain ⟨rfl,rfl⟩:=this;obtain ⟨a,n,g,nx,x,tt,k0,nr,r,nc,C⟩:=s;have h1:nx=n:=Nat.eq_of_beq_eq_true h1;subst h1;have h2:nx <= 4611686018427387904:=of_decide_eq_true h2;have hA:Bf [u,iV lc] [.agg [iV a,.sl 6 nx (λi=>eV (g i)),.sl 5 nx (λi=>evV (x i)),iV tt,iV k0,.sl 1 nr (λi=>iV (r i)),.sl 1 nc (λk=>.sl 1 (C k).1 (λi=>iV ((C k).2 i)))],iV lc]:=λS w cs hv=>by
   obtain ⟨c,l,rfl,q1,q2⟩:=hv;exact ⟨c,l,rfl,ha S w c q1,q2⟩
  have hx:=AI Adq [(0,lp95 a nx g x tt k0 nr r nc (λk=>(C k).1) (λk=>(C k).2) lc)] (G:=Gl);have hL:=AL [(0,lp95 a nx g x tt k0 nr r nc (λk=>(C k).1) (λk=>(C k).2) lc)];refine ⟨_,AC Gl ZN [(0,lp95 a nx g x tt k0 nr r nc (λk=>(C k).1) (λk=>(C k).2) lc)],_,hA,rfl,hx.1,hx.2,?_,Aw.refl _⟩;have h0:=λL j=>run95 L a nx g x tt k0 nr r nc (λk=>(C k).1) (λk=>(C k).2) lc h2 nx 0 j (nx+1) (by omega) (by omega) (λk hk=>absurd hk (Nat.not_lt_zero _));rcases h0 Ael Aa with ⟨_,h5⟩ | ⟨i,_,h5⟩
  ·have h6:∀ L j,(A3 (body95 L) (lp95 a nx g x tt k0 nr r nc (λk=>(C k).1) (λk=>(C k).2) lc) (nx+1) (st95 a nx g x tt k0 nr r nc (λk=>(C k).1) (λk=>(C k).2) lc 0 j)).sem=some (XF a nx g x tt k0 nr r nc (λk=>(C k).1) (λk=>(C k).2) lc 0):=λL j=>by
    rcases h0 L j with ⟨h,_⟩ | ⟨i,_,h⟩
    ·exact h
    ·rw [h5] at h
     cases h
   rw [h5];exact AH (AA hL hL) _ (Anv _ _ a nx g x tt k0 nr r nc (λk=>(C k).1) (λk=>(C k).2) lc 0 (Au (h6 _ _)))
  ·have h6:∀ L j,(A3 (body95 L) (lp95 a nx g x tt k0 nr r nc (λk=>(C k).1) (λk=>(C k).2) lc) (nx+1) (st95 a nx g x tt k0 nr r nc (λk=>(C k).1) (λk=>(C k).2) lc 0 j)).sem=some (XE a nx g x tt k0 nr r nc (λk=>(C k).1) (λk=>(C k).2) lc i):=λL j=>by
    rcases h0 L j with ⟨_,h⟩ | ⟨i',h,h'⟩
    ·rw [h5] at h
     cases h
    ·rw [h5] at h'
     cases h';exact h
   rw [h5];exact AH (AA hL hL) _ (Anu _ _ a nx g x tt k0 nr r nc (λk=>(C k).1) (λk=>(C k).2) lc i (Au (h6 _ _)))
 ·cases h
noncomputable def UI:AP:=(83,VS)::[]
theorem WE:Av Tryz.prog Gl UI:=.cons p95 .nil
def Qx (a:Int) (n k kk:Nat) (g:Nat->E6) (th lo:Nat->Int) (tt:Int) (c0:Nat->V) (x0:Nat->Ev5) (r0:Nat->Int) (ln:Nat->Nat) (co:Nat->Nat->Int) (ts:List V) :St:=⟨jsV 79 0 (λ_=>A9) [(0,.agg [iV a,.ref 1,.ref 5,iV tt,nV kk,.ref 6,.jref 7]),(1,nV k),(2,.ptr 9 0),(4,.ptr 10 0),(5,.ref 11),(6,nV n),(7,iV (GC n g x0 (ofNat k))),(8,iV (-1)),(9,iV 0),(11,.ptr 9 1),(12,.ref 1),(13,nV n),(14,.agg [iV a,.ref 1,.ref 5,iV tt,nV kk,.ref 6,.jref 7]),(15,nV k),(16,iV (GC n g x0 (ofNat k)))],[c7Z,.row 92 6 n (λi=>eV (g i)),.row 3 1 n (λi=>iV (th i)),.row 3 1 n (λi=>iV (lo i)),.cells [iV a,.ref 1,.ref 5,iV tt,nV kk,.ref 6,.jref 7],.row 80 5 n (λi=>evV (x0 i)),.row 3 1 n (λi=>iV (r0 i)),.jag (Jag.mk 24 1 k c0 0 3 1 (λ_=>true) ln (λi q=>iV (co i q))),.saved ts,.cells [iV a,.ref 1,.ref 5,iV tt,nV kk,.ref 6,.jref 7],c7Z,.row 3 1 0 Aa]⟩
def lp59 (a:Int) (n k kk:Nat) (g:Nat->E6) (th lo:Nat->Int) (tt:Int) (c0:Nat->V) (x0:Nat->Ev5) (r0:Nat->Int) (ln:Nat->Nat) (co:Nat->Nat->Int) (ts:List V):Lp:=⟨bmK 79 0 [1,2,4,5,6,7,8,9],12,bmK 79 0 [2,4,5],12,17⟩
def st59 (a:Int) (n k kk:Nat) (g:Nat->E6) (th lo:Nat->Int) (tt:Int) (c0:Nat->V) (x0:Nat->Ev5) (r0:Nat->Int) (ln:Nat->Nat) (co:Nat->Nat->Int) (ts:List V) (b m:Nat) (z la:Int) (x:Nat->Ev5) (r w:Nat->Int) (j:Nat->V):St:=⟨jsV 79 0 j [(1,nV k),(2,.ptr 9 0),(4,.ptr 10 0),(5,.ref 11),(6,nV n),(7,iV z),(8,iV la),(9,nV b)],[c7Z,.row 92 6 n (λi=>eV (g i)),.row 3 1 n (λi=>iV (th i)),.row 3 1 n (λi=>iV (lo i)),.cells [iV a,.ref 1,.ref 5,iV tt,nV kk,.ref 6,.jref 7],.row 80 5 n (λi=>evV (x i)),.row 3 1 n (λi=>iV (r i)),.jag (Jag.mk 24 1 k c0 0 3 1 (λ_=>true) ln (λi q=>iV (co i q))),.saved ts,.cells [iV a,.ref 1,.ref 5,iV tt,nV kk,.ref 6,.jref 7],c7Z,.row 3 1 m (λi=>iV (w i))]⟩
def en59e (a:Int) (n k kk:Nat) (g:Nat->E6) (th lo:Nat->Int) (tt:Int) (c0:Nat->V) (x0:Nat->Ev5) (r0:Nat->Int) (ln:Nat->Nat) (co:Nat->Nat->Int) (ts:List V) (b m:Nat) (z la:Int) (x:Nat->Ev5) (r w:Nat->Int):Ex×St:=(.ex 0,⟨jsV 79 0 Aa [(2,.ptr 9 0),(4,.ptr 10 0),(5,.ref 11)],[c7Z,.row 92 6 n (λi=>eV (g i)),.row 3 1 n (λi=>iV (th i)),.row 3 1 n (λi=>iV (lo i)),.cells [iV a,.ref 1,.ref 5,iV tt,nV kk,.ref 6,.jref 7],.row 80 5 n (λi=>evV (x i)),.row 3 1 n (λi=>iV (r i)),.jag (Jag.mk 24 1 k c0 0 3 1 (λ_=>true) ln (λi q=>iV (co i q))),.saved ts,.cells [iV a,.ref 1,.ref 5,iV tt,nV kk,.ref 6,.jref 7],c7Z,.row 3 1 m (λi=>iV (w i))]⟩)
noncomputable def JP (L:LT):St->T (Ex×St):=λst=>A7 tab ⟨Ap UI,L,Gl⟩ (Ar Tryz.f56 0) 0 st
section
variable (L:LT) (a:Int) (n k kk:Nat) (g:Nat->E6) (th lo:Nat->Int) (tt:Int) (c0:Nat->V) (x0:Nat->Ev5) (r0:Nat->Int) (ln:Nat->Nat) (co:Nat->Nat->Int) (ts:List V) (b m:Nat) (z la:Int) (x:Nat->Ev5) (r w:Nat->Int)  (j:Nat->V)
include L a n k kk g th lo tt c0 x0 r0 ln co ts b m z la x r w j
theorem AkC (h0:ilt (ofNat b) (ofNat n)=false):Ah (JP L) (lp59 a n k kk g th lo tt c0 x0 r0 ln co ts) (st59 a n k kk g th lo tt c0 x0 r0 ln co ts b m z la x r w j)=some ((.ex 0),⟨jsV 79 0 Aa [(2,.ptr 9 0),(4,.ptr 10 0),(5,.ref 11)],[c7Z,.row 92 6 n (λi=>eV (g i)),.row 3 1 n (λi=>iV (th i)),.row 3 1 n (λi=>iV (lo i)),.cells [iV a,.ref 1,.ref 5,iV tt,nV kk,.ref 6,.jref 7],.row 80 5 n (λi=>evV (x i)),.row 3 1 n (λi=>iV (r i)),.jag (Jag.mk 24 1 k c0 0 3 1 (λ_=>true) ln (λi q=>iV (co i q))),.saved (Cf 12 ts),.cells [iV a,.ref 1,.ref 5,iV tt,nV kk,.ref 6,.jref 7],c7Z,.row 3 1 m (λi=>iV (w i))]⟩):=by
 exact Ab (ks:=[kn h0,kn h0,kn h0,kn h0,kn h0,kn h0,kn h0,kn h0,kn h0,kn h0,kn h0,kn h0,kn h0,kF]) (by kernel_rfl)
theorem Ak9 (h0:ilt (ofNat b) (ofNat n)=true) (h1:ieq (ofNat n) 0=false) (h19:Al (ile 0 (Ag (wr .i64 (Af z (ofNat b))) (ofNat n))) (ilt (Ag (wr .i64 (Af z (ofNat b))) (ofNat n)) (ofNat n))=true) (h2:nlt (toN (Ag (wr .i64 (Af z (ofNat b))) (ofNat n))) n=true) (h3:ieq (x (toN (Ag (wr .i64 (Af z (ofNat b))) (ofNat n)))).loc (ofNat k)=false):Ah (JP L) (lp59 a n k kk g th lo tt c0 x0 r0 ln co ts) (st59 a n k kk g th lo tt c0 x0 r0 ln co ts b m z la x r w j)=some ((.ex 0),⟨jsV 79 0 Aa [(2,.ptr 9 0),(4,.ptr 10 0),(5,.ref 11)],[c7Z,.row 92 6 n (λi=>eV (g i)),.row 3 1 n (λi=>iV (th i)),.row 3 1 n (λi=>iV (lo i)),.cells [iV a,.ref 1,.ref 5,iV tt,nV kk,.ref 6,.jref 7],.row 80 5 n (λi=>evV (x i)),.row 3 1 n (λi=>iV (r i)),.jag (Jag.mk 24 1 k c0 0 3 1 (λ_=>true) ln (λi q=>iV (co i q))),.saved (Cf 12 ts),.cells [iV a,.ref 1,.ref 5,iV tt,nV kk,.ref 6,.jref 7],c7Z,.row 3 1 m (λi=>iV (w i))]⟩):=by
 exact Ab (ks:=[kn h0,kn h0,kn h0,kn h0,kn h0,kn h0,kn h0,kn h1,kn h0,kn h19,kn h0,kn h0,kn h2,kn h0,kn h0,kn h0,kn h3]) (by kernel_rfl)
theorem AkB (h0:ilt (ofNat b) (ofNat n)=true) (h1:ieq (ofNat n) 0=false) (h20:Al (ile 0 (Ag (wr .i64 (Af z (ofNat b))) (ofNat n))) (ilt (Ag (wr .i64 (Af z (ofNat b))) (ofNat n)) (ofNat n))=true) (h2:nlt (toN (Ag (wr .i64 (Af z (ofNat b))) (ofNat n))) n=true) (h3:ieq (x (toN (Ag (wr .i64 (Af z (ofNat b))) (ofNat n)))).loc (ofNat k)=true) (h4:ieq (x (toN (Ag (wr .i64 (Af z (ofNat b))) (ofNat n)))).dir 2=false):Ah (JP L) (lp59 a n k kk g th lo tt c0 x0 r0 ln co ts) (st59 a n k kk g th lo tt c0 x0 r0 ln co ts b m z la x r w j)=some (.nm,⟨jsV 79 0 Aa [(1,nV k),(2,.ptr 9 0),(4,.ptr 10 0),(5,.ref 11),(6,nV n),(7,iV z),(8,iV la),(9,iV (wr .i64 (Af (ofNat b) 1)))],[c7Z,.row 92 6 n (λi=>eV (g i)),.row 3 1 n (λi=>iV (th i)),.row 3 1 n (λi=>iV (lo i)),.cells [iV a,.ref 1,.ref 5,iV tt,nV kk,.ref 6,.jref 7],.row 80 5 n (λi=>.agg [iV (sel (AE i (toN (Ag (wr .i64 (Af z (ofNat b))) (ofNat n)))) (x (toN (Ag (wr .i64 (Af z (ofNat b))) (ofNat n)))).th (x i).th),iV (sel (AE i (toN (Ag (wr .i64 (Af z (ofNat b))) (ofNat n)))) (x (toN (Ag (wr .i64 (Af z (ofNat b))) (ofNat n)))).pl (x i).pl),iV (sel (AE i (toN (Ag (wr .i64 (Af z (ofNat b))) (ofNat n)))) (x (toN (Ag (wr .i64 (Af z (ofNat b))) (ofNat n)))).dir (x i).dir),iV (sel (AE i (toN (Ag (wr .i64 (Af z (ofNat b))) (ofNat n)))) (x (toN (Ag (wr .i64 (Af z (ofNat b))) (ofNat n)))).loc (x i).loc),iV (sel (AE i (toN (Ag (wr .i64 (Af z (ofNat b))) (ofNat n)))) (ofNat m) (x i).val)]),.row 3 1 n (BT (λi=>iV (r i)) (toN (Ag (wr .i64 (Af z (ofNat b))) (ofNat n))) (iV la)),.jag (Jag.mk 24 1 k c0 0 3 1 (λ_=>true) ln (λi q=>iV (co i q))),.saved (Cf 12 ts),.cells [iV a,.ref 1,.ref 5,iV tt,nV kk,.ref 6,.jref 7],c7Z,.row 3 1 m (λi=>iV (w i))]⟩):=by
 exact Ab (ks:=[kn h0,kn h0,kn h0,kn h0,kn h0,kn h0,kn h0,kn h1,kn h0,kn h20,kn h0,kn h0,kn h2,kn h0,kn h0,kn h0,kn h3,kn h1,kn h20,kn h2,kn h4,kn h20,kn h2,kn h20,kn h2]) (by kernel_rfl)
theorem AkA (h0:ilt (ofNat b) (ofNat n)=true) (h1:ieq (ofNat n) 0=false) (h20:Al (ile 0 (Ag (wr .i64 (Af z (ofNat b))) (ofNat n))) (ilt (Ag (wr .i64 (Af z (ofNat b))) (ofNat n)) (ofNat n))=true) (h2:nlt (toN (Ag (wr .i64 (Af z (ofNat b))) (ofNat n))) n=true) (h3:ieq (x (toN (Ag (wr .i64 (Af z (ofNat b))) (ofNat n)))).loc (ofNat k)=true) (h4:ieq (x (toN (Ag (wr .i64 (Af z (ofNat b))) (ofNat n)))).dir 2=true) (h21:Ba m 1 8=true):Ah (JP L) (lp59 a n k kk g th lo tt c0 x0 r0 ln co ts) (st59 a n k kk g th lo tt c0 x0 r0 ln co ts b m z la x r w j)=some (.nm,⟨jsV 79 0 Aa [(1,nV k),(2,.ptr 9 0),(4,.ptr 10 0),(5,.ref 11),(6,nV n),(7,iV z),(8,iV (Ag (wr .i64 (Af z (ofNat b))) (ofNat n))),(9,iV (wr .i64 (Af (ofNat b) 1)))],[c7Z,.row 92 6 n (λi=>eV (g i)),.row 3 1 n (λi=>iV (th i)),.row 3 1 n (λi=>iV (lo i)),.cells [iV a,.ref 1,.ref 5,iV tt,nV kk,.ref 6,.jref 7],.row 80 5 n (λi=>.agg [iV (sel (AE i (toN (Ag (wr .i64 (Af z (ofNat b))) (ofNat n)))) (x (toN (Ag (wr .i64 (Af z (ofNat b))) (ofNat n)))).th (x i).th),iV (sel (AE i (toN (Ag (wr .i64 (Af z (ofNat b))) (ofNat n)))) (x (toN (Ag (wr .i64 (Af z (ofNat b))) (ofNat n)))).pl (x i).pl),iV (sel (AE i (toN (Ag (wr .i64 (Af z (ofNat b))) (ofNat n)))) (x (toN (Ag (wr .i64 (Af z (ofNat b))) (ofNat n)))).dir (x i).dir),iV (sel (AE i (toN (Ag (wr .i64 (Af z (ofNat b))) (ofNat n)))) (x (toN (Ag (wr .i64 (Af z (ofNat b))) (ofNat n)))).loc (x i).loc),iV (sel (AE i (toN (Ag (wr .i64 (Af z (ofNat b))) (ofNat n)))) (ofNat (AS m 1)) (x i).val)]),.row 3 1 n (λi=>iV (r i)),.jag (Jag.mk 24 1 k c0 0 3 1 (λ_=>true) ln (λi q=>iV (co i q))),.saved (Cf 12 (kill.kills 11 ts)),.cells [iV a,.ref 1,.ref 5,iV tt,nV kk,.ref 6,.jref 7],c7Z,.row 3 1 (AS m 1) (As m (λi=>iV (w i)) (iV (Ag (wr .i64 (Af z (ofNat b))) (ofNat n))))]⟩):=by
 exact Ab (ks:=[kn h0,kn h0,kn h0,kn h0,kn h0,kn h0,kn h0,kn h1,kn h0,kn h20,kn h0,kn h0,kn h2,kn h0,kn h0,kn h0,kn h3,kn h1,kn h20,kn h2,kn h4,kn h21,kn h20,kn h2]) (by kernel_rfl)
end
theorem Anp (L:LT) (p0:PT) (a:Int) (n k kk:Nat) (g:Nat->E6) (th lo:Nat->Int) (tt:Int) (c0:Nat->V) (x0:Nat->Ev5) (r0:Nat->Int) (ln:Nat->Nat) (co:Nat->Nat->Int) (ts:List V) (us:List V) (b m:Nat) (z la:Int) (x:Nat->Ev5) (r w:Nat->Int) (h14:Bv [.jag (Jag.mk 24 1 k Aa 0 3 1 (λ_=>true) (λ_=>0) (λ_ _=>.und))]=true) (h15:AB k (λi=>AB (ln i) (λ_=>true))=true) (h16:Aj n=true) (h17:Ba k 1 24=true) (hp0:p0 (JP (onP 0 p0 (en59e a n k kk g th lo tt c0 x0 r0 ln co us b m z la x r w) L)) (Qx a n k kk g th lo tt c0 x0 r0 ln co ts)=true):(Ak tab ⟨Ap UI,onP 0 p0 (en59e a n k kk g th lo tt c0 x0 r0 ln co us b m z la x r w) L,Gl⟩ Tryz.f56 [.agg [iV a,.ref 1,.ref 5,iV tt,nV kk,.ref 6,.jref 7],nV k] [c7Z,.row 92 6 n (λi=>eV (g i)),.row 3 1 n (λi=>iV (th i)),.row 3 1 n (λi=>iV (lo i)),.cells [iV a,.ref 1,.ref 5,iV tt,nV kk,.ref 6,.jref 7],.row 80 5 n (λi=>evV (x0 i)),.row 3 1 n (λi=>iV (r0 i)),.jag (Jag.mk 24 1 k c0 0 3 1 (λ_=>true) ln (λi q=>iV (co i q))),.saved ts]).sem=some ((.agg [iV a,.ref 1,.ref 5,iV tt,nV kk,.ref 6,.jref 7]),[c7Z,.row 92 6 n (λi=>eV (g i)),.row 3 1 n (λi=>iV (th i)),.row 3 1 n (λi=>iV (lo i)),.cells [iV a,.ref 1,.ref 5,iV tt,nV kk,.ref 6,.und],.row 80 5 n (λi=>evV (x i)),.row 3 1 n (λi=>iV (r i)),.jag (Jag.mk 24 1 (AS k 1) (As k c0 .und) 0 3 1 (λi=>sel (AE i k) true true) (λi=>sel (AE i k) m (ln i)) (λi i_1=>C0 (λi_2 i_3=>iV (co i_2 i_3)) k (λi_2=>iV (w i_2)) i i_1)),.saved (kill.kills 7 (kill.kills 12 (kill.kills 11 us))),.cells [iV a,.ref 1,.ref 5,iV tt,nV kk,.ref 6,.jref 7],.cells [iV a,.ref 1,.ref 5,iV tt,nV kk,.ref 6,.jref 7],.dead,.dead]):=by
 exact Ab (ks:=[kn h14,kL n,kL n,kL n,kn h15,kJ n,kn h16,kn hp0,kT,kn h17]) (by kernel_rfl)
theorem VA {p q:Nat->Bool} {n:Nat} (h:∀ i,i<n->p i=q i):Eh p n=Eh q n:=by
 by_cases hp:∃ k,k<n∧p k=true
 ·obtain ⟨k,hk,hpk⟩:=hp
  obtain ⟨h1,h2,h3⟩:=DN hk hpk;exact (Kv (p:=q) (by omega) (by rw [<- h _ (by omega)]; exact h2) (λi hi=>by rw [<- h i (by omega)]; exact h3 i hi)).symm
 ·have h1:∀ i,i<n->p i=false:=λi hi=>by
   cases hpi:p i with
   | false=>rfl
   | true=>exact absurd ⟨i,hi,hpi⟩ hp
  rw [GQ h1,GQ λi hi=>by rw [<- h i hi]; exact h1 i hi]
theorem YT {n:Nat} {g:Nat->E6} {d:Nat->Bool} {k:Nat} (hk:k<kkN n g):GC n g (evF n g d) (ofNat k)=ofNat (stN (mbF g) n k):=by
 have:Eh (K3 n g (evF n g d) (ofNat k)) n=stN (mbF g) n k:=VA λi hi=>by
  unfold K3;rw [Cg hi,AeP hi,Ds,Bool.and_comm];rfl
 unfold GC;rw [this,decide_eq_true (GJ hk).1];rfl
def wvF (n:Nat) (g:Nat->E6) (z b q:Nat):Int:=if q<wcN (wrF g) n z b then ofNat (coN (mbF g) (wrF g) n (loN n g z) q) else 0
theorem Z0 {n:Nat} {g:Nat->E6} {z b:Nat} (hz:z<n) (hst:CQ (mbF g) n z=true) (hb:b<n) (hw:wrF g (rnd n z b)=true) :
  As (wcN (wrF g) n z b) (λi=>iV (wvF n g z b i)) (iV (ofNat (rnd n z b)))=λi=>iV (wvF n g z (b+1) i):=by
 funext q;rw [Bi];have h2:stN (mbF g) n (loN n g z)=z:=Aad hz hst;unfold wvF;rw [U5 hw];by_cases hq:q=wcN (wrF g) n z b
 ·subst hq
  rw [Nat.beq_refl,if_pos (Nat.lt_succ_self _)];unfold coN;rw [h2,W8 hb hw];rfl
 ·rw [nbeq_ne hq]
  by_cases h3:q<wcN (wrF g) n z b
  ·rw [if_pos h3,if_pos (by omega)]; rfl
  ·rw [if_neg h3,if_neg (by omega)]; rfl
theorem Zz {n:Nat} {g:Nat->E6} {z b:Nat} (hw:wrF g (rnd n z b)=false):wvF n g z (b+1)=wvF n g z b:=by
 funext q;unfold wvF;rw [U6 hw]
def EL (F:V->V):Prop:=(∀ k x,F (.val (.int k x)) = .val (.int k x))∧∀ i o,i<7->F (.ptr i o) = .ptr i o
theorem EL.comp {F G:V->V} (hF:EL F) (hG:EL G):EL (λv=>G (F v)):=⟨λk x=>by show G (F _)=_; rw [hF.1,hG.1],λi o h=>by show G (F _)=_; rw [hF.2 i o h,hG.2 i o h]⟩
theorem ES:EL (Gn 12):=⟨λ_ _=>rfl,λi o h=>by
 unfold Gn MC;rw [show Nat.blt i 12=true from Nat.ble_eq_true_of_le (by omega)]⟩
theorem E3 (id:Nat):EL (kill id):=⟨λ_ _=>rfl,λ_ _ _=>rfl⟩
theorem AkQ (a:Int) (n z:Nat) (g:Nat->E6) (th lo:Nat->Int) (tt:Int) (c0:Nat->V) (x0:Nat->Ev5) (r0:Nat->Int) (ln:Nat->Nat) (co:Nat->Nat->Int) (hz:z<n) (hst:CQ (mbF g) n z=true) (h8:n <= 16) :
  ∀ (e b:Nat) (q:Nat),Ck (mbF g) n z=b+e->e<q->∃ F,EL F∧∀ (L:LT) (ts0 ts:List V) (j:Nat->V),
  (A3 (JP L) (lp59 a n (loN n g z) (kkN n g) g th lo tt c0 x0 r0 ln co ts0) q (st59 a n (loN n g z) (kkN n g) g th lo tt c0 x0 r0 ln co ts b (wcN (wrF g) n z b) (ofNat z) (wlN (wrF g) n z b) (evF n g (dnF n g (loN n g) (loN n g z) b)) (rfF n g (dnF n g (loN n g) (loN n g z) b)) (wvF n g z b) j)).sem
   = some (en59e a n (loN n g z) (kkN n g) g th lo tt c0 x0 r0 ln co (ts.map F) 0 (wcN (wrF g) n z (Ck (mbF g) n z)) 0 0 (evF n g (dnF n g (loN n g) (loN n g z+1) 0)) (rfF n g (dnF n g (loN n g) (loN n g z+1) 0)) (wvF n g z (Ck (mbF g) n z))):=by
 intro e;have hrk:Rank (mbF g) n (loN n g):=LB (mbF g) n;obtain ⟨l1,l2,l3,l4⟩:=DY hz hst;have hkk:=Im hz hst;have hwc:∀ b,b <= n->wcN (wrF g) n z b <= n:=λb hb=>Nat.le_trans (Be _ _) hb
 induction e with
 | zero =>
  intro b q hb hq;obtain ⟨q,rfl⟩:∃ q',q=q'+1:=⟨q-1,by omega⟩;have hbl:Ck (mbF g) n z=b:=by omega
  have hde:=XL hrk hz hst;rw [hbl] at hde;refine ⟨_,ES,λL ts0 ts j=>?_⟩;rw [<- hde,hbl,show lp59 a n (loN n g z) (kkN n g) g th lo tt c0 x0 r0 ln co ts0=lp59 a n (loN n g z) (kkN n g) g th lo tt c0 x0 r0 ln co ts from rfl];by_cases hbn:b=n
  ·rw [Ae (AkC L a n (loN n g z) (kkN n g) g th lo tt c0 x0 r0 ln co ts b (wcN (wrF g) n z b) (ofNat z) (wlN (wrF g) n z b) (evF n g (dnF n g (loN n g) (loN n g z) b)) (rfF n g (dnF n g (loN n g) (loN n g z) b)) (wvF n g z b) j (A1 (by omega))),RJ,BK]
   rfl
  ·have hbn:b<n:=by omega
   have hX:(Ag (wr .i64 (Af (ofNat z) (ofNat b))) (ofNat n))=ofNat (rnd n z b):=by rw [D8 (by omega),CO]; rfl
   have hlt:rnd n z b<n:=G0 (by omega);have hin:Al (ile 0 (Ag (wr .i64 (Af (ofNat z) (ofNat b))) (ofNat n))) (ilt (Ag (wr .i64 (Af (ofNat z) (ofNat b))) (ofNat n)) (ofNat n))=true:=by rw [hX]; exact Ao hlt
   have hnl:nlt (toN (Ag (wr .i64 (Af (ofNat z) (ofNat b))) (ofNat n))) n=true:=by rw [hX]; exact decide_eq_true hlt
   have hlc:ieq (evF n g (dnF n g (loN n g) (loN n g z) b) (toN (Ag (wr .i64 (Af (ofNat z) (ofNat b))) (ofNat n)))).loc (ofNat (loN n g z))=false:=by
    rw [hX,show toN (ofNat (rnd n z b))=rnd n z b from rfl,Cg hlt];show ieq (loF n g (rnd n z b)) _=false;rw [AeP hlt,Ds];apply decide_eq_false;have hs:CQ (mbF g) n (rnd n z b)=true:=by
     unfold CQ;rw [Gb,show b+(n-1)=(b-1)+n by omega,Tb,<- hbl];exact l3
    intro he;have h2:=(LB (mbF g) n).apart hlt hz hs hst he;have h3:rnd n z b=rnd n z 0:=by rw [h2,Tc hz]
    have:=AdX hz hbn (by omega) h3;omega
   rw [Ae (Ak9 L a n (loN n g z) (kkN n g) g th lo tt c0 x0 r0 ln co ts b (wcN (wrF g) n z b) (ofNat z) (wlN (wrF g) n z b) (evF n g (dnF n g (loN n g) (loN n g z) b)) (rfF n g (dnF n g (loN n g) (loN n g z) b)) (wvF n g z b) j (ofNat_lt hbn) (LQ (by omega)) hin hnl hlc),RJ,BK];rfl
 | succ e ih =>
  intro b q hb hq;obtain ⟨q,rfl⟩:∃ q',q=q'+1:=⟨q-1,by omega⟩;have hbn:b<n:=by omega
  have hbl:b<Ck (mbF g) n z:=by omega
  have hX:(Ag (wr .i64 (Af (ofNat z) (ofNat b))) (ofNat n))=ofNat (rnd n z b):=by rw [D8 (by omega),CO]; rfl
  have hlt:rnd n z b<n:=G0 (by omega);have hin:Al (ile 0 (Ag (wr .i64 (Af (ofNat z) (ofNat b))) (ofNat n))) (ilt (Ag (wr .i64 (Af (ofNat z) (ofNat b))) (ofNat n)) (ofNat n))=true:=by rw [hX]; exact Ao hlt
  have hnl:nlt (toN (Ag (wr .i64 (Af (ofNat z) (ofNat b))) (ofNat n))) n=true:=by rw [hX]; exact decide_eq_true hlt
  have hap:Ba (wcN (wrF g) n z b) 1 8=true:=by
   have:=hwc b (by omega);exact BS (by omega)
  have hdn:=OP hrk hz hst hbl;have hin':=GT hz hst hbl;have hv:=U8 (w:=wrF g) hin';have hlc:ieq (evF n g (dnF n g (loN n g) (loN n g z) b) (toN (Ag (wr .i64 (Af (ofNat z) (ofNat b))) (ofNat n)))).loc (ofNat (loN n g z))=true:=by
   rw [hX,show toN (ofNat (rnd n z b))=rnd n z b from rfl,Cg hlt];show ieq (loF n g (rnd n z b)) _=true;rw [AeP hlt,hrk.same hin',Ds];exact decide_eq_true rfl
  cases hw:wrF g (rnd n z b) with
  | true =>
   have hW:ieq (evF n g (dnF n g (loN n g) (loN n g z) b) (toN (Ag (wr .i64 (Af (ofNat z) (ofNat b))) (ofNat n)))).dir 2=true:=by rw [hX,show toN (ofNat (rnd n z b))=rnd n z b from rfl,Cg hlt]; exact hw
   obtain ⟨F,hF,h⟩:=ih (b+1) q (by omega) (by omega);refine ⟨_,((E3 11).comp ES).comp hF,λL ts0 ts j=>?_⟩;have h:=h L ts (Cf 12 (kill.kills 11 ts)) Aa;rw [show lp59 a n (loN n g z) (kkN n g) g th lo tt c0 x0 r0 ln co ts0=lp59 a n (loN n g z) (kkN n g) g th lo tt c0 x0 r0 ln co ts from rfl,Ae (AkA L a n (loN n g z) (kkN n g) g th lo tt c0 x0 r0 ln co ts b (wcN (wrF g) n z b) (ofNat z) (wlN (wrF g) n z b) (evF n g (dnF n g (loN n g) (loN n g z) b)) (rfF n g (dnF n g (loN n g) (loN n g z) b)) (wvF n g z b) j (ofNat_lt hbn) (LQ (by omega)) hin hnl hlc hW hap),Ay];rw [hX,Aq hbn (by omega),show toN (ofNat (rnd n z b))=rnd n z b from rfl,show AS (wcN (wrF g) n z b) 1=wcN (wrF g) n z b+1 from rfl,LX hlt hdn (by rw [hv,U5 hw]),Z0 hz hst hbn hw,<- Ri hdn hw];rw [AjT hw,U5 hw,BK,Cr,List.map_map,List.map_map] at h;rw [BK,Cr,List.map_map];exact h
  | false =>
   have hW:ieq (evF n g (dnF n g (loN n g) (loN n g z) b) (toN (Ag (wr .i64 (Af (ofNat z) (ofNat b))) (ofNat n)))).dir 2=false:=by rw [hX,show toN (ofNat (rnd n z b))=rnd n z b from rfl,Cg hlt]; exact hw
   obtain ⟨F,hF,h⟩:=ih (b+1) q (by omega) (by omega);refine ⟨_,ES.comp hF,λL ts0 ts j=>?_⟩;have h:=h L ts (Cf 12 ts) Aa;rw [show lp59 a n (loN n g z) (kkN n g) g th lo tt c0 x0 r0 ln co ts0=lp59 a n (loN n g z) (kkN n g) g th lo tt c0 x0 r0 ln co ts from rfl,Ae (AkB L a n (loN n g z) (kkN n g) g th lo tt c0 x0 r0 ln co ts b (wcN (wrF g) n z b) (ofNat z) (wlN (wrF g) n z b) (evF n g (dnF n g (loN n g) (loN n g z) b)) (rfF n g (dnF n g (loN n g) (loN n g z) b)) (wvF n g z b) j (ofNat_lt hbn) (LQ (by omega)) hin hnl hlc hW),Ay];rw [hX,Aq hbn (by omega),show toN (ofNat (rnd n z b))=rnd n z b from rfl,LX hlt hdn (by rw [hv,U6 hw]),Vq hdn (AaA hin' hw).symm];rw [AjU hw,U6 hw,Zz hw,BK,List.map_map] at h;rw [BK];exact h
end Go.Proofs.YtkgdhhieomndeaaGreatDoor.Sh
