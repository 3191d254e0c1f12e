/-
  Layer 7: the document's cycle turned, where a location's segment begins, its walk through it. No conditions.
-/
import Derived.Test.YtjhnfomefcngfaaShW
namespace Go.Proofs.Ytjhnfomefcngfaa.Sh
open Go.Sy Ed
open Int (ofNat)
set_option maxHeartbeats 1000000
set_option maxRecDepth 4000
noncomputable def ZL (n:Nat) (f:Nat->E6):Bool:=@decide (∃ a,IsCycle a n f) (Classical.propDecidable _)
theorem Tm {n:Nat} {f:Nat->E6}:ZL n f = true ↔ ∃ a,IsCycle a n f:=by
 unfold ZL
 exact @decide_eq_true_iff _ (Classical.propDecidable _)
noncomputable def AaJ:List (Nat × (List V->T (V × List Blk))):=[(93,O7),(22,BR λe=>bV (As e)),(21,M9)]
theorem AaI:AC Try.prog Gl AaJ:=.cons p93 <| .cons p60 <| .cons p69 .nil
def WR (n:Nat) (_:Nat->E6):Lp:=⟨(bmK 27 0 [3,5]),2,bmK 27 0 [2],3,n+1⟩
def Ya (n:Nat) (f:Nat->E6) (b:Nat) (j:Nat->V):St:=⟨(jsV 27 0 j [(3,.ref 1),(5,nV b)]),[.row 44 6 0 (λ_=>.und),.row 44 6 n (λi=>eV (Bl n f i))]⟩
def Wd (n:Nat) (f:Nat->E6) (b:Nat):Ex × St:=(.rt,⟨(jsV 27 0 (λ_=>.und) [(2,.ref 2)]),[.row 44 6 0 (λ_=>.und),.row 44 6 n (λi=>eV (Bl n f i)),.row 44 6 n (λi=>eV (JA n (Bl n f) (ofNat b) i))]⟩)
noncomputable def O9 (L:LT):St->T (Ex × St):=λst=>AG tab ⟨Aq AaJ,L,Gl⟩ (A1 Try.f56 0) 0 st
section
variable (L:LT) (n:Nat) (f:Nat->E6) (b:Nat)  (j:Nat->V)
include L n f b j
theorem Akg (h0:ilt (ofNat b) (ofNat n) = true) (h13:ile 0 (ofNat b) = true) (h1:nlt b n = true) (h2:As (Bl n f b) = false):Aj (O9 L) (WR n f) (Ya n f b j) = some (.nm,⟨(jsV 27 0 (λ_=>.und) [(3,(.ref 1)),(5,(iV (wr .i64 (Ae (ofNat b) 1))))]),[.row 44 6 0 (λ_=>.und),.row 44 6 n (λi=>eV (Bl n f i))]⟩):=Aa [true,true,true,false] [ilt (ofNat b) (ofNat n),Af (ile 0 (ofNat b)) (ilt (ofNat b) (ofNat n)),nlt b n,As (Bl n f b)] (by kernel_rfl) (by simp only [*] <;> rfl)
theorem Akf (h0:ilt (ofNat b) (ofNat n) = true) (h14:ile 0 (ofNat b) = true) (h1:nlt b n = true) (h2:As (Bl n f b) = true) (h3:AN n = true) (h15:Bm [.row 3 1 n (λ_=>iV 0)] = true):Aj (O9 L) (WR n f) (Ya n f b j) = some (.rt,⟨(jsV 27 0 (λ_=>.und) [(2,(.ref 2))]),[.row 44 6 0 (λ_=>.und),.row 44 6 n (λi=>eV (Bl n f i)),.row 44 6 n (λi=>eV (JA n (λi=>Bl n f i) (wr .i64 (Ae (ofNat b) 1)) i))]⟩):=Aa (bbK 7 127) [ilt (ofNat b) (ofNat n),Af (ile 0 (ofNat b)) (ilt (ofNat b) (ofNat n)),nlt b n,As (Bl n f b),Ay n (λ_=>true),AN n,Bm [.row 3 1 n (λ_=>iV 0)]] (by kernel_rfl) (by simp only [*,Ax,Cg] <;> rfl)
end
def Aja (n:Nat) (f:Nat->E6) :Nat->V:=lkV A9 [(0,(.sl 6 n (λi=>eV (f i)))),(2,(.ref 0)),(4,(iV 0)),(6,(.tup [.ref 1,iV 0])),(7,(.sl 6 n (λi=>eV (f i)))),(8,(.tup [.ref 1,iV 0])),(9,(.ref 1)),(10,(iV 0))]
theorem w56 (L:LT) (p0:PT) (n:Nat) (f:Nat->E6) (q:Nat) (h0:AN n = true) (h1:BN n f = true) (hp0:p0 (O9 (onP 0 p0 (Wd n f q) L)) (Ya n f 0 (Aja n f )) = true):(A2 (An tab ⟨Aq AaJ,onP 0 p0 (Wd n f q) L,Gl⟩ Try.f56 [.sl 6 n λi=>eV (f i)] [])).sem = some ((.ref 0),[.row 44 6 n (λi=>eV (JA n (Bl n f) (ofNat q) i))]):=Aa [true,true,true,true] [Ay n (λ_=>true),AN n,BN n f,p0 (O9 (onP 0 p0 (Wd n f q) L)) (Ya n f 0 (Aja n f ))] (by kernel_rfl) (by simp only [hp0] <;> simp only [h0,h1,Ax] <;> rfl)
theorem Ac6 (L:LT) (n:Nat) (f:Nat->E6) (hf:AN n = true) (hn:n <= 4611686018427387903) (k:Nat) (hk:k < n) (ht:As (Bl n f k) = true) (hb:∀ i,i < k->As (Bl n f i) = false):∀ (e b:Nat) (j:Nat->V) (q:Nat),k = b+e->e < q ->
  (A8 (O9 L) (WR n f) q (Ya n f b j)).sem = some (Wd n f (k+1))
 | 0,b,j,q+1,h,_=>by
  have:k = b:=by omega
  subst this
  rw [Ad (Akf L n f k j (ofNat_lt hk) (AK k) (decide_eq_true hk) ht hf Cg),EM,Ao hk (by omega)]
  rfl
 | e+1,b,j,q+1,h,h2=>by
  have hl:b < n:=by omega
  rw [Ad (Akg L n f b j (ofNat_lt hl) (AK b) (decide_eq_true hl) (hb b (by omega))),Aw,Ao hl (by omega)]
  exact Ac6 L n f hf hn k hk ht hb e (b+1) (λ_=>.und) q (by omega) (by omega)
theorem Ww {n k:Nat}:DP n (ofNat k) = k % n:=by
 unfold DP
 rw [C9]
 have:ilt (ofNat (k % n)) 0 = false:=by simp [ilt]; omega
 rw [this]
 rfl
noncomputable def ZN:List V->T (V × List Blk):=Hp λn f=>.br (AN n) (.br (ZL n f) (.leaf (.ref 0,[.row 44 6 n λi=>eV (shG n f i)])) .fail) .fail
theorem p56:AA Try.prog Gl 56 ZN:=by
 refine A5 AQ AR Try.func56 (by kernel_rfl) (by kernel_rfl) λvs v h' h=>?_
 obtain ⟨n,f,ha,h⟩:=CY h
 obtain ⟨hn,h⟩:=Ag h
 obtain ⟨hc,h⟩:=Ag h
 have:=Ac h
 simp only [Prod.mk.injEq] at this
 obtain ⟨rfl,rfl⟩:=this
 obtain ⟨a,hy⟩:=Tm.1 hc
 have hhi:=hy.hi
 obtain ⟨z1,z2,z3,z4⟩:=Li hy
 have hx:=AS AaI [(0,WR n f)] (G:=Gl)
 have hL:=AL [(0,WR n f)]
 refine ⟨_,AT Gl AaJ [(0,WR n f)],_,ha,rfl,hx.1,hx.2,A6 (Az hL hL) _ (w56 _ _ n f (E4 (λi=>As (Bl n f i)) n+1) hn hy.may (Am (Ac6 _ n f hn (by omega) _ z1 z2 z3 _ 0 _ (n+1) (Nat.zero_add _).symm (by omega)))),AE.one λi hi=>?_⟩
 rw [IZ hi]
 unfold JA shQ
 rw [Ww]
def KA (n:Nat) (g:Nat->E6) (x:Nat->Ev5) (lc:Int) (i:Nat):Bool:=Af (ieq (x i).loc lc) (Ar (g ((i+(n - 1)) % n)))
def GC (n:Nat) (g:Nat->E6) (x:Nat->Ev5) (lc:Int):Int:=bif decide (E4 (KA n g x lc) n < n) then ofNat (E4 (KA n g x lc) n) else -1
noncomputable def XI:List (Nat × (List V->T (V × List Blk))):=[(23,BR λe=>bV (Ar e))]
theorem AaC:AC Try.prog Gl XI:=.cons p61 .nil
def lp95 (_:Int) (n:Nat) (_:Nat->E6) (_:Nat->Ev5) (_ _:Int) (_:Nat) (_:Nat->Int) (_:Nat) (_:Nat->Nat) (_:Nat->Nat->Int) (_:Int):Lp:=⟨(bmK 37 0 [1,2,4,5,6]),1,bmK 37 0 [4],0,n+1⟩
def st95 (a:Int) (n:Nat) (g:Nat->E6) (x:Nat->Ev5) (tt k0:Int) (nr:Nat) (r:Nat->Int) (nc:Nat) (ln:Nat->Nat) (co:Nat->Nat->Int) (lc:Int) (b:Nat) (j:Nat->V):St:=⟨(jsV 37 0 j [(1,iV lc),(2,.ptr 0 0),(4,iV 0),(5,nV n),(6,nV b)]),[.cells [iV a,.sl 6 n (λi=>eV (g i)),.sl 5 n (λi=>evV (x i)),iV tt,iV k0,.sl 1 nr (λi=>iV (r i)),.sl 1 nc (λk=>.sl 1 (ln k) (λi=>iV (co k i)))]]⟩
def Td (_:Int) (_:Nat) (_:Nat->E6) (_:Nat->Ev5) (_ _:Int) (_:Nat) (_:Nat->Int) (_:Nat) (_:Nat->Nat) (_:Nat->Nat->Int) (_:Int) (b:Nat):Ex × St:=(.rt,⟨(jsV 37 0 (λ_=>.und) [(4,nV b)]),[]⟩)
def Te (_:Int) (_:Nat) (_:Nat->E6) (_:Nat->Ev5) (_ _:Int) (_:Nat) (_:Nat->Int) (_:Nat) (_:Nat->Nat) (_:Nat->Nat->Int) (_:Int) (_:Nat):Ex × St:=(.ex 0,⟨(jsV 37 0 (λ_=>.und) [(4,iV 0)]),[]⟩)
noncomputable def body95 (L:LT):St->T (Ex × St):=λst=>AG tab ⟨Aq XI,L,Gl⟩ (A1 Try.f95 0) 0 st
section
variable (L:LT) (a:Int) (n:Nat) (g:Nat->E6) (x:Nat->Ev5) (tt k0:Int) (nr:Nat) (r:Nat->Int) (nc:Nat) (ln:Nat->Nat) (co:Nat->Nat->Int) (lc:Int) (b:Nat)  (j:Nat->V)
include L a n g x tt k0 nr r nc ln co lc b j
theorem Akc (h0:ilt (ofNat b) (ofNat n) = false):Aj (body95 L) (lp95 a n g x tt k0 nr r nc ln co lc) (st95 a n g x tt k0 nr r nc ln co lc b j) = some ((.ex 0),⟨(jsV 37 0 (λ_=>.und) [(4,(iV 0))]),[]⟩):=Aa [false] [ilt (ofNat b) (ofNat n)] (by kernel_rfl) (by simp only [h0] <;> rfl)
theorem Ake (h0:ilt (ofNat b) (ofNat n) = true) (h14:ile 0 (ofNat b) = true) (h3:ieq ((x b)).loc lc = false):Aj (body95 L) (lp95 a n g x tt k0 nr r nc ln co lc) (st95 a n g x tt k0 nr r nc ln co lc b j) = some (.nm,⟨(jsV 37 0 (λ_=>.und) [(1,(iV lc)),(2,(.ptr 0 0)),(4,(iV 0)),(5,(nV n)),(6,(iV (wr .i64 (Ae (ofNat b) 1))))]),[.cells [iV a,.sl 6 n (λi=>eV (g i)),.sl 5 n (λi=>evV (x i)),iV tt,iV k0,.sl 1 nr (λi=>iV (r i)),.sl 1 nc (λk=>.sl 1 (ln k) (λi=>iV (co k i)))]]⟩):=Aa (bbK 15 3) ((λc0=>[ilt (ofNat b) (ofNat n),Af (ile 0 (ofNat b)) (ilt (ofNat b) (ofNat n)),c0,c0,c0,c0,c0,c0,c0,c0,c0,c0,c0,c0,false]) (ieq ((x b)).loc lc)) (by kernel_rfl) (by simp only [*] <;> rfl)
theorem Akd (h0:ilt (ofNat b) (ofNat n) = true) (h15:ile 0 (ofNat b) = true) (h3:ieq ((x b)).loc lc = true) (h1:ieq (ofNat n) 0 = false) (h17:Af (ile 0 (Ab (wr .i64 (Au (wr .i64 (Ae (ofNat b) (ofNat n))) 1)) (ofNat n))) (ilt (Ab (wr .i64 (Au (wr .i64 (Ae (ofNat b) (ofNat n))) 1)) (ofNat n)) (ofNat n)) = true) (h4:Ar (g (toN (Ab (wr .i64 (Au (wr .i64 (Ae (ofNat b) (ofNat n))) 1)) (ofNat n)))) = false):Aj (body95 L) (lp95 a n g x tt k0 nr r nc ln co lc) (st95 a n g x tt k0 nr r nc ln co lc b j) = some (.nm,⟨(jsV 37 0 (λ_=>.und) [(1,(iV lc)),(2,(.ptr 0 0)),(4,(iV 0)),(5,(nV n)),(6,(iV (wr .i64 (Ae (ofNat b) 1))))]),[.cells [iV a,.sl 6 n (λi=>eV (g i)),.sl 5 n (λi=>evV (x i)),iV tt,iV k0,.sl 1 nr (λi=>iV (r i)),.sl 1 nc (λk=>.sl 1 (ln k) (λi=>iV (co k i)))]]⟩):=Aa (bbK 17 64511) ((λc0=>[ilt (ofNat b) (ofNat n),Af (ile 0 (ofNat b)) (ilt (ofNat b) (ofNat n)),c0,c0,c0,c0,c0,c0,c0,c0,ieq (ofNat n) 0,c0,Af (ile 0 (Ab (wr .i64 (Au (wr .i64 (Ae (ofNat b) (ofNat n))) 1)) (ofNat n))) (ilt (Ab (wr .i64 (Au (wr .i64 (Ae (ofNat b) (ofNat n))) 1)) (ofNat n)) (ofNat n)),c0,c0,c0,Ar (g (toN (Ab (wr .i64 (Au (wr .i64 (Ae (ofNat b) (ofNat n))) 1)) (ofNat n))))]) (ieq ((x b)).loc lc)) (by kernel_rfl) (by simp only [h17] <;> simp only [*] <;> rfl)
theorem Akb (h0:ilt (ofNat b) (ofNat n) = true) (h15:ile 0 (ofNat b) = true) (h3:ieq ((x b)).loc lc = true) (h1:ieq (ofNat n) 0 = false) (h17:Af (ile 0 (Ab (wr .i64 (Au (wr .i64 (Ae (ofNat b) (ofNat n))) 1)) (ofNat n))) (ilt (Ab (wr .i64 (Au (wr .i64 (Ae (ofNat b) (ofNat n))) 1)) (ofNat n)) (ofNat n)) = true) (h4:Ar (g (toN (Ab (wr .i64 (Au (wr .i64 (Ae (ofNat b) (ofNat n))) 1)) (ofNat n)))) = true):Aj (body95 L) (lp95 a n g x tt k0 nr r nc ln co lc) (st95 a n g x tt k0 nr r nc ln co lc b j) = some (.rt,⟨(jsV 37 0 (λ_=>.und) [(4,(nV b))]),[]⟩):=Aa (bbK 17 130047) ((λc0=>[ilt (ofNat b) (ofNat n),Af (ile 0 (ofNat b)) (ilt (ofNat b) (ofNat n)),c0,c0,c0,c0,c0,c0,c0,c0,ieq (ofNat n) 0,c0,Af (ile 0 (Ab (wr .i64 (Au (wr .i64 (Ae (ofNat b) (ofNat n))) 1)) (ofNat n))) (ilt (Ab (wr .i64 (Au (wr .i64 (Ae (ofNat b) (ofNat n))) 1)) (ofNat n)) (ofNat n)),c0,c0,c0,Ar (g (toN (Ab (wr .i64 (Au (wr .i64 (Ae (ofNat b) (ofNat n))) 1)) (ofNat n))))]) (ieq ((x b)).loc lc)) (by kernel_rfl) (by simp only [h17] <;> simp only [*] <;> rfl)
end
def AbV (a:Int) (n:Nat) (g:Nat->E6) (x:Nat->Ev5) (tt k0:Int) (nr:Nat) (r:Nat->Int) (nc:Nat) (ln:Nat->Nat) (co:Nat->Nat->Int) (_:Int) :Nat->V:=lkV A9 [(0,(.agg [iV a,.sl 6 n (λi=>eV (g i)),.sl 5 n (λi=>evV (x i)),iV tt,iV k0,.sl 1 nr (λi=>iV (r i)),.sl 1 nc (λk=>.sl 1 (ln k) (λi=>iV (co k i)))])),(7,(.ptr 0 1)),(8,(.sl 6 n (λi=>eV (g i)))),(9,(nV n))]
section
variable (L:LT) (p0:PT) (a:Int) (n:Nat) (g:Nat->E6) (x:Nat->Ev5) (tt k0:Int) (nr:Nat) (r:Nat->Int) (nc:Nat) (ln:Nat->Nat) (co:Nat->Nat->Int) (lc:Int) (q:Nat)
include L p0 a n g x tt k0 nr r nc ln co lc q
theorem Aj8  (hp0:p0 (body95 (onP 0 p0 (Td a n g x tt k0 nr r nc ln co lc q) L)) (st95 a n g x tt k0 nr r nc ln co lc 0 (AbV a n g x tt k0 nr r nc ln co lc )) = true):(A2 (An tab ⟨Aq XI,onP 0 p0 (Td a n g x tt k0 nr r nc ln co lc q) L,Gl⟩ Try.f95 [.agg [iV a,.sl 6 n (λi=>eV (g i)),.sl 5 n (λi=>evV (x i)),iV tt,iV k0,.sl 1 nr (λi=>iV (r i)),.sl 1 nc (λk=>.sl 1 (ln k) (λi=>iV (co k i)))],iV lc] [])).sem = some ((nV q),[]):=Aa [true] [p0 (body95 (onP 0 p0 (Td a n g x tt k0 nr r nc ln co lc q) L)) (st95 a n g x tt k0 nr r nc ln co lc 0 (AbV a n g x tt k0 nr r nc ln co lc ))] (by kernel_rfl) (by simp only [hp0] <;> rfl)
theorem Aj9  (hp0:p0 (body95 (onP 0 p0 (Te a n g x tt k0 nr r nc ln co lc q) L)) (st95 a n g x tt k0 nr r nc ln co lc 0 (AbV a n g x tt k0 nr r nc ln co lc )) = true):(A2 (An tab ⟨Aq XI,onP 0 p0 (Te a n g x tt k0 nr r nc ln co lc q) L,Gl⟩ Try.f95 [.agg [iV a,.sl 6 n (λi=>eV (g i)),.sl 5 n (λi=>evV (x i)),iV tt,iV k0,.sl 1 nr (λi=>iV (r i)),.sl 1 nc (λk=>.sl 1 (ln k) (λi=>iV (co k i)))],iV lc] [])).sem = some ((iV (-1)),[]):=Aa [true] [p0 (body95 (onP 0 p0 (Te a n g x tt k0 nr r nc ln co lc q) L)) (st95 a n g x tt k0 nr r nc ln co lc 0 (AbV a n g x tt k0 nr r nc ln co lc ))] (by kernel_rfl) (by simp only [hp0] <;> rfl)
end
theorem run95 (L:LT) (a:Int) (n:Nat) (g:Nat->E6) (x:Nat->Ev5) (tt k0:Int) (nr:Nat) (r:Nat->Int) (nc:Nat) (ln:Nat->Nat) (co:Nat->Nat->Int) (lc:Int) (hn:n <= 4611686018427387904):∀ (e b:Nat) (j:Nat->V) (q:Nat),n = b+e->e < q->(∀ k,k < b->KA n g x lc k = false) ->
  ((A8 (body95 L) (lp95 a n g x tt k0 nr r nc ln co lc) q (st95 a n g x tt k0 nr r nc ln co lc b j)).sem = some (Te a n g x tt k0 nr r nc ln co lc 0) ∧ GC n g x lc = -1) ∨ ∃ i,(A8 (body95 L) (lp95 a n g x tt k0 nr r nc ln co lc) q (st95 a n g x tt k0 nr r nc ln co lc b j)).sem = some (Td a n g x tt k0 nr r nc ln co lc i) ∧ GC n g x lc = ofNat i
 | 0,b,j,q+1,h,_,hb=>by
  have:n = b:=by omega
  subst this
  refine .inl ⟨Ad (Akc L a n g x tt k0 nr r nc ln co lc n j (AF (Nat.le_refl _))),?_⟩
  unfold GC
  rw [Jk hb]
  simp
 | e+1,b,j,q+1,h,h2,hb=>by
  have hl:b < n:=by omega
  have hx:=J4 (a:=b) (n:=n) (by omega) (by omega)
  have hlt:(b+(n - 1)) % n < n:=Nat.mod_lt _ (by omega)
  have hin:Af (ile 0 (Ab (wr .i64 (Au (wr .i64 (Ae (ofNat b) (ofNat n))) 1)) (ofNat n))) (ilt (Ab (wr .i64 (Au (wr .i64 (Ae (ofNat b) (ofNat n))) 1)) (ofNat n)) (ofNat n)) = true:=by rw [hx]; exact Ap hlt
  have next:KA n g x lc b = false->_:=λhf=>run95 L a n g x tt k0 nr r nc ln co lc hn e (b+1) (λ_=>.und) q (by omega) (by omega) λk hk=>by
   by_cases hki:k = b
   ·rw [hki]; exact hf
   ·exact hb k (by omega)
  cases h1:ieq (x b).loc lc with
  | false =>
   rw [Ad (Ake L a n g x tt k0 nr r nc ln co lc b j (ofNat_lt hl) (AK b) h1),Aw,Ao hl (by omega)]
   exact next (by unfold KA; rw [h1]; rfl)
  | true =>
   cases hm:Ar (g ((b+(n - 1)) % n)) with
   | false =>
    rw [Ad (Akd L a n g x tt k0 nr r nc ln co lc b j (ofNat_lt hl) (AK b) h1 (FP (by omega)) hin (by rw [hx]; exact hm)),Aw,Ao hl (by omega)]
    exact next (by unfold KA; rw [h1,hm]; rfl)
   | true =>
    refine .inr ⟨b,Ad (Akb L a n g x tt k0 nr r nc ln co lc b j (ofNat_lt hl) (AK b) h1 (FP (by omega)) hin (by rw [hx]; exact hm)),?_⟩
    unfold GC
    rw [Ky hl (by unfold KA; rw [h1,hm]; rfl) hb,decide_eq_true hl]
    rfl
def U6:List V->T (V × List Blk)
 | [v,.val (.int .i64 lc)]=>apS v λs=>.br (A4 s.nx s.ne) (.br (Ai s.ne) (.leaf (iV (GC s.ne s.E s.X lc),[])) .fail) .fail
 | _=>.fail
theorem p95:AA Try.prog Gl 95 U6:=by
 refine A5 AQ AR Try.func95 (by kernel_rfl) (by kernel_rfl) λvs v h' h=>?_
 unfold U6 at h
 split at h
 ·rename_i u lc
  obtain ⟨s,ha,h⟩:=FX h
  obtain ⟨h1,h⟩:=Ag h
  obtain ⟨h2,h⟩:=Ag h
  have:=Ac h
  simp only [Prod.mk.injEq] at this
  obtain ⟨rfl,rfl⟩:=this
  obtain ⟨a,n,g,nx,x,tt,k0,nr,r,nc,C⟩:=s
  have h1:nx = n:=Nat.eq_of_beq_eq_true h1
  subst h1
  have h2:nx <= 4611686018427387904:=of_decide_eq_true h2
  have hA:BL [u,iV lc] [.agg [iV a,.sl 6 nx (λi=>eV (g i)),.sl 5 nx (λi=>evV (x i)),iV tt,iV k0,.sl 1 nr (λi=>iV (r i)),.sl 1 nc (λk=>.sl 1 (C k).1 (λi=>iV ((C k).2 i)))],iV lc]:=λS w cs hv=>by
   obtain ⟨c,l,rfl,q1,q2⟩:=hv
   exact ⟨c,l,rfl,ha S w c q1,q2⟩
  have hx:=AS AaC [(0,lp95 a nx g x tt k0 nr r nc (λk=>(C k).1) (λk=>(C k).2) lc)] (G:=Gl)
  have hL:=AL [(0,lp95 a nx g x tt k0 nr r nc (λk=>(C k).1) (λk=>(C k).2) lc)]
  refine ⟨_,AT Gl XI [(0,lp95 a nx g x tt k0 nr r nc (λk=>(C k).1) (λk=>(C k).2) lc)],_,hA,rfl,hx.1,hx.2,?_,AE.refl _⟩
  have h0:=λL j=>run95 L a nx g x tt k0 nr r nc (λk=>(C k).1) (λk=>(C k).2) lc h2 nx 0 j (nx+1) (by omega) (by omega) (λk hk=>absurd hk (Nat.not_lt_zero _))
  rcases h0 Ab1 (λ_=>.und) with ⟨_,h5⟩ | ⟨i,_,h5⟩
  ·have h6:∀ L j,(A8 (body95 L) (lp95 a nx g x tt k0 nr r nc (λk=>(C k).1) (λk=>(C k).2) lc) (nx+1) (st95 a nx g x tt k0 nr r nc (λk=>(C k).1) (λk=>(C k).2) lc 0 j)).sem = some (Te a nx g x tt k0 nr r nc (λk=>(C k).1) (λk=>(C k).2) lc 0):=λL j=>by
    rcases h0 L j with ⟨h,_⟩ | ⟨i,_,h⟩
    ·exact h
    ·rw [h5] at h
     cases h
   rw [h5]
   exact A6 (Az hL hL) _ (Aj9 _ _ a nx g x tt k0 nr r nc (λk=>(C k).1) (λk=>(C k).2) lc 0 (Am (h6 _ _)))
  ·have h6:∀ L j,(A8 (body95 L) (lp95 a nx g x tt k0 nr r nc (λk=>(C k).1) (λk=>(C k).2) lc) (nx+1) (st95 a nx g x tt k0 nr r nc (λk=>(C k).1) (λk=>(C k).2) lc 0 j)).sem = some (Td a nx g x tt k0 nr r nc (λk=>(C k).1) (λk=>(C k).2) lc i):=λL j=>by
    rcases h0 L j with ⟨_,h⟩ | ⟨i',h,h'⟩
    ·rw [h5] at h
     cases h
    ·rw [h5] at h'
     cases h'
     exact h
   rw [h5]
   exact A6 (Az hL hL) _ (Aj8 _ _ a nx g x tt k0 nr r nc (λk=>(C k).1) (λk=>(C k).2) lc i (Am (h6 _ _)))
 ·cases h
noncomputable def TH:List (Nat × (List V->T (V × List Blk))):=[(95,U6)]
theorem Va:AC Try.prog Gl TH:=.cons p95 .nil
def Ol (a:Int) (n k kk:Nat) (g:Nat->E6) (th lo:Nat->Int) (tt:Int) (c0:Nat->V) (x0:Nat->Ev5) (r0:Nat->Int) (ln:Nat->Nat) (co:Nat->Nat->Int) (ts:List V) :St:=⟨(jsV 79 0 (λ_=>A9) [(0,(.agg [iV a,.ref 1,.ref 5,iV tt,nV kk,.ref 6,.jref 7])),(1,(nV k)),(2,(.ptr 9 0)),(4,(.ptr 10 0)),(5,(.ref 11)),(6,(nV n)),(7,(iV (GC n g x0 (ofNat k)))),(8,(iV (-1))),(9,(iV 0)),(11,(.ptr 9 1)),(12,(.ref 1)),(13,(nV n)),(14,(.agg [iV a,.ref 1,.ref 5,iV tt,nV kk,.ref 6,.jref 7])),(15,(nV k)),(16,(iV (GC n g x0 (ofNat k))))]),[c7Z,.row 44 6 n (λi=>eV (g i)),.row 3 1 n (λi=>iV (th i)),.row 3 1 n (λi=>iV (lo i)),.cells [iV a,.ref 1,.ref 5,iV tt,nV kk,.ref 6,.jref 7],.row 40 5 n (λi=>evV (x0 i)),.row 3 1 n (λi=>iV (r0 i)),.jag (Jag.mk 25 1 k c0 0 3 1 (λ_=>true) ln (λi q=>iV (co i q))),.saved ts,.cells [iV a,.ref 1,.ref 5,iV tt,nV kk,.ref 6,.jref 7],c7Z,r3Z]⟩
def NP (_:Int) (_ _ _:Nat) (_:Nat->E6) (_ _:Nat->Int) (_:Int) (_:Nat->V) (_:Nat->Ev5) (_:Nat->Int) (_:Nat->Nat) (_:Nat->Nat->Int) (_:List V):Lp:=⟨(bmK 79 0 [1,2,4,5,6,7,8,9]),12,bmK 79 0 [2,4,5],12,17⟩
def W1 (a:Int) (n k kk:Nat) (g:Nat->E6) (th lo:Nat->Int) (tt:Int) (c0:Nat->V) (_:Nat->Ev5) (_:Nat->Int) (ln:Nat->Nat) (co:Nat->Nat->Int) (ts:List V) (b m:Nat) (z la:Int) (x:Nat->Ev5) (r w:Nat->Int) (j:Nat->V):St:=⟨(jsV 79 0 j [(1,nV k),(2,.ptr 9 0),(4,.ptr 10 0),(5,.ref 11),(6,nV n),(7,iV z),(8,iV la),(9,nV b)]),[c7Z,.row 44 6 n (λi=>eV (g i)),.row 3 1 n (λi=>iV (th i)),.row 3 1 n (λi=>iV (lo i)),.cells [iV a,.ref 1,.ref 5,iV tt,nV kk,.ref 6,.jref 7],.row 40 5 n (λi=>evV (x i)),.row 3 1 n (λi=>iV (r i)),.jag (Jag.mk 25 1 k c0 0 3 1 (λ_=>true) ln (λi q=>iV (co i q))),.saved ts,.cells [iV a,.ref 1,.ref 5,iV tt,nV kk,.ref 6,.jref 7],c7Z,.row 3 1 m (λi=>iV (w i))]⟩
def JH (a:Int) (n k kk:Nat) (g:Nat->E6) (th lo:Nat->Int) (tt:Int) (c0:Nat->V) (_:Nat->Ev5) (_:Nat->Int) (ln:Nat->Nat) (co:Nat->Nat->Int) (ts:List V) (_ m:Nat) (_ _:Int) (x:Nat->Ev5) (r w:Nat->Int):Ex × St:=(.ex 0,⟨(jsV 79 0 (λ_=>.und) [(2,.ptr 9 0),(4,.ptr 10 0),(5,.ref 11)]),[c7Z,.row 44 6 n (λi=>eV (g i)),.row 3 1 n (λi=>iV (th i)),.row 3 1 n (λi=>iV (lo i)),.cells [iV a,.ref 1,.ref 5,iV tt,nV kk,.ref 6,.jref 7],.row 40 5 n (λi=>evV (x i)),.row 3 1 n (λi=>iV (r i)),.jag (Jag.mk 25 1 k c0 0 3 1 (λ_=>true) ln (λi q=>iV (co i q))),.saved ts,.cells [iV a,.ref 1,.ref 5,iV tt,nV kk,.ref 6,.jref 7],c7Z,.row 3 1 m (λi=>iV (w i))]⟩)
noncomputable def IJ (L:LT):St->T (Ex × St):=λst=>AG tab ⟨Aq TH,L,Gl⟩ (A1 Try.f59 0) 0 st
section
variable (L:LT) (a:Int) (n k kk:Nat) (g:Nat->E6) (th lo:Nat->Int) (tt:Int) (c0:Nat->V) (x0:Nat->Ev5) (r0:Nat->Int) (ln:Nat->Nat) (co:Nat->Nat->Int) (ts:List V) (b m:Nat) (z la:Int) (x:Nat->Ev5) (r w:Nat->Int)  (j:Nat->V)
include L a n k kk g th lo tt c0 x0 r0 ln co ts b m z la x r w j
theorem AhB (h0:ilt (ofNat b) (ofNat n) = false):Aj (IJ L) (NP a n k kk g th lo tt c0 x0 r0 ln co ts) (W1 a n k kk g th lo tt c0 x0 r0 ln co ts b m z la x r w j) = some ((.ex 0),⟨(jsV 79 0 (λ_=>.und) [(2,(.ptr 9 0)),(4,(.ptr 10 0)),(5,(.ref 11))]),[c7Z,.row 44 6 n (λi=>eV (g i)),.row 3 1 n (λi=>iV (th i)),.row 3 1 n (λi=>iV (lo i)),.cells [iV a,.ref 1,.ref 5,iV tt,nV kk,.ref 6,.jref 7],.row 40 5 n (λi=>evV (x i)),.row 3 1 n (λi=>iV (r i)),.jag (Jag.mk 25 1 k c0 0 3 1 (λ_=>true) ln (λi q=>iV (co i q))),.saved (Ce 12 ts),.cells [iV a,.ref 1,.ref 5,iV tt,nV kk,.ref 6,.jref 7],c7Z,.row 3 1 m (λi=>iV (w i))]⟩):=Aa (bbK 14 0) ((λc0=>[c0,c0,c0,c0,c0,c0,c0,c0,c0,c0,c0,c0,c0,false]) (ilt (ofNat b) (ofNat n))) (by kernel_rfl) (by simp only [h0] <;> rfl)
theorem Ah8 (h0:ilt (ofNat b) (ofNat n) = true) (h1:ieq (ofNat n) 0 = false) (h19:Af (ile 0 (Ab (wr .i64 (Ae z (ofNat b))) (ofNat n))) (ilt (Ab (wr .i64 (Ae z (ofNat b))) (ofNat n)) (ofNat n)) = true) (h2:nlt (toN (Ab (wr .i64 (Ae z (ofNat b))) (ofNat n))) n = true) (h3:ieq ((x (toN (Ab (wr .i64 (Ae z (ofNat b))) (ofNat n))))).loc (ofNat k) = false):Aj (IJ L) (NP a n k kk g th lo tt c0 x0 r0 ln co ts) (W1 a n k kk g th lo tt c0 x0 r0 ln co ts b m z la x r w j) = some ((.ex 0),⟨(jsV 79 0 (λ_=>.und) [(2,(.ptr 9 0)),(4,(.ptr 10 0)),(5,(.ref 11))]),[c7Z,.row 44 6 n (λi=>eV (g i)),.row 3 1 n (λi=>iV (th i)),.row 3 1 n (λi=>iV (lo i)),.cells [iV a,.ref 1,.ref 5,iV tt,nV kk,.ref 6,.jref 7],.row 40 5 n (λi=>evV (x i)),.row 3 1 n (λi=>iV (r i)),.jag (Jag.mk 25 1 k c0 0 3 1 (λ_=>true) ln (λi q=>iV (co i q))),.saved (Ce 12 ts),.cells [iV a,.ref 1,.ref 5,iV tt,nV kk,.ref 6,.jref 7],c7Z,.row 3 1 m (λi=>iV (w i))]⟩):=Aa (bbK 17 65407) ((λc0=>[c0,c0,c0,c0,c0,c0,c0,ieq (ofNat n) 0,c0,Af (ile 0 (Ab (wr .i64 (Ae z (ofNat b))) (ofNat n))) (ilt (Ab (wr .i64 (Ae z (ofNat b))) (ofNat n)) (ofNat n)),c0,c0,nlt (toN (Ab (wr .i64 (Ae z (ofNat b))) (ofNat n))) n,c0,c0,c0,ieq ((x (toN (Ab (wr .i64 (Ae z (ofNat b))) (ofNat n))))).loc (ofNat k)]) (ilt (ofNat b) (ofNat n))) (by kernel_rfl) (by simp only [h19] <;> simp only [*] <;> rfl)
theorem AhA (h0:ilt (ofNat b) (ofNat n) = true) (h1:ieq (ofNat n) 0 = false) (h20:Af (ile 0 (Ab (wr .i64 (Ae z (ofNat b))) (ofNat n))) (ilt (Ab (wr .i64 (Ae z (ofNat b))) (ofNat n)) (ofNat n)) = true) (h2:nlt (toN (Ab (wr .i64 (Ae z (ofNat b))) (ofNat n))) n = true) (h3:ieq ((x (toN (Ab (wr .i64 (Ae z (ofNat b))) (ofNat n))))).loc (ofNat k) = true) (h4:ieq ((x (toN (Ab (wr .i64 (Ae z (ofNat b))) (ofNat n))))).dir 2 = false):Aj (IJ L) (NP a n k kk g th lo tt c0 x0 r0 ln co ts) (W1 a n k kk g th lo tt c0 x0 r0 ln co ts b m z la x r w j) = some (.nm,⟨(jsV 79 0 (λ_=>.und) [(1,(nV k)),(2,(.ptr 9 0)),(4,(.ptr 10 0)),(5,(.ref 11)),(6,(nV n)),(7,(iV z)),(8,(iV la)),(9,(iV (wr .i64 (Ae (ofNat b) 1))))]),[c7Z,.row 44 6 n (λi=>eV (g i)),.row 3 1 n (λi=>iV (th i)),.row 3 1 n (λi=>iV (lo i)),.cells [iV a,.ref 1,.ref 5,iV tt,nV kk,.ref 6,.jref 7],.row 40 5 n (λi=>.agg [iV (sel (A4 i (toN (Ab (wr .i64 (Ae z (ofNat b))) (ofNat n)))) ((x (toN (Ab (wr .i64 (Ae z (ofNat b))) (ofNat n))))).th ((x i)).th),iV (sel (A4 i (toN (Ab (wr .i64 (Ae z (ofNat b))) (ofNat n)))) ((x (toN (Ab (wr .i64 (Ae z (ofNat b))) (ofNat n))))).pl ((x i)).pl),iV (sel (A4 i (toN (Ab (wr .i64 (Ae z (ofNat b))) (ofNat n)))) ((x (toN (Ab (wr .i64 (Ae z (ofNat b))) (ofNat n))))).dir ((x i)).dir),iV (sel (A4 i (toN (Ab (wr .i64 (Ae z (ofNat b))) (ofNat n)))) ((x (toN (Ab (wr .i64 (Ae z (ofNat b))) (ofNat n))))).loc ((x i)).loc),iV (sel (A4 i (toN (Ab (wr .i64 (Ae z (ofNat b))) (ofNat n)))) (ofNat m) ((x i)).val)]),.row 3 1 n (Bt (λi=>iV (r i)) (toN (Ab (wr .i64 (Ae z (ofNat b))) (ofNat n))) (iV la)),.jag (Jag.mk 25 1 k c0 0 3 1 (λ_=>true) ln (λi q=>iV (co i q))),.saved (Ce 12 ts),.cells [iV a,.ref 1,.ref 5,iV tt,nV kk,.ref 6,.jref 7],c7Z,.row 3 1 m (λi=>iV (w i))]⟩):=Aa (bbK 25 32374655) ((λc0 c1 c2 c3=>[c0,c0,c0,c0,c0,c0,c0,c1,c0,c2,c0,c0,c3,c0,c0,c0,ieq ((x (toN (Ab (wr .i64 (Ae z (ofNat b))) (ofNat n))))).loc (ofNat k),c1,c2,c3,ieq ((x (toN (Ab (wr .i64 (Ae z (ofNat b))) (ofNat n))))).dir 2,c2,c3,c2,c3]) (ilt (ofNat b) (ofNat n)) (ieq (ofNat n) 0) (Af (ile 0 (Ab (wr .i64 (Ae z (ofNat b))) (ofNat n))) (ilt (Ab (wr .i64 (Ae z (ofNat b))) (ofNat n)) (ofNat n))) (nlt (toN (Ab (wr .i64 (Ae z (ofNat b))) (ofNat n))) n)) (by kernel_rfl) (by simp only [h20] <;> simp only [*] <;> rfl)
theorem Ah9 (h0:ilt (ofNat b) (ofNat n) = true) (h1:ieq (ofNat n) 0 = false) (h20:Af (ile 0 (Ab (wr .i64 (Ae z (ofNat b))) (ofNat n))) (ilt (Ab (wr .i64 (Ae z (ofNat b))) (ofNat n)) (ofNat n)) = true) (h2:nlt (toN (Ab (wr .i64 (Ae z (ofNat b))) (ofNat n))) n = true) (h3:ieq ((x (toN (Ab (wr .i64 (Ae z (ofNat b))) (ofNat n))))).loc (ofNat k) = true) (h4:ieq ((x (toN (Ab (wr .i64 (Ae z (ofNat b))) (ofNat n))))).dir 2 = true) (h21:Bh m 1 8 = true):Aj (IJ L) (NP a n k kk g th lo tt c0 x0 r0 ln co ts) (W1 a n k kk g th lo tt c0 x0 r0 ln co ts b m z la x r w j) = some (.nm,⟨(jsV 79 0 (λ_=>.und) [(1,(nV k)),(2,(.ptr 9 0)),(4,(.ptr 10 0)),(5,(.ref 11)),(6,(nV n)),(7,(iV z)),(8,(iV (Ab (wr .i64 (Ae z (ofNat b))) (ofNat n)))),(9,(iV (wr .i64 (Ae (ofNat b) 1))))]),[c7Z,.row 44 6 n (λi=>eV (g i)),.row 3 1 n (λi=>iV (th i)),.row 3 1 n (λi=>iV (lo i)),.cells [iV a,.ref 1,.ref 5,iV tt,nV kk,.ref 6,.jref 7],.row 40 5 n (λi=>.agg [iV (sel (A4 i (toN (Ab (wr .i64 (Ae z (ofNat b))) (ofNat n)))) ((x (toN (Ab (wr .i64 (Ae z (ofNat b))) (ofNat n))))).th ((x i)).th),iV (sel (A4 i (toN (Ab (wr .i64 (Ae z (ofNat b))) (ofNat n)))) ((x (toN (Ab (wr .i64 (Ae z (ofNat b))) (ofNat n))))).pl ((x i)).pl),iV (sel (A4 i (toN (Ab (wr .i64 (Ae z (ofNat b))) (ofNat n)))) ((x (toN (Ab (wr .i64 (Ae z (ofNat b))) (ofNat n))))).dir ((x i)).dir),iV (sel (A4 i (toN (Ab (wr .i64 (Ae z (ofNat b))) (ofNat n)))) ((x (toN (Ab (wr .i64 (Ae z (ofNat b))) (ofNat n))))).loc ((x i)).loc),iV (sel (A4 i (toN (Ab (wr .i64 (Ae z (ofNat b))) (ofNat n)))) (ofNat (Bp m 1)) ((x i)).val)]),.row 3 1 n (λi=>iV (r i)),.jag (Jag.mk 25 1 k c0 0 3 1 (λ_=>true) ln (λi q=>iV (co i q))),.saved (Ce 12 (kill.kills 11 ts)),.cells [iV a,.ref 1,.ref 5,iV tt,nV kk,.ref 6,.jref 7],c7Z,.row 3 1 (Bp m 1) (AB m (λi=>iV (w i)) (iV (Ab (wr .i64 (Ae z (ofNat b))) (ofNat n))))]⟩):=Aa (bbK 24 16646015) ((λc0 c1 c2 c3=>[c0,c0,c0,c0,c0,c0,c0,c1,c0,c2,c0,c0,c3,c0,c0,c0,ieq ((x (toN (Ab (wr .i64 (Ae z (ofNat b))) (ofNat n))))).loc (ofNat k),c1,c2,c3,ieq ((x (toN (Ab (wr .i64 (Ae z (ofNat b))) (ofNat n))))).dir 2,Bh m 1 8,c2,c3]) (ilt (ofNat b) (ofNat n)) (ieq (ofNat n) 0) (Af (ile 0 (Ab (wr .i64 (Ae z (ofNat b))) (ofNat n))) (ilt (Ab (wr .i64 (Ae z (ofNat b))) (ofNat n)) (ofNat n))) (nlt (toN (Ab (wr .i64 (Ae z (ofNat b))) (ofNat n))) n)) (by kernel_rfl) (by simp only [h20] <;> simp only [*] <;> rfl)
end
theorem Aj1 (L:LT) (p0:PT) (a:Int) (n k kk:Nat) (g:Nat->E6) (th lo:Nat->Int) (tt:Int) (c0:Nat->V) (x0:Nat->Ev5) (r0:Nat->Int) (ln:Nat->Nat) (co:Nat->Nat->Int) (ts:List V) (us:List V) (b m:Nat) (z la:Int) (x:Nat->Ev5) (r w:Nat->Int) (h14:Be [.jag (Jag.mk 25 1 k (λ_=>.und) 0 3 1 (λ_=>true) (λ_=>0) (λ_ _=>.und))] = true) (h15:Ay k (λi=>Ay (ln i) (λ_=>true)) = true) (h16:Ai n = true) (h17:Bh k 1 24 = true) (hp0:p0 (IJ (onP 0 p0 (JH a n k kk g th lo tt c0 x0 r0 ln co us b m z la x r w) L)) (Ol a n k kk g th lo tt c0 x0 r0 ln co ts) = true):(An tab ⟨Aq TH,onP 0 p0 (JH a n k kk g th lo tt c0 x0 r0 ln co us b m z la x r w) L,Gl⟩ Try.f59 [.agg [iV a,.ref 1,.ref 5,iV tt,nV kk,.ref 6,.jref 7],nV k] [c7Z,.row 44 6 n (λi=>eV (g i)),.row 3 1 n (λi=>iV (th i)),.row 3 1 n (λi=>iV (lo i)),.cells [iV a,.ref 1,.ref 5,iV tt,nV kk,.ref 6,.jref 7],.row 40 5 n (λi=>evV (x0 i)),.row 3 1 n (λi=>iV (r0 i)),.jag (Jag.mk 25 1 k c0 0 3 1 (λ_=>true) ln (λi q=>iV (co i q))),.saved ts]).sem = some ((.agg [iV a,.ref 1,.ref 5,iV tt,nV kk,.ref 6,.jref 7]),[c7Z,.row 44 6 n (λi=>eV (g i)),.row 3 1 n (λi=>iV (th i)),.row 3 1 n (λi=>iV (lo i)),.cells [iV a,.ref 1,.ref 5,iV tt,nV kk,.ref 6,.und],.row 40 5 n (λi=>evV (x i)),.row 3 1 n (λi=>iV (r i)),.jag (Jag.mk 25 1 (Bp k 1) (AB k c0 .und) 0 3 1 (λi=>sel (A4 i k) true true) (λi=>sel (A4 i k) m (ln i)) (λi i_1=>Co (λi_2 i_3=>iV (co i_2 i_3)) k (λi_2=>iV (w i_2)) i i_1)),.saved (kill.kills 7 (kill.kills 12 (kill.kills 11 us))),.cells [iV a,.ref 1,.ref 5,iV tt,nV kk,.ref 6,.jref 7],.cells [iV a,.ref 1,.ref 5,iV tt,nV kk,.ref 6,.jref 7],.dead,.dead]):=Aa (bbK 10 1023) [Be [.jag (Jag.mk 25 1 k (λ_=>.und) 0 3 1 (λ_=>true) (λ_=>0) (λ_ _=>.und))],Ay n (λ_=>true),Ay n (λ_=>true),Ay n (λ_=>true),Ay k (λi=>Ay (ln i) (λ_=>true)),A4 n n,Ai n,p0 (IJ (onP 0 p0 (JH a n k kk g th lo tt c0 x0 r0 ln co us b m z la x r w) L)) (Ol a n k kk g th lo tt c0 x0 r0 ln co ts),true,Bh k 1 24] (by kernel_rfl) (by simp only [hp0] <;> simp only [*,Ax,Bg] <;> rfl)
theorem NI {p q:Nat->Bool} {n:Nat} (h:∀ i,i < n->p i = q i):E4 p n = E4 q n:=by
 by_cases hp:∃ k,k < n ∧ p k = true
 ·obtain ⟨k,hk,hpk⟩:=hp
  obtain ⟨h1,h2,h3⟩:=E3 hk hpk
  exact (Ky (p:=q) (by omega) (by rw [<- h _ (by omega)]; exact h2) (λi hi=>by rw [<- h i (by omega)]; exact h3 i hi)).symm
 ·have h1:∀ i,i < n->p i = false:=λi hi=>by
   cases hpi:p i with
   | false=>rfl
   | true=>exact absurd ⟨i,hi,hpi⟩ hp
  rw [Jk h1,Jk λi hi=>by rw [<- h i hi]; exact h1 i hi]
theorem Xc {n:Nat} {g:Nat->E6} {d:Nat->Bool} {k:Nat} (hk:k < kkN n g):GC n g (evF n g d) (ofNat k) = ofNat (stN (mbF g) n k):=by
 have:E4 (KA n g (evF n g d) (ofNat k)) n = stN (mbF g) n k:=NI λi hi=>by
  unfold KA
  rw [BU hi,AbM hi,D1,Bool.and_comm]
  rfl
 unfold GC
 rw [this,decide_eq_true (GM hk).1]
 rfl
def wvF (n:Nat) (g:Nat->E6) (z b q:Nat):Int:=if q < wcN (wrF g) n z b then ofNat (coN (mbF g) (wrF g) n (loN n g z) q) else 0
theorem X2 {n:Nat} {g:Nat->E6} {z b:Nat} (hz:z < n) (hst:CM (mbF g) n z = true) (hb:b < n) (hw:wrF g (rnd n z b) = true) :
  AB (wcN (wrF g) n z b) (λi=>iV (wvF n g z b i)) (iV (ofNat (rnd n z b))) = λi=>iV (wvF n g z (b+1) i):=by
 funext q
 rw [BF]
 have h2:stN (mbF g) n (loN n g z) = z:=XY hz hst
 unfold wvF
 rw [T6 hw]
 by_cases hq:q = wcN (wrF g) n z b
 ·subst hq
  rw [Nat.beq_refl,if_pos (Nat.lt_succ_self _)]
  unfold coN
  rw [h2,UV hb hw]
  rfl
 ·rw [nbeq_ne hq]
  by_cases h3:q < wcN (wrF g) n z b
  ·rw [if_pos h3,if_pos (by omega)]; rfl
  ·rw [if_neg h3,if_neg (by omega)]; rfl
theorem X1 {n:Nat} {g:Nat->E6} {z b:Nat} (hw:wrF g (rnd n z b) = false):wvF n g z (b+1) = wvF n g z b:=by
 funext q
 unfold wvF
 rw [T7 hw]
def Fa (F:V->V):Prop:=(∀ k x,F (.val (.int k x)) = .val (.int k x)) ∧ ∀ i o,i < 7->F (.ptr i o) = .ptr i o
theorem Fa.comp {F G:V->V} (hF:Fa F) (hG:Fa G):Fa (λv=>G (F v)):=⟨λk x=>by show G (F _) = _; rw [hF.1,hG.1],λi o h=>by show G (F _) = _; rw [hF.2 i o h,hG.2 i o h]⟩
theorem Ff:Fa (Gu 12):=⟨λ_ _=>rfl,λi o h=>by
 unfold Gu M1
 rw [show Nat.blt i 12 = true from Nat.ble_eq_true_of_le (by omega)]⟩
theorem EK (id:Nat):Fa (kill id):=⟨λ_ _=>rfl,λ_ _ _=>rfl⟩
theorem AhG (a:Int) (n z:Nat) (g:Nat->E6) (th lo:Nat->Int) (tt:Int) (c0:Nat->V) (x0:Nat->Ev5) (r0:Nat->Int) (ln:Nat->Nat) (co:Nat->Nat->Int) (hz:z < n) (hst:CM (mbF g) n z = true) (h8:n <= 16) :
  ∀ (e b:Nat) (q:Nat),Cp (mbF g) n z = b+e->e < q->∃ F,Fa F ∧ ∀ (L:LT) (ts0 ts:List V) (j:Nat->V),
  (A8 (IJ L) (NP a n (loN n g z) (kkN n g) g th lo tt c0 x0 r0 ln co ts0) q (W1 a n (loN n g z) (kkN n g) g th lo tt c0 x0 r0 ln co ts b (wcN (wrF g) n z b) (ofNat z) (wlN (wrF g) n z b) (evF n g (dnF n g (loN n g) (loN n g z) b)) (rfF n g (dnF n g (loN n g) (loN n g z) b)) (wvF n g z b) j)).sem
   = some (JH a n (loN n g z) (kkN n g) g th lo tt c0 x0 r0 ln co (ts.map F) 0 (wcN (wrF g) n z (Cp (mbF g) n z)) 0 0 (evF n g (dnF n g (loN n g) (loN n g z+1) 0)) (rfF n g (dnF n g (loN n g) (loN n g z+1) 0)) (wvF n g z (Cp (mbF g) n z))):=by
 intro e
 have hrk:Rank (mbF g) n (loN n g):=Lq (mbF g) n
 obtain ⟨l1,l2,l3,l4⟩:=ER hz hst
 have hkk:=I9 hz hst
 have hwc:∀ b,b <= n->wcN (wrF g) n z b <= n:=λb hb=>Nat.le_trans (Bd _ _) hb
 induction e with
 | zero =>
  intro b q hb hq
  obtain ⟨q,rfl⟩:∃ q',q = q'+1:=⟨q - 1,by omega⟩
  have hbl:Cp (mbF g) n z = b:=by omega
  have hde:=Wh hrk hz hst
  rw [hbl] at hde
  refine ⟨_,Ff,λL ts0 ts j=>?_⟩
  rw [<- hde,hbl,show NP a n (loN n g z) (kkN n g) g th lo tt c0 x0 r0 ln co ts0 = NP a n (loN n g z) (kkN n g) g th lo tt c0 x0 r0 ln co ts from rfl]
  by_cases hbn:b = n
  ·rw [Ad (AhB L a n (loN n g z) (kkN n g) g th lo tt c0 x0 r0 ln co ts b (wcN (wrF g) n z b) (ofNat z) (wlN (wrF g) n z b) (evF n g (dnF n g (loN n g) (loN n g z) b)) (rfF n g (dnF n g (loN n g) (loN n g z) b)) (wvF n g z b) j (AF (by omega))),QQ,B8]
   rfl
  ·have hbn:b < n:=by omega
   have hX:(Ab (wr .i64 (Ae (ofNat z) (ofNat b))) (ofNat n)) = ofNat (rnd n z b):=by rw [DI (by omega),C9]; rfl
   have hlt:rnd n z b < n:=G8 (by omega)
   have hin:Af (ile 0 (Ab (wr .i64 (Ae (ofNat z) (ofNat b))) (ofNat n))) (ilt (Ab (wr .i64 (Ae (ofNat z) (ofNat b))) (ofNat n)) (ofNat n)) = true:=by rw [hX]; exact Ap hlt
   have hnl:nlt (toN (Ab (wr .i64 (Ae (ofNat z) (ofNat b))) (ofNat n))) n = true:=by rw [hX]; exact decide_eq_true hlt
   have hlc:ieq (evF n g (dnF n g (loN n g) (loN n g z) b) (toN (Ab (wr .i64 (Ae (ofNat z) (ofNat b))) (ofNat n)))).loc (ofNat (loN n g z)) = false:=by
    rw [hX,show toN (ofNat (rnd n z b)) = rnd n z b from rfl,BU hlt]
    show ieq (loF n g (rnd n z b)) _ = false
    rw [AbM hlt,D1]
    apply decide_eq_false
    have hs:CM (mbF g) n (rnd n z b) = true:=by
     unfold CM
     rw [H2,show b+(n - 1) = (b - 1)+n by omega,RZ,<- hbl]
     exact l3
    intro he
    have h2:=(Lq (mbF g) n).apart hlt hz hs hst he
    have h3:rnd n z b = rnd n z 0:=by rw [h2,Sa hz]
    have:=AaZ hz hbn (by omega) h3
    omega
   rw [Ad (Ah8 L a n (loN n g z) (kkN n g) g th lo tt c0 x0 r0 ln co ts b (wcN (wrF g) n z b) (ofNat z) (wlN (wrF g) n z b) (evF n g (dnF n g (loN n g) (loN n g z) b)) (rfF n g (dnF n g (loN n g) (loN n g z) b)) (wvF n g z b) j (ofNat_lt hbn) (FP (by omega)) hin hnl hlc),QQ,B8]
   rfl
 | succ e ih =>
  intro b q hb hq
  obtain ⟨q,rfl⟩:∃ q',q = q'+1:=⟨q - 1,by omega⟩
  have hbn:b < n:=by omega
  have hbl:b < Cp (mbF g) n z:=by omega
  have hX:(Ab (wr .i64 (Ae (ofNat z) (ofNat b))) (ofNat n)) = ofNat (rnd n z b):=by rw [DI (by omega),C9]; rfl
  have hlt:rnd n z b < n:=G8 (by omega)
  have hin:Af (ile 0 (Ab (wr .i64 (Ae (ofNat z) (ofNat b))) (ofNat n))) (ilt (Ab (wr .i64 (Ae (ofNat z) (ofNat b))) (ofNat n)) (ofNat n)) = true:=by rw [hX]; exact Ap hlt
  have hnl:nlt (toN (Ab (wr .i64 (Ae (ofNat z) (ofNat b))) (ofNat n))) n = true:=by rw [hX]; exact decide_eq_true hlt
  have hap:Bh (wcN (wrF g) n z b) 1 8 = true:=by
   have:=hwc b (by omega)
   exact Cc (by omega)
  have hdn:=O3 hrk hz hst hbl
  have hin':=GW hz hst hbl
  have hv:=T9 (w:=wrF g) hin'
  have hlc:ieq (evF n g (dnF n g (loN n g) (loN n g z) b) (toN (Ab (wr .i64 (Ae (ofNat z) (ofNat b))) (ofNat n)))).loc (ofNat (loN n g z)) = true:=by
   rw [hX,show toN (ofNat (rnd n z b)) = rnd n z b from rfl,BU hlt]
   show ieq (loF n g (rnd n z b)) _ = true
   rw [AbM hlt,hrk.same hin',D1]
   exact decide_eq_true rfl
  cases hw:wrF g (rnd n z b) with
  | true =>
   have hW:ieq (evF n g (dnF n g (loN n g) (loN n g z) b) (toN (Ab (wr .i64 (Ae (ofNat z) (ofNat b))) (ofNat n)))).dir 2 = true:=by rw [hX,show toN (ofNat (rnd n z b)) = rnd n z b from rfl,BU hlt]; exact hw
   obtain ⟨F,hF,h⟩:=ih (b+1) q (by omega) (by omega)
   refine ⟨_,(((EK 11).comp Ff).comp hF),λL ts0 ts j=>?_⟩
   have h:=h L ts (Ce 12 (kill.kills 11 ts)) (λ_=>.und)
   rw [show NP a n (loN n g z) (kkN n g) g th lo tt c0 x0 r0 ln co ts0 = NP a n (loN n g z) (kkN n g) g th lo tt c0 x0 r0 ln co ts from rfl,Ad (Ah9 L a n (loN n g z) (kkN n g) g th lo tt c0 x0 r0 ln co ts b (wcN (wrF g) n z b) (ofNat z) (wlN (wrF g) n z b) (evF n g (dnF n g (loN n g) (loN n g z) b)) (rfF n g (dnF n g (loN n g) (loN n g z) b)) (wvF n g z b) j (ofNat_lt hbn) (FP (by omega)) hin hnl hlc hW hap),Aw]
   rw [hX,Ao hbn (by omega),show toN (ofNat (rnd n z b)) = rnd n z b from rfl,show Bp (wcN (wrF g) n z b) 1 = wcN (wrF g) n z b+1 from rfl,LF hlt hdn (by rw [hv,T6 hw]),X2 hz hst hbn hw,<- Qy hdn hw]
   rw [AgI hw,T6 hw,B8,Cv,List.map_map,List.map_map] at h
   rw [B8,Cv,List.map_map]
   exact h
  | false =>
   have hW:ieq (evF n g (dnF n g (loN n g) (loN n g z) b) (toN (Ab (wr .i64 (Ae (ofNat z) (ofNat b))) (ofNat n)))).dir 2 = false:=by rw [hX,show toN (ofNat (rnd n z b)) = rnd n z b from rfl,BU hlt]; exact hw
   obtain ⟨F,hF,h⟩:=ih (b+1) q (by omega) (by omega)
   refine ⟨_,(Ff.comp hF),λL ts0 ts j=>?_⟩
   have h:=h L ts (Ce 12 ts) (λ_=>.und)
   rw [show NP a n (loN n g z) (kkN n g) g th lo tt c0 x0 r0 ln co ts0 = NP a n (loN n g z) (kkN n g) g th lo tt c0 x0 r0 ln co ts from rfl,Ad (AhA L a n (loN n g z) (kkN n g) g th lo tt c0 x0 r0 ln co ts b (wcN (wrF g) n z b) (ofNat z) (wlN (wrF g) n z b) (evF n g (dnF n g (loN n g) (loN n g z) b)) (rfF n g (dnF n g (loN n g) (loN n g z) b)) (wvF n g z b) j (ofNat_lt hbn) (FP (by omega)) hin hnl hlc hW),Aw]
   rw [hX,Ao hbn (by omega),show toN (ofNat (rnd n z b)) = rnd n z b from rfl,LF hlt hdn (by rw [hv,T7 hw]),Ug hdn (Y8 hin' hw).symm]
   rw [AgJ hw,T7 hw,X1 hw,B8,List.map_map] at h
   rw [B8]
   exact h
end Go.Proofs.Ytjhnfomefcngfaa.Sh
