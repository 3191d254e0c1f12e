/-
  Layer 7: the document's cycle turned, where a location's segment begins, its walk through it. No conditions.
-/
import Derived.Test.YtjhnfomefcngfaaShW
namespace Go.Proofs.Ytjhnfomefcngfaa.Sh
open Go.Sy Ed
open Int (ofNat)
set_option maxHeartbeats 1000000
set_option maxRecDepth 4000
noncomputable def ZQ (n:Nat) (f:Nat->E6):Bool:=@decide (∃ a,IsCycle a n f) (Classical.propDecidable _)
theorem Tq {n:Nat} {f:Nat->E6}:ZQ n f = true ↔ ∃ a,IsCycle a n f:=by
 unfold ZQ
 exact @decide_eq_true_iff _ (Classical.propDecidable _)
noncomputable def AaP:List (Nat × (List V->T (V × List Blk))):=[(93,O8),(22,BQ λe=>bV (As e)),(21,M7)]
theorem AaO:AB Try.prog Gl AaP:=.cons p93 <| .cons p60 <| .cons p69 .nil
def Xa (n:Nat) (_:Nat->E6):Lp:=⟨(bmK 27 0 [3,5]),2,bmK 27 0 [2],3,n+1⟩
def Yh (n:Nat) (f:Nat->E6) (b:Nat) (j:Nat->V):St:=⟨(jsV 27 0 j [(3,.ref 1),(5,nV b)]),[.row 44 6 0 (λ_=>.und),.row 44 6 n (λi=>eV (Bk n f i))]⟩
def Wm (n:Nat) (f:Nat->E6) (b:Nat):Ex × St:=(.rt,⟨(jsV 27 0 (λ_=>.und) [(2,.ref 2)]),[.row 44 6 0 (λ_=>.und),.row 44 6 n (λi=>eV (Bk n f i)),.row 44 6 n (λi=>eV (J9 n (Bk n f) (ofNat b) i))]⟩)
noncomputable def OA (L:LT):St->T (Ex × St):=λst=>AF tab ⟨Ap AaP,L,Gl⟩ (A1 Try.f56 0) 0 st
section
variable (L:LT) (n:Nat) (f:Nat->E6) (b:Nat)  (j:Nat->V)
include L n f b j
theorem Ak7 (h0:ilt (ofNat b) (ofNat n) = true) (h13:ile 0 (ofNat b) = true) (h1:nlt b n = true) (h2:As (Bk n f b) = false):Ai (OA L) (Xa n f) (Yh n f b j) = some (.nm,⟨(jsV 27 0 (λ_=>.und) [(3,(.ref 1)),(5,(iV (wr .i64 (Ae (ofNat b) 1))))]),[.row 44 6 0 (λ_=>.und),.row 44 6 n (λi=>eV (Bk n f i))]⟩):=Aa [true,true,true,false] [ilt (ofNat b) (ofNat n),Af (ile 0 (ofNat b)) (ilt (ofNat b) (ofNat n)),nlt b n,As (Bk n f b)] (by kernel_rfl) (by simp only [*] <;> rfl)
theorem Ak6 (h0:ilt (ofNat b) (ofNat n) = true) (h14:ile 0 (ofNat b) = true) (h1:nlt b n = true) (h2:As (Bk n f b) = true) (h3:AN n = true) (h15:AW [.row 3 1 n (λ_=>iV 0)] = true):Ai (OA L) (Xa n f) (Yh n f b j) = some (.rt,⟨(jsV 27 0 (λ_=>.und) [(2,(.ref 2))]),[.row 44 6 0 (λ_=>.und),.row 44 6 n (λi=>eV (Bk n f i)),.row 44 6 n (λi=>eV (J9 n (λi=>Bk n f i) (wr .i64 (Ae (ofNat b) 1)) i))]⟩):=Aa (bbK 7 127) [ilt (ofNat b) (ofNat n),Af (ile 0 (ofNat b)) (ilt (ofNat b) (ofNat n)),nlt b n,As (Bk n f b),Au n (λ_=>true),AN n,AW [.row 3 1 n (λ_=>iV 0)]] (by kernel_rfl) (by simp only [*,Aw,Ce] <;> rfl)
end
def Ajr (n:Nat) (f:Nat->E6) :Nat->V:=lkV AA [(0,(.sl 6 n (λi=>eV (f i)))),(2,(.ref 0)),(4,(iV 0)),(6,(.tup [.ref 1,iV 0])),(7,(.sl 6 n (λi=>eV (f i)))),(8,(.tup [.ref 1,iV 0])),(9,(.ref 1)),(10,(iV 0))]
theorem w56 (L:LT) (p0:PT) (n:Nat) (f:Nat->E6) (q:Nat) (h0:AN n = true) (h1:BM n f = true) (hp0:p0 (OA (onP 0 p0 (Wm n f q) L)) (Yh n f 0 (Ajr n f )) = true):(Az (Ak tab ⟨Ap AaP,onP 0 p0 (Wm n f q) L,Gl⟩ Try.f56 [.sl 6 n λi=>eV (f i)] [])).sem = some ((.ref 0),[.row 44 6 n (λi=>eV (J9 n (Bk n f) (ofNat q) i))]):=Aa [true,true,true,true] [Au n (λ_=>true),AN n,BM n f,p0 (OA (onP 0 p0 (Wm n f q) L)) (Yh n f 0 (Ajr n f ))] (by kernel_rfl) (by simp only [hp0] <;> simp only [h0,h1,Aw] <;> rfl)
theorem AcA (L:LT) (n:Nat) (f:Nat->E6) (hf:AN n = true) (hn:n <= 4611686018427387903) (k:Nat) (hk:k < n) (ht:As (Bk n f k) = true) (hb:∀ i,i < k->As (Bk n f i) = false):∀ (e b:Nat) (j:Nat->V) (q:Nat),k = b+e->e < q ->
  (A9 (OA L) (Xa n f) q (Yh n f b j)).sem = some (Wm n f (k+1))
 | 0,b,j,q+1,h,_=>by
  have:k = b:=by omega
  subst this
  rw [Ad (Ak6 L n f k j (ofNat_lt hk) (AI k) (decide_eq_true hk) ht hf Ce),EK,Ao hk (by omega)]
  rfl
 | e+1,b,j,q+1,h,h2=>by
  have hl:b < n:=by omega
  rw [Ad (Ak7 L n f b j (ofNat_lt hl) (AI b) (decide_eq_true hl) (hb b (by omega))),Ax,Ao hl (by omega)]
  exact AcA L n f hf hn k hk ht hb e (b+1) (λ_=>.und) q (by omega) (by omega)
theorem W6 {n k:Nat}:DN n (ofNat k) = k % n:=by
 unfold DN
 rw [C5]
 have:ilt (ofNat (k % n)) 0 = false:=by simp [ilt]; omega
 rw [this]
 rfl
noncomputable def ZS:List V->T (V × List Blk):=Hp λn f=>.br (AN n) (.br (ZQ n f) (.leaf (.ref 0,[.row 44 6 n λi=>eV (shG n f i)])) .fail) .fail
theorem p56:A6 Try.prog Gl 56 ZS:=by
 refine A5 AO AP Try.func56 (by kernel_rfl) (by kernel_rfl) λvs v h' h=>?_
 obtain ⟨n,f,ha,h⟩:=CU h
 obtain ⟨hn,h⟩:=Ag h
 obtain ⟨hc,h⟩:=Ag h
 have:=Ac h
 simp only [Prod.mk.injEq] at this
 obtain ⟨rfl,rfl⟩:=this
 obtain ⟨a,hy⟩:=Tq.1 hc
 have hhi:=hy.hi
 obtain ⟨z1,z2,z3,z4⟩:=Lg hy
 have hx:=AQ AaO [(0,Xa n f)] (G:=Gl)
 have hL:=AL [(0,Xa n f)]
 refine ⟨_,AS Gl AaP [(0,Xa n f)],_,ha,rfl,hx.1,hx.2,A7 (Ay hL hL) _ (w56 _ _ n f (E2 (λi=>As (Bk n f i)) n+1) hn hy.may (Am (AcA _ n f hn (by omega) _ z1 z2 z3 _ 0 _ (n+1) (Nat.zero_add _).symm (by omega)))),AC.one λi hi=>?_⟩
 rw [IY hi]
 unfold J9 shQ
 rw [W6]
def K9 (n:Nat) (g:Nat->E6) (x:Nat->Ev5) (lc:Int) (i:Nat):Bool:=Af (ieq (x i).loc lc) (Ar (g ((i+(n - 1)) % n)))
def GD (n:Nat) (g:Nat->E6) (x:Nat->Ev5) (lc:Int):Int:=bif decide (E2 (K9 n g x lc) n < n) then ofNat (E2 (K9 n g x lc) n) else -1
noncomputable def XQ:List (Nat × (List V->T (V × List Blk))):=[(23,BQ λe=>bV (Ar e))]
theorem AaH:AB Try.prog Gl XQ:=.cons p61 .nil
def lp95 (_:Int) (n:Nat) (_:Nat->E6) (_:Nat->Ev5) (_ _:Int) (_:Nat) (_:Nat->Int) (_:Nat) (_:Nat->Nat) (_:Nat->Nat->Int) (_:Int):Lp:=⟨(bmK 37 0 [1,2,4,5,6]),1,bmK 37 0 [4],0,n+1⟩
def st95 (a:Int) (n:Nat) (g:Nat->E6) (x:Nat->Ev5) (tt k0:Int) (nr:Nat) (r:Nat->Int) (nc:Nat) (ln:Nat->Nat) (co:Nat->Nat->Int) (lc:Int) (b:Nat) (j:Nat->V):St:=⟨(jsV 37 0 j [(1,iV lc),(2,.ptr 0 0),(4,iV 0),(5,nV n),(6,nV b)]),[.cells [iV a,.sl 6 n (λi=>eV (g i)),.sl 5 n (λi=>evV (x i)),iV tt,iV k0,.sl 1 nr (λi=>iV (r i)),.sl 1 nc (λk=>.sl 1 (ln k) (λi=>iV (co k i)))]]⟩
def Th (_:Int) (_:Nat) (_:Nat->E6) (_:Nat->Ev5) (_ _:Int) (_:Nat) (_:Nat->Int) (_:Nat) (_:Nat->Nat) (_:Nat->Nat->Int) (_:Int) (b:Nat):Ex × St:=(.rt,⟨(jsV 37 0 (λ_=>.und) [(4,nV b)]),[]⟩)
def Ti (_:Int) (_:Nat) (_:Nat->E6) (_:Nat->Ev5) (_ _:Int) (_:Nat) (_:Nat->Int) (_:Nat) (_:Nat->Nat) (_:Nat->Nat->Int) (_:Int) (_:Nat):Ex × St:=(.ex 0,⟨(jsV 37 0 (λ_=>.und) [(4,iV 0)]),[]⟩)
noncomputable def body95 (L:LT):St->T (Ex × St):=λst=>AF tab ⟨Ap XQ,L,Gl⟩ (A1 Try.f95 0) 0 st
section
variable (L:LT) (a:Int) (n:Nat) (g:Nat->E6) (x:Nat->Ev5) (tt k0:Int) (nr:Nat) (r:Nat->Int) (nc:Nat) (ln:Nat->Nat) (co:Nat->Nat->Int) (lc:Int) (b:Nat)  (j:Nat->V)
include L a n g x tt k0 nr r nc ln co lc b j
theorem Ak3 (h0:ilt (ofNat b) (ofNat n) = false):Ai (body95 L) (lp95 a n g x tt k0 nr r nc ln co lc) (st95 a n g x tt k0 nr r nc ln co lc b j) = some ((.ex 0),⟨(jsV 37 0 (λ_=>.und) [(4,(iV 0))]),[]⟩):=Aa [false] [ilt (ofNat b) (ofNat n)] (by kernel_rfl) (by simp only [h0] <;> rfl)
theorem Ak5 (h0:ilt (ofNat b) (ofNat n) = true) (h14:ile 0 (ofNat b) = true) (h3:ieq ((x b)).loc lc = false):Ai (body95 L) (lp95 a n g x tt k0 nr r nc ln co lc) (st95 a n g x tt k0 nr r nc ln co lc b j) = some (.nm,⟨(jsV 37 0 (λ_=>.und) [(1,(iV lc)),(2,(.ptr 0 0)),(4,(iV 0)),(5,(nV n)),(6,(iV (wr .i64 (Ae (ofNat b) 1))))]),[.cells [iV a,.sl 6 n (λi=>eV (g i)),.sl 5 n (λi=>evV (x i)),iV tt,iV k0,.sl 1 nr (λi=>iV (r i)),.sl 1 nc (λk=>.sl 1 (ln k) (λi=>iV (co k i)))]]⟩):=Aa (bbK 15 3) ((λc0=>[ilt (ofNat b) (ofNat n),Af (ile 0 (ofNat b)) (ilt (ofNat b) (ofNat n)),c0,c0,c0,c0,c0,c0,c0,c0,c0,c0,c0,c0,false]) (ieq ((x b)).loc lc)) (by kernel_rfl) (by simp only [*] <;> rfl)
theorem Ak4 (h0:ilt (ofNat b) (ofNat n) = true) (h15:ile 0 (ofNat b) = true) (h3:ieq ((x b)).loc lc = true) (h1:ieq (ofNat n) 0 = false) (h17:Af (ile 0 (Ab (wr .i64 (A2 (wr .i64 (Ae (ofNat b) (ofNat n))) 1)) (ofNat n))) (ilt (Ab (wr .i64 (A2 (wr .i64 (Ae (ofNat b) (ofNat n))) 1)) (ofNat n)) (ofNat n)) = true) (h4:Ar (g (toN (Ab (wr .i64 (A2 (wr .i64 (Ae (ofNat b) (ofNat n))) 1)) (ofNat n)))) = false):Ai (body95 L) (lp95 a n g x tt k0 nr r nc ln co lc) (st95 a n g x tt k0 nr r nc ln co lc b j) = some (.nm,⟨(jsV 37 0 (λ_=>.und) [(1,(iV lc)),(2,(.ptr 0 0)),(4,(iV 0)),(5,(nV n)),(6,(iV (wr .i64 (Ae (ofNat b) 1))))]),[.cells [iV a,.sl 6 n (λi=>eV (g i)),.sl 5 n (λi=>evV (x i)),iV tt,iV k0,.sl 1 nr (λi=>iV (r i)),.sl 1 nc (λk=>.sl 1 (ln k) (λi=>iV (co k i)))]]⟩):=Aa (bbK 17 64511) ((λc0=>[ilt (ofNat b) (ofNat n),Af (ile 0 (ofNat b)) (ilt (ofNat b) (ofNat n)),c0,c0,c0,c0,c0,c0,c0,c0,ieq (ofNat n) 0,c0,Af (ile 0 (Ab (wr .i64 (A2 (wr .i64 (Ae (ofNat b) (ofNat n))) 1)) (ofNat n))) (ilt (Ab (wr .i64 (A2 (wr .i64 (Ae (ofNat b) (ofNat n))) 1)) (ofNat n)) (ofNat n)),c0,c0,c0,Ar (g (toN (Ab (wr .i64 (A2 (wr .i64 (Ae (ofNat b) (ofNat n))) 1)) (ofNat n))))]) (ieq ((x b)).loc lc)) (by kernel_rfl) (by simp only [h17] <;> simp only [*] <;> rfl)
theorem Ak2 (h0:ilt (ofNat b) (ofNat n) = true) (h15:ile 0 (ofNat b) = true) (h3:ieq ((x b)).loc lc = true) (h1:ieq (ofNat n) 0 = false) (h17:Af (ile 0 (Ab (wr .i64 (A2 (wr .i64 (Ae (ofNat b) (ofNat n))) 1)) (ofNat n))) (ilt (Ab (wr .i64 (A2 (wr .i64 (Ae (ofNat b) (ofNat n))) 1)) (ofNat n)) (ofNat n)) = true) (h4:Ar (g (toN (Ab (wr .i64 (A2 (wr .i64 (Ae (ofNat b) (ofNat n))) 1)) (ofNat n)))) = true):Ai (body95 L) (lp95 a n g x tt k0 nr r nc ln co lc) (st95 a n g x tt k0 nr r nc ln co lc b j) = some (.rt,⟨(jsV 37 0 (λ_=>.und) [(4,(nV b))]),[]⟩):=Aa (bbK 17 130047) ((λc0=>[ilt (ofNat b) (ofNat n),Af (ile 0 (ofNat b)) (ilt (ofNat b) (ofNat n)),c0,c0,c0,c0,c0,c0,c0,c0,ieq (ofNat n) 0,c0,Af (ile 0 (Ab (wr .i64 (A2 (wr .i64 (Ae (ofNat b) (ofNat n))) 1)) (ofNat n))) (ilt (Ab (wr .i64 (A2 (wr .i64 (Ae (ofNat b) (ofNat n))) 1)) (ofNat n)) (ofNat n)),c0,c0,c0,Ar (g (toN (Ab (wr .i64 (A2 (wr .i64 (Ae (ofNat b) (ofNat n))) 1)) (ofNat n))))]) (ieq ((x b)).loc lc)) (by kernel_rfl) (by simp only [h17] <;> simp only [*] <;> rfl)
end
def AbY (a:Int) (n:Nat) (g:Nat->E6) (x:Nat->Ev5) (tt k0:Int) (nr:Nat) (r:Nat->Int) (nc:Nat) (ln:Nat->Nat) (co:Nat->Nat->Int) (_:Int) :Nat->V:=lkV AA [(0,(.agg [iV a,.sl 6 n (λi=>eV (g i)),.sl 5 n (λi=>evV (x i)),iV tt,iV k0,.sl 1 nr (λi=>iV (r i)),.sl 1 nc (λk=>.sl 1 (ln k) (λi=>iV (co k i)))])),(7,(.ptr 0 1)),(8,(.sl 6 n (λi=>eV (g i)))),(9,(nV n))]
section
variable (L:LT) (p0:PT) (a:Int) (n:Nat) (g:Nat->E6) (x:Nat->Ev5) (tt k0:Int) (nr:Nat) (r:Nat->Int) (nc:Nat) (ln:Nat->Nat) (co:Nat->Nat->Int) (lc:Int) (q:Nat)
include L p0 a n g x tt k0 nr r nc ln co lc q
theorem AjP  (hp0:p0 (body95 (onP 0 p0 (Th a n g x tt k0 nr r nc ln co lc q) L)) (st95 a n g x tt k0 nr r nc ln co lc 0 (AbY a n g x tt k0 nr r nc ln co lc )) = true):(Az (Ak tab ⟨Ap XQ,onP 0 p0 (Th a n g x tt k0 nr r nc ln co lc q) L,Gl⟩ Try.f95 [.agg [iV a,.sl 6 n (λi=>eV (g i)),.sl 5 n (λi=>evV (x i)),iV tt,iV k0,.sl 1 nr (λi=>iV (r i)),.sl 1 nc (λk=>.sl 1 (ln k) (λi=>iV (co k i)))],iV lc] [])).sem = some ((nV q),[]):=Aa [true] [p0 (body95 (onP 0 p0 (Th a n g x tt k0 nr r nc ln co lc q) L)) (st95 a n g x tt k0 nr r nc ln co lc 0 (AbY a n g x tt k0 nr r nc ln co lc ))] (by kernel_rfl) (by simp only [hp0] <;> rfl)
theorem AjQ  (hp0:p0 (body95 (onP 0 p0 (Ti a n g x tt k0 nr r nc ln co lc q) L)) (st95 a n g x tt k0 nr r nc ln co lc 0 (AbY a n g x tt k0 nr r nc ln co lc )) = true):(Az (Ak tab ⟨Ap XQ,onP 0 p0 (Ti a n g x tt k0 nr r nc ln co lc q) L,Gl⟩ Try.f95 [.agg [iV a,.sl 6 n (λi=>eV (g i)),.sl 5 n (λi=>evV (x i)),iV tt,iV k0,.sl 1 nr (λi=>iV (r i)),.sl 1 nc (λk=>.sl 1 (ln k) (λi=>iV (co k i)))],iV lc] [])).sem = some ((iV (-1)),[]):=Aa [true] [p0 (body95 (onP 0 p0 (Ti a n g x tt k0 nr r nc ln co lc q) L)) (st95 a n g x tt k0 nr r nc ln co lc 0 (AbY a n g x tt k0 nr r nc ln co lc ))] (by kernel_rfl) (by simp only [hp0] <;> rfl)
end
theorem run95 (L:LT) (a:Int) (n:Nat) (g:Nat->E6) (x:Nat->Ev5) (tt k0:Int) (nr:Nat) (r:Nat->Int) (nc:Nat) (ln:Nat->Nat) (co:Nat->Nat->Int) (lc:Int) (hn:n <= 4611686018427387904):∀ (e b:Nat) (j:Nat->V) (q:Nat),n = b+e->e < q->(∀ k,k < b->K9 n g x lc k = false) ->
  ((A9 (body95 L) (lp95 a n g x tt k0 nr r nc ln co lc) q (st95 a n g x tt k0 nr r nc ln co lc b j)).sem = some (Ti a n g x tt k0 nr r nc ln co lc 0) ∧ GD n g x lc = -1) ∨ ∃ i,(A9 (body95 L) (lp95 a n g x tt k0 nr r nc ln co lc) q (st95 a n g x tt k0 nr r nc ln co lc b j)).sem = some (Th a n g x tt k0 nr r nc ln co lc i) ∧ GD n g x lc = ofNat i
 | 0,b,j,q+1,h,_,hb=>by
  have:n = b:=by omega
  subst this
  refine .inl ⟨Ad (Ak3 L a n g x tt k0 nr r nc ln co lc n j (AD (Nat.le_refl _))),?_⟩
  unfold GD
  rw [Jj hb]
  simp
 | e+1,b,j,q+1,h,h2,hb=>by
  have hl:b < n:=by omega
  have hx:=J2 (a:=b) (n:=n) (by omega) (by omega)
  have hlt:(b+(n - 1)) % n < n:=Nat.mod_lt _ (by omega)
  have hin:Af (ile 0 (Ab (wr .i64 (A2 (wr .i64 (Ae (ofNat b) (ofNat n))) 1)) (ofNat n))) (ilt (Ab (wr .i64 (A2 (wr .i64 (Ae (ofNat b) (ofNat n))) 1)) (ofNat n)) (ofNat n)) = true:=by rw [hx]; exact Aq hlt
  have next:K9 n g x lc b = false->_:=λhf=>run95 L a n g x tt k0 nr r nc ln co lc hn e (b+1) (λ_=>.und) q (by omega) (by omega) λk hk=>by
   by_cases hki:k = b
   ·rw [hki]; exact hf
   ·exact hb k (by omega)
  cases h1:ieq (x b).loc lc with
  | false =>
   rw [Ad (Ak5 L a n g x tt k0 nr r nc ln co lc b j (ofNat_lt hl) (AI b) h1),Ax,Ao hl (by omega)]
   exact next (by unfold K9; rw [h1]; rfl)
  | true =>
   cases hm:Ar (g ((b+(n - 1)) % n)) with
   | false =>
    rw [Ad (Ak4 L a n g x tt k0 nr r nc ln co lc b j (ofNat_lt hl) (AI b) h1 (FS (by omega)) hin (by rw [hx]; exact hm)),Ax,Ao hl (by omega)]
    exact next (by unfold K9; rw [h1,hm]; rfl)
   | true =>
    refine .inr ⟨b,Ad (Ak2 L a n g x tt k0 nr r nc ln co lc b j (ofNat_lt hl) (AI b) h1 (FS (by omega)) hin (by rw [hx]; exact hm)),?_⟩
    unfold GD
    rw [Kx hl (by unfold K9; rw [h1,hm]; rfl) hb,decide_eq_true hl]
    rfl
def UD:List V->T (V × List Blk)
 | [v,.val (.int .i64 lc)]=>apS v λs=>.br (A3 s.nx s.ne) (.br (Ah s.ne) (.leaf (iV (GD s.ne s.E s.X lc),[])) .fail) .fail
 | _=>.fail
theorem p95:A6 Try.prog Gl 95 UD:=by
 refine A5 AO AP Try.func95 (by kernel_rfl) (by kernel_rfl) λvs v h' h=>?_
 unfold UD at h
 split at h
 ·rename_i u lc
  obtain ⟨s,ha,h⟩:=EX h
  obtain ⟨h1,h⟩:=Ag h
  obtain ⟨h2,h⟩:=Ag h
  have:=Ac h
  simp only [Prod.mk.injEq] at this
  obtain ⟨rfl,rfl⟩:=this
  obtain ⟨a,n,g,nx,x,tt,k0,nr,r,nc,C⟩:=s
  have h1:nx = n:=Nat.eq_of_beq_eq_true h1
  subst h1
  have h2:nx <= 4611686018427387904:=of_decide_eq_true h2
  have hA:BJ [u,iV lc] [.agg [iV a,.sl 6 nx (λi=>eV (g i)),.sl 5 nx (λi=>evV (x i)),iV tt,iV k0,.sl 1 nr (λi=>iV (r i)),.sl 1 nc (λk=>.sl 1 (C k).1 (λi=>iV ((C k).2 i)))],iV lc]:=λS w cs hv=>by
   obtain ⟨c,l,rfl,q1,q2⟩:=hv
   exact ⟨c,l,rfl,ha S w c q1,q2⟩
  have hx:=AQ AaH [(0,lp95 a nx g x tt k0 nr r nc (λk=>(C k).1) (λk=>(C k).2) lc)] (G:=Gl)
  have hL:=AL [(0,lp95 a nx g x tt k0 nr r nc (λk=>(C k).1) (λk=>(C k).2) lc)]
  refine ⟨_,AS Gl XQ [(0,lp95 a nx g x tt k0 nr r nc (λk=>(C k).1) (λk=>(C k).2) lc)],_,hA,rfl,hx.1,hx.2,?_,AC.refl _⟩
  have h0:=λL j=>run95 L a nx g x tt k0 nr r nc (λk=>(C k).1) (λk=>(C k).2) lc h2 nx 0 j (nx+1) (by omega) (by omega) (λk hk=>absurd hk (Nat.not_lt_zero _))
  rcases h0 Ab6 (λ_=>.und) with ⟨_,h5⟩ | ⟨i,_,h5⟩
  ·have h6:∀ L j,(A9 (body95 L) (lp95 a nx g x tt k0 nr r nc (λk=>(C k).1) (λk=>(C k).2) lc) (nx+1) (st95 a nx g x tt k0 nr r nc (λk=>(C k).1) (λk=>(C k).2) lc 0 j)).sem = some (Ti a nx g x tt k0 nr r nc (λk=>(C k).1) (λk=>(C k).2) lc 0):=λL j=>by
    rcases h0 L j with ⟨h,_⟩ | ⟨i,_,h⟩
    ·exact h
    ·rw [h5] at h
     cases h
   rw [h5]
   exact A7 (Ay hL hL) _ (AjQ _ _ a nx g x tt k0 nr r nc (λk=>(C k).1) (λk=>(C k).2) lc 0 (Am (h6 _ _)))
  ·have h6:∀ L j,(A9 (body95 L) (lp95 a nx g x tt k0 nr r nc (λk=>(C k).1) (λk=>(C k).2) lc) (nx+1) (st95 a nx g x tt k0 nr r nc (λk=>(C k).1) (λk=>(C k).2) lc 0 j)).sem = some (Th a nx g x tt k0 nr r nc (λk=>(C k).1) (λk=>(C k).2) lc i):=λL j=>by
    rcases h0 L j with ⟨_,h⟩ | ⟨i',h,h'⟩
    ·rw [h5] at h
     cases h
    ·rw [h5] at h'
     cases h'
     exact h
   rw [h5]
   exact A7 (Ay hL hL) _ (AjP _ _ a nx g x tt k0 nr r nc (λk=>(C k).1) (λk=>(C k).2) lc i (Am (h6 _ _)))
 ·cases h
noncomputable def TM:List (Nat × (List V->T (V × List Blk))):=[(95,UD)]
theorem Vi:AB Try.prog Gl TM:=.cons p95 .nil
def Om (a:Int) (n k kk:Nat) (g:Nat->E6) (th lo:Nat->Int) (tt:Int) (c0:Nat->V) (x0:Nat->Ev5) (r0:Nat->Int) (ln:Nat->Nat) (co:Nat->Nat->Int) (ts:List V) :St:=⟨(jsV 79 0 (λ_=>AA) [(0,(.agg [iV a,.ref 1,.ref 5,iV tt,nV kk,.ref 6,.jref 7])),(1,(nV k)),(2,(.ptr 9 0)),(4,(.ptr 10 0)),(5,(.ref 11)),(6,(nV n)),(7,(iV (GD n g x0 (ofNat k)))),(8,(iV (-1))),(9,(iV 0)),(11,(.ptr 9 1)),(12,(.ref 1)),(13,(nV n)),(14,(.agg [iV a,.ref 1,.ref 5,iV tt,nV kk,.ref 6,.jref 7])),(15,(nV k)),(16,(iV (GD n g x0 (ofNat k))))]),[c7Z,.row 44 6 n (λi=>eV (g i)),.row 3 1 n (λi=>iV (th i)),.row 3 1 n (λi=>iV (lo i)),.cells [iV a,.ref 1,.ref 5,iV tt,nV kk,.ref 6,.jref 7],.row 40 5 n (λi=>evV (x0 i)),.row 3 1 n (λi=>iV (r0 i)),.jag (Jag.mk 25 1 k c0 0 3 1 (λ_=>true) ln (λi q=>iV (co i q))),.saved ts,.cells [iV a,.ref 1,.ref 5,iV tt,nV kk,.ref 6,.jref 7],c7Z,r3Z]⟩
def NQ (_:Int) (_ _ _:Nat) (_:Nat->E6) (_ _:Nat->Int) (_:Int) (_:Nat->V) (_:Nat->Ev5) (_:Nat->Int) (_:Nat->Nat) (_:Nat->Nat->Int) (_:List V):Lp:=⟨(bmK 79 0 [1,2,4,5,6,7,8,9]),12,bmK 79 0 [2,4,5],12,17⟩
def WA (a:Int) (n k kk:Nat) (g:Nat->E6) (th lo:Nat->Int) (tt:Int) (c0:Nat->V) (_:Nat->Ev5) (_:Nat->Int) (ln:Nat->Nat) (co:Nat->Nat->Int) (ts:List V) (b m:Nat) (z la:Int) (x:Nat->Ev5) (r w:Nat->Int) (j:Nat->V):St:=⟨(jsV 79 0 j [(1,nV k),(2,.ptr 9 0),(4,.ptr 10 0),(5,.ref 11),(6,nV n),(7,iV z),(8,iV la),(9,nV b)]),[c7Z,.row 44 6 n (λi=>eV (g i)),.row 3 1 n (λi=>iV (th i)),.row 3 1 n (λi=>iV (lo i)),.cells [iV a,.ref 1,.ref 5,iV tt,nV kk,.ref 6,.jref 7],.row 40 5 n (λi=>evV (x i)),.row 3 1 n (λi=>iV (r i)),.jag (Jag.mk 25 1 k c0 0 3 1 (λ_=>true) ln (λi q=>iV (co i q))),.saved ts,.cells [iV a,.ref 1,.ref 5,iV tt,nV kk,.ref 6,.jref 7],c7Z,.row 3 1 m (λi=>iV (w i))]⟩
def JG (a:Int) (n k kk:Nat) (g:Nat->E6) (th lo:Nat->Int) (tt:Int) (c0:Nat->V) (_:Nat->Ev5) (_:Nat->Int) (ln:Nat->Nat) (co:Nat->Nat->Int) (ts:List V) (_ m:Nat) (_ _:Int) (x:Nat->Ev5) (r w:Nat->Int):Ex × St:=(.ex 0,⟨(jsV 79 0 (λ_=>.und) [(2,.ptr 9 0),(4,.ptr 10 0),(5,.ref 11)]),[c7Z,.row 44 6 n (λi=>eV (g i)),.row 3 1 n (λi=>iV (th i)),.row 3 1 n (λi=>iV (lo i)),.cells [iV a,.ref 1,.ref 5,iV tt,nV kk,.ref 6,.jref 7],.row 40 5 n (λi=>evV (x i)),.row 3 1 n (λi=>iV (r i)),.jag (Jag.mk 25 1 k c0 0 3 1 (λ_=>true) ln (λi q=>iV (co i q))),.saved ts,.cells [iV a,.ref 1,.ref 5,iV tt,nV kk,.ref 6,.jref 7],c7Z,.row 3 1 m (λi=>iV (w i))]⟩)
noncomputable def II (L:LT):St->T (Ex × St):=λst=>AF tab ⟨Ap TM,L,Gl⟩ (A1 Try.f59 0) 0 st
section
variable (L:LT) (a:Int) (n k kk:Nat) (g:Nat->E6) (th lo:Nat->Int) (tt:Int) (c0:Nat->V) (x0:Nat->Ev5) (r0:Nat->Int) (ln:Nat->Nat) (co:Nat->Nat->Int) (ts:List V) (b m:Nat) (z la:Int) (x:Nat->Ev5) (r w:Nat->Int)  (j:Nat->V)
include L a n k kk g th lo tt c0 x0 r0 ln co ts b m z la x r w j
theorem AhT (h0:ilt (ofNat b) (ofNat n) = false):Ai (II L) (NQ a n k kk g th lo tt c0 x0 r0 ln co ts) (WA a n k kk g th lo tt c0 x0 r0 ln co ts b m z la x r w j) = some ((.ex 0),⟨(jsV 79 0 (λ_=>.und) [(2,(.ptr 9 0)),(4,(.ptr 10 0)),(5,(.ref 11))]),[c7Z,.row 44 6 n (λi=>eV (g i)),.row 3 1 n (λi=>iV (th i)),.row 3 1 n (λi=>iV (lo i)),.cells [iV a,.ref 1,.ref 5,iV tt,nV kk,.ref 6,.jref 7],.row 40 5 n (λi=>evV (x i)),.row 3 1 n (λi=>iV (r i)),.jag (Jag.mk 25 1 k c0 0 3 1 (λ_=>true) ln (λi q=>iV (co i q))),.saved (Cc 12 ts),.cells [iV a,.ref 1,.ref 5,iV tt,nV kk,.ref 6,.jref 7],c7Z,.row 3 1 m (λi=>iV (w i))]⟩):=Aa (bbK 14 0) ((λc0=>[c0,c0,c0,c0,c0,c0,c0,c0,c0,c0,c0,c0,c0,false]) (ilt (ofNat b) (ofNat n))) (by kernel_rfl) (by simp only [h0] <;> rfl)
theorem AhQ (h0:ilt (ofNat b) (ofNat n) = true) (h1:ieq (ofNat n) 0 = false) (h19:Af (ile 0 (Ab (wr .i64 (Ae z (ofNat b))) (ofNat n))) (ilt (Ab (wr .i64 (Ae z (ofNat b))) (ofNat n)) (ofNat n)) = true) (h2:nlt (toN (Ab (wr .i64 (Ae z (ofNat b))) (ofNat n))) n = true) (h3:ieq ((x (toN (Ab (wr .i64 (Ae z (ofNat b))) (ofNat n))))).loc (ofNat k) = false):Ai (II L) (NQ a n k kk g th lo tt c0 x0 r0 ln co ts) (WA a n k kk g th lo tt c0 x0 r0 ln co ts b m z la x r w j) = some ((.ex 0),⟨(jsV 79 0 (λ_=>.und) [(2,(.ptr 9 0)),(4,(.ptr 10 0)),(5,(.ref 11))]),[c7Z,.row 44 6 n (λi=>eV (g i)),.row 3 1 n (λi=>iV (th i)),.row 3 1 n (λi=>iV (lo i)),.cells [iV a,.ref 1,.ref 5,iV tt,nV kk,.ref 6,.jref 7],.row 40 5 n (λi=>evV (x i)),.row 3 1 n (λi=>iV (r i)),.jag (Jag.mk 25 1 k c0 0 3 1 (λ_=>true) ln (λi q=>iV (co i q))),.saved (Cc 12 ts),.cells [iV a,.ref 1,.ref 5,iV tt,nV kk,.ref 6,.jref 7],c7Z,.row 3 1 m (λi=>iV (w i))]⟩):=Aa (bbK 17 65407) ((λc0=>[c0,c0,c0,c0,c0,c0,c0,ieq (ofNat n) 0,c0,Af (ile 0 (Ab (wr .i64 (Ae z (ofNat b))) (ofNat n))) (ilt (Ab (wr .i64 (Ae z (ofNat b))) (ofNat n)) (ofNat n)),c0,c0,nlt (toN (Ab (wr .i64 (Ae z (ofNat b))) (ofNat n))) n,c0,c0,c0,ieq ((x (toN (Ab (wr .i64 (Ae z (ofNat b))) (ofNat n))))).loc (ofNat k)]) (ilt (ofNat b) (ofNat n))) (by kernel_rfl) (by simp only [h19] <;> simp only [*] <;> rfl)
theorem AhS (h0:ilt (ofNat b) (ofNat n) = true) (h1:ieq (ofNat n) 0 = false) (h20:Af (ile 0 (Ab (wr .i64 (Ae z (ofNat b))) (ofNat n))) (ilt (Ab (wr .i64 (Ae z (ofNat b))) (ofNat n)) (ofNat n)) = true) (h2:nlt (toN (Ab (wr .i64 (Ae z (ofNat b))) (ofNat n))) n = true) (h3:ieq ((x (toN (Ab (wr .i64 (Ae z (ofNat b))) (ofNat n))))).loc (ofNat k) = true) (h4:ieq ((x (toN (Ab (wr .i64 (Ae z (ofNat b))) (ofNat n))))).dir 2 = false):Ai (II L) (NQ a n k kk g th lo tt c0 x0 r0 ln co ts) (WA a n k kk g th lo tt c0 x0 r0 ln co ts b m z la x r w j) = some (.nm,⟨(jsV 79 0 (λ_=>.und) [(1,(nV k)),(2,(.ptr 9 0)),(4,(.ptr 10 0)),(5,(.ref 11)),(6,(nV n)),(7,(iV z)),(8,(iV la)),(9,(iV (wr .i64 (Ae (ofNat b) 1))))]),[c7Z,.row 44 6 n (λi=>eV (g i)),.row 3 1 n (λi=>iV (th i)),.row 3 1 n (λi=>iV (lo i)),.cells [iV a,.ref 1,.ref 5,iV tt,nV kk,.ref 6,.jref 7],.row 40 5 n (λi=>.agg [iV (sel (A3 i (toN (Ab (wr .i64 (Ae z (ofNat b))) (ofNat n)))) ((x (toN (Ab (wr .i64 (Ae z (ofNat b))) (ofNat n))))).th ((x i)).th),iV (sel (A3 i (toN (Ab (wr .i64 (Ae z (ofNat b))) (ofNat n)))) ((x (toN (Ab (wr .i64 (Ae z (ofNat b))) (ofNat n))))).pl ((x i)).pl),iV (sel (A3 i (toN (Ab (wr .i64 (Ae z (ofNat b))) (ofNat n)))) ((x (toN (Ab (wr .i64 (Ae z (ofNat b))) (ofNat n))))).dir ((x i)).dir),iV (sel (A3 i (toN (Ab (wr .i64 (Ae z (ofNat b))) (ofNat n)))) ((x (toN (Ab (wr .i64 (Ae z (ofNat b))) (ofNat n))))).loc ((x i)).loc),iV (sel (A3 i (toN (Ab (wr .i64 (Ae z (ofNat b))) (ofNat n)))) (ofNat m) ((x i)).val)]),.row 3 1 n (Bl (λi=>iV (r i)) (toN (Ab (wr .i64 (Ae z (ofNat b))) (ofNat n))) (iV la)),.jag (Jag.mk 25 1 k c0 0 3 1 (λ_=>true) ln (λi q=>iV (co i q))),.saved (Cc 12 ts),.cells [iV a,.ref 1,.ref 5,iV tt,nV kk,.ref 6,.jref 7],c7Z,.row 3 1 m (λi=>iV (w i))]⟩):=Aa (bbK 25 32374655) ((λc0 c1 c2 c3=>[c0,c0,c0,c0,c0,c0,c0,c1,c0,c2,c0,c0,c3,c0,c0,c0,ieq ((x (toN (Ab (wr .i64 (Ae z (ofNat b))) (ofNat n))))).loc (ofNat k),c1,c2,c3,ieq ((x (toN (Ab (wr .i64 (Ae z (ofNat b))) (ofNat n))))).dir 2,c2,c3,c2,c3]) (ilt (ofNat b) (ofNat n)) (ieq (ofNat n) 0) (Af (ile 0 (Ab (wr .i64 (Ae z (ofNat b))) (ofNat n))) (ilt (Ab (wr .i64 (Ae z (ofNat b))) (ofNat n)) (ofNat n))) (nlt (toN (Ab (wr .i64 (Ae z (ofNat b))) (ofNat n))) n)) (by kernel_rfl) (by simp only [h20] <;> simp only [*] <;> rfl)
theorem AhR (h0:ilt (ofNat b) (ofNat n) = true) (h1:ieq (ofNat n) 0 = false) (h20:Af (ile 0 (Ab (wr .i64 (Ae z (ofNat b))) (ofNat n))) (ilt (Ab (wr .i64 (Ae z (ofNat b))) (ofNat n)) (ofNat n)) = true) (h2:nlt (toN (Ab (wr .i64 (Ae z (ofNat b))) (ofNat n))) n = true) (h3:ieq ((x (toN (Ab (wr .i64 (Ae z (ofNat b))) (ofNat n))))).loc (ofNat k) = true) (h4:ieq ((x (toN (Ab (wr .i64 (Ae z (ofNat b))) (ofNat n))))).dir 2 = true) (h21:Bg m 1 8 = true):Ai (II L) (NQ a n k kk g th lo tt c0 x0 r0 ln co ts) (WA a n k kk g th lo tt c0 x0 r0 ln co ts b m z la x r w j) = some (.nm,⟨(jsV 79 0 (λ_=>.und) [(1,(nV k)),(2,(.ptr 9 0)),(4,(.ptr 10 0)),(5,(.ref 11)),(6,(nV n)),(7,(iV z)),(8,(iV (Ab (wr .i64 (Ae z (ofNat b))) (ofNat n)))),(9,(iV (wr .i64 (Ae (ofNat b) 1))))]),[c7Z,.row 44 6 n (λi=>eV (g i)),.row 3 1 n (λi=>iV (th i)),.row 3 1 n (λi=>iV (lo i)),.cells [iV a,.ref 1,.ref 5,iV tt,nV kk,.ref 6,.jref 7],.row 40 5 n (λi=>.agg [iV (sel (A3 i (toN (Ab (wr .i64 (Ae z (ofNat b))) (ofNat n)))) ((x (toN (Ab (wr .i64 (Ae z (ofNat b))) (ofNat n))))).th ((x i)).th),iV (sel (A3 i (toN (Ab (wr .i64 (Ae z (ofNat b))) (ofNat n)))) ((x (toN (Ab (wr .i64 (Ae z (ofNat b))) (ofNat n))))).pl ((x i)).pl),iV (sel (A3 i (toN (Ab (wr .i64 (Ae z (ofNat b))) (ofNat n)))) ((x (toN (Ab (wr .i64 (Ae z (ofNat b))) (ofNat n))))).dir ((x i)).dir),iV (sel (A3 i (toN (Ab (wr .i64 (Ae z (ofNat b))) (ofNat n)))) ((x (toN (Ab (wr .i64 (Ae z (ofNat b))) (ofNat n))))).loc ((x i)).loc),iV (sel (A3 i (toN (Ab (wr .i64 (Ae z (ofNat b))) (ofNat n)))) (ofNat (Bn m 1)) ((x i)).val)]),.row 3 1 n (λi=>iV (r i)),.jag (Jag.mk 25 1 k c0 0 3 1 (λ_=>true) ln (λi q=>iV (co i q))),.saved (Cc 12 (kill.kills 11 ts)),.cells [iV a,.ref 1,.ref 5,iV tt,nV kk,.ref 6,.jref 7],c7Z,.row 3 1 (Bn m 1) (AE m (λi=>iV (w i)) (iV (Ab (wr .i64 (Ae z (ofNat b))) (ofNat n))))]⟩):=Aa (bbK 24 16646015) ((λc0 c1 c2 c3=>[c0,c0,c0,c0,c0,c0,c0,c1,c0,c2,c0,c0,c3,c0,c0,c0,ieq ((x (toN (Ab (wr .i64 (Ae z (ofNat b))) (ofNat n))))).loc (ofNat k),c1,c2,c3,ieq ((x (toN (Ab (wr .i64 (Ae z (ofNat b))) (ofNat n))))).dir 2,Bg m 1 8,c2,c3]) (ilt (ofNat b) (ofNat n)) (ieq (ofNat n) 0) (Af (ile 0 (Ab (wr .i64 (Ae z (ofNat b))) (ofNat n))) (ilt (Ab (wr .i64 (Ae z (ofNat b))) (ofNat n)) (ofNat n))) (nlt (toN (Ab (wr .i64 (Ae z (ofNat b))) (ofNat n))) n)) (by kernel_rfl) (by simp only [h20] <;> simp only [*] <;> rfl)
end
theorem AjI (L:LT) (p0:PT) (a:Int) (n k kk:Nat) (g:Nat->E6) (th lo:Nat->Int) (tt:Int) (c0:Nat->V) (x0:Nat->Ev5) (r0:Nat->Int) (ln:Nat->Nat) (co:Nat->Nat->Int) (ts:List V) (us:List V) (b m:Nat) (z la:Int) (x:Nat->Ev5) (r w:Nat->Int) (h14:AT [.jag (Jag.mk 25 1 k (λ_=>.und) 0 3 1 (λ_=>true) (λ_=>0) (λ_ _=>.und))] = true) (h15:Au k (λi=>Au (ln i) (λ_=>true)) = true) (h16:Ah n = true) (h17:Bg k 1 24 = true) (hp0:p0 (II (onP 0 p0 (JG a n k kk g th lo tt c0 x0 r0 ln co us b m z la x r w) L)) (Om a n k kk g th lo tt c0 x0 r0 ln co ts) = true):(Ak tab ⟨Ap TM,onP 0 p0 (JG a n k kk g th lo tt c0 x0 r0 ln co us b m z la x r w) L,Gl⟩ Try.f59 [.agg [iV a,.ref 1,.ref 5,iV tt,nV kk,.ref 6,.jref 7],nV k] [c7Z,.row 44 6 n (λi=>eV (g i)),.row 3 1 n (λi=>iV (th i)),.row 3 1 n (λi=>iV (lo i)),.cells [iV a,.ref 1,.ref 5,iV tt,nV kk,.ref 6,.jref 7],.row 40 5 n (λi=>evV (x0 i)),.row 3 1 n (λi=>iV (r0 i)),.jag (Jag.mk 25 1 k c0 0 3 1 (λ_=>true) ln (λi q=>iV (co i q))),.saved ts]).sem = some ((.agg [iV a,.ref 1,.ref 5,iV tt,nV kk,.ref 6,.jref 7]),[c7Z,.row 44 6 n (λi=>eV (g i)),.row 3 1 n (λi=>iV (th i)),.row 3 1 n (λi=>iV (lo i)),.cells [iV a,.ref 1,.ref 5,iV tt,nV kk,.ref 6,.und],.row 40 5 n (λi=>evV (x i)),.row 3 1 n (λi=>iV (r i)),.jag (Jag.mk 25 1 (Bn k 1) (AE k c0 .und) 0 3 1 (λi=>sel (A3 i k) true true) (λi=>sel (A3 i k) m (ln i)) (λi i_1=>Cm (λi_2 i_3=>iV (co i_2 i_3)) k (λi_2=>iV (w i_2)) i i_1)),.saved (kill.kills 7 (kill.kills 12 (kill.kills 11 us))),.cells [iV a,.ref 1,.ref 5,iV tt,nV kk,.ref 6,.jref 7],.cells [iV a,.ref 1,.ref 5,iV tt,nV kk,.ref 6,.jref 7],.dead,.dead]):=Aa (bbK 10 1023) [AT [.jag (Jag.mk 25 1 k (λ_=>.und) 0 3 1 (λ_=>true) (λ_=>0) (λ_ _=>.und))],Au n (λ_=>true),Au n (λ_=>true),Au n (λ_=>true),Au k (λi=>Au (ln i) (λ_=>true)),A3 n n,Ah n,p0 (II (onP 0 p0 (JG a n k kk g th lo tt c0 x0 r0 ln co us b m z la x r w) L)) (Om a n k kk g th lo tt c0 x0 r0 ln co ts),true,Bg k 1 24] (by kernel_rfl) (by simp only [hp0] <;> simp only [*,Aw,nbeq_self] <;> rfl)
theorem NJ {p q:Nat->Bool} {n:Nat} (h:∀ i,i < n->p i = q i):E2 p n = E2 q n:=by
 by_cases hp:∃ k,k < n ∧ p k = true
 ·obtain ⟨k,hk,hpk⟩:=hp
  obtain ⟨h1,h2,h3⟩:=E1 hk hpk
  exact (Kx (p:=q) (by omega) (by rw [<- h _ (by omega)]; exact h2) (λi hi=>by rw [<- h i (by omega)]; exact h3 i hi)).symm
 ·have h1:∀ i,i < n->p i = false:=λi hi=>by
   cases hpi:p i with
   | false=>rfl
   | true=>exact absurd ⟨i,hi,hpi⟩ hp
  rw [Jj h1,Jj λi hi=>by rw [<- h i hi]; exact h1 i hi]
theorem Xl {n:Nat} {g:Nat->E6} {d:Nat->Bool} {k:Nat} (hk:k < kkN n g):GD n g (evF n g d) (ofNat k) = ofNat (stN (mbF g) n k):=by
 have:E2 (K9 n g (evF n g d) (ofNat k)) n = stN (mbF g) n k:=NJ λi hi=>by
  unfold K9
  rw [BK hi,Zj hi,Dx,Bool.and_comm]
  rfl
 unfold GD
 rw [this,decide_eq_true (GM hk).1]
 rfl
def wvF (n:Nat) (g:Nat->E6) (z b q:Nat):Int:=if q < wcN (wrF g) n z b then ofNat (coN (mbF g) (wrF g) n (loN n g z) q) else 0
theorem XB {n:Nat} {g:Nat->E6} {z b:Nat} (hz:z < n) (hst:CI (mbF g) n z = true) (hb:b < n) (hw:wrF g (rnd n z b) = true) :
  AE (wcN (wrF g) n z b) (λi=>iV (wvF n g z b i)) (iV (ofNat (rnd n z b))) = λi=>iV (wvF n g z (b+1) i):=by
 funext q
 rw [BC]
 have h2:stN (mbF g) n (loN n g z) = z:=Yf hz hst
 unfold wvF
 rw [TA hw]
 by_cases hq:q = wcN (wrF g) n z b
 ·subst hq
  rw [Nat.beq_refl,if_pos (Nat.lt_succ_self _)]
  unfold coN
  rw [h2,Vc hb hw]
  rfl
 ·rw [nbeq_ne hq]
  by_cases h3:q < wcN (wrF g) n z b
  ·rw [if_pos h3,if_pos (by omega)]; rfl
  ·rw [if_neg h3,if_neg (by omega)]; rfl
theorem XA {n:Nat} {g:Nat->E6} {z b:Nat} (hw:wrF g (rnd n z b) = false):wvF n g z (b+1) = wvF n g z b:=by
 funext q
 unfold wvF
 rw [TB hw]
def EZ (F:V->V):Prop:=(∀ k x,F (.val (.int k x)) = .val (.int k x)) ∧ ∀ i o,i < 7->F (.ptr i o) = .ptr i o
theorem EZ.comp {F G:V->V} (hF:EZ F) (hG:EZ G):EZ (λv=>G (F v)):=⟨λk x=>by show G (F _) = _; rw [hF.1,hG.1],λi o h=>by show G (F _) = _; rw [hF.2 i o h,hG.2 i o h]⟩
theorem Ff:EZ (Gv 12):=⟨λ_ _=>rfl,λi o h=>by
 unfold Gv Mz
 rw [show Nat.blt i 12 = true from Nat.ble_eq_true_of_le (by omega)]⟩
theorem EI (id:Nat):EZ (kill id):=⟨λ_ _=>rfl,λ_ _ _=>rfl⟩
theorem AhY (a:Int) (n z:Nat) (g:Nat->E6) (th lo:Nat->Int) (tt:Int) (c0:Nat->V) (x0:Nat->Ev5) (r0:Nat->Int) (ln:Nat->Nat) (co:Nat->Nat->Int) (hz:z < n) (hst:CI (mbF g) n z = true) (h8:n <= 16) :
  ∀ (e b:Nat) (q:Nat),Cn (mbF g) n z = b+e->e < q->∃ F,EZ F ∧ ∀ (L:LT) (ts0 ts:List V) (j:Nat->V),
  (A9 (II L) (NQ a n (loN n g z) (kkN n g) g th lo tt c0 x0 r0 ln co ts0) q (WA a n (loN n g z) (kkN n g) g th lo tt c0 x0 r0 ln co ts b (wcN (wrF g) n z b) (ofNat z) (wlN (wrF g) n z b) (evF n g (dnF n g (loN n g) (loN n g z) b)) (rfF n g (dnF n g (loN n g) (loN n g z) b)) (wvF n g z b) j)).sem
   = some (JG a n (loN n g z) (kkN n g) g th lo tt c0 x0 r0 ln co (ts.map F) 0 (wcN (wrF g) n z (Cn (mbF g) n z)) 0 0 (evF n g (dnF n g (loN n g) (loN n g z+1) 0)) (rfF n g (dnF n g (loN n g) (loN n g z+1) 0)) (wvF n g z (Cn (mbF g) n z))):=by
 intro e
 have hrk:Rank (mbF g) n (loN n g):=Lm (mbF g) n
 obtain ⟨l1,l2,l3,l4⟩:=EP hz hst
 have hkk:=I9 hz hst
 have hwc:∀ b,b <= n->wcN (wrF g) n z b <= n:=λb hb=>Nat.le_trans (AX _ _) hb
 induction e with
 | zero =>
  intro b q hb hq
  obtain ⟨q,rfl⟩:∃ q',q = q'+1:=⟨q - 1,by omega⟩
  have hbl:Cn (mbF g) n z = b:=by omega
  have hde:=Wq hrk hz hst
  rw [hbl] at hde
  refine ⟨_,Ff,λL ts0 ts j=>?_⟩
  rw [<- hde,hbl,show NQ a n (loN n g z) (kkN n g) g th lo tt c0 x0 r0 ln co ts0 = NQ a n (loN n g z) (kkN n g) g th lo tt c0 x0 r0 ln co ts from rfl]
  by_cases hbn:b = n
  ·rw [Ad (AhT L a n (loN n g z) (kkN n g) g th lo tt c0 x0 r0 ln co ts b (wcN (wrF g) n z b) (ofNat z) (wlN (wrF g) n z b) (evF n g (dnF n g (loN n g) (loN n g z) b)) (rfF n g (dnF n g (loN n g) (loN n g z) b)) (wvF n g z b) j (AD (by omega))),QU,B6]
   rfl
  ·have hbn:b < n:=by omega
   have hX:(Ab (wr .i64 (Ae (ofNat z) (ofNat b))) (ofNat n)) = ofNat (rnd n z b):=by rw [DF (by omega),C5]; rfl
   have hlt:rnd n z b < n:=G9 (by omega)
   have hin:Af (ile 0 (Ab (wr .i64 (Ae (ofNat z) (ofNat b))) (ofNat n))) (ilt (Ab (wr .i64 (Ae (ofNat z) (ofNat b))) (ofNat n)) (ofNat n)) = true:=by rw [hX]; exact Aq hlt
   have hnl:nlt (toN (Ab (wr .i64 (Ae (ofNat z) (ofNat b))) (ofNat n))) n = true:=by rw [hX]; exact decide_eq_true hlt
   have hlc:ieq (evF n g (dnF n g (loN n g) (loN n g z) b) (toN (Ab (wr .i64 (Ae (ofNat z) (ofNat b))) (ofNat n)))).loc (ofNat (loN n g z)) = false:=by
    rw [hX,show toN (ofNat (rnd n z b)) = rnd n z b from rfl,BK hlt]
    show ieq (loF n g (rnd n z b)) _ = false
    rw [Zj hlt,Dx]
    apply decide_eq_false
    have hs:CI (mbF g) n (rnd n z b) = true:=by
     unfold CI
     rw [H0,show b+(n - 1) = (b - 1)+n by omega,Sc,<- hbl]
     exact l3
    intro he
    have h2:=(Lm (mbF g) n).apart hlt hz hs hst he
    have h3:rnd n z b = rnd n z 0:=by rw [h2,Sd hz]
    have:=Abd hz hbn (by omega) h3
    omega
   rw [Ad (AhQ L a n (loN n g z) (kkN n g) g th lo tt c0 x0 r0 ln co ts b (wcN (wrF g) n z b) (ofNat z) (wlN (wrF g) n z b) (evF n g (dnF n g (loN n g) (loN n g z) b)) (rfF n g (dnF n g (loN n g) (loN n g z) b)) (wvF n g z b) j (ofNat_lt hbn) (FS (by omega)) hin hnl hlc),QU,B6]
   rfl
 | succ e ih =>
  intro b q hb hq
  obtain ⟨q,rfl⟩:∃ q',q = q'+1:=⟨q - 1,by omega⟩
  have hbn:b < n:=by omega
  have hbl:b < Cn (mbF g) n z:=by omega
  have hX:(Ab (wr .i64 (Ae (ofNat z) (ofNat b))) (ofNat n)) = ofNat (rnd n z b):=by rw [DF (by omega),C5]; rfl
  have hlt:rnd n z b < n:=G9 (by omega)
  have hin:Af (ile 0 (Ab (wr .i64 (Ae (ofNat z) (ofNat b))) (ofNat n))) (ilt (Ab (wr .i64 (Ae (ofNat z) (ofNat b))) (ofNat n)) (ofNat n)) = true:=by rw [hX]; exact Aq hlt
  have hnl:nlt (toN (Ab (wr .i64 (Ae (ofNat z) (ofNat b))) (ofNat n))) n = true:=by rw [hX]; exact decide_eq_true hlt
  have hap:Bg (wcN (wrF g) n z b) 1 8 = true:=by
   have:=hwc b (by omega)
   exact Ca (by omega)
  have hdn:=O4 hrk hz hst hbl
  have hin':=GV hz hst hbl
  have hv:=TD (w:=wrF g) hin'
  have hlc:ieq (evF n g (dnF n g (loN n g) (loN n g z) b) (toN (Ab (wr .i64 (Ae (ofNat z) (ofNat b))) (ofNat n)))).loc (ofNat (loN n g z)) = true:=by
   rw [hX,show toN (ofNat (rnd n z b)) = rnd n z b from rfl,BK hlt]
   show ieq (loF n g (rnd n z b)) _ = true
   rw [Zj hlt,hrk.same hin',Dx]
   exact decide_eq_true rfl
  cases hw:wrF g (rnd n z b) with
  | true =>
   have hW:ieq (evF n g (dnF n g (loN n g) (loN n g z) b) (toN (Ab (wr .i64 (Ae (ofNat z) (ofNat b))) (ofNat n)))).dir 2 = true:=by rw [hX,show toN (ofNat (rnd n z b)) = rnd n z b from rfl,BK hlt]; exact hw
   obtain ⟨F,hF,h⟩:=ih (b+1) q (by omega) (by omega)
   refine ⟨_,(((EI 11).comp Ff).comp hF),λL ts0 ts j=>?_⟩
   have h:=h L ts (Cc 12 (kill.kills 11 ts)) (λ_=>.und)
   rw [show NQ a n (loN n g z) (kkN n g) g th lo tt c0 x0 r0 ln co ts0 = NQ a n (loN n g z) (kkN n g) g th lo tt c0 x0 r0 ln co ts from rfl,Ad (AhR L a n (loN n g z) (kkN n g) g th lo tt c0 x0 r0 ln co ts b (wcN (wrF g) n z b) (ofNat z) (wlN (wrF g) n z b) (evF n g (dnF n g (loN n g) (loN n g z) b)) (rfF n g (dnF n g (loN n g) (loN n g z) b)) (wvF n g z b) j (ofNat_lt hbn) (FS (by omega)) hin hnl hlc hW hap),Ax]
   rw [hX,Ao hbn (by omega),show toN (ofNat (rnd n z b)) = rnd n z b from rfl,show Bn (wcN (wrF g) n z b) 1 = wcN (wrF g) n z b+1 from rfl,L9 hlt hdn (by rw [hv,TA hw]),XB hz hst hbn hw,<- Q3 hdn hw]
   rw [AgZ hw,TA hw,B6,Cs,List.map_map,List.map_map] at h
   rw [B6,Cs,List.map_map]
   exact h
  | false =>
   have hW:ieq (evF n g (dnF n g (loN n g) (loN n g z) b) (toN (Ab (wr .i64 (Ae (ofNat z) (ofNat b))) (ofNat n)))).dir 2 = false:=by rw [hX,show toN (ofNat (rnd n z b)) = rnd n z b from rfl,BK hlt]; exact hw
   obtain ⟨F,hF,h⟩:=ih (b+1) q (by omega) (by omega)
   refine ⟨_,(Ff.comp hF),λL ts0 ts j=>?_⟩
   have h:=h L ts (Cc 12 ts) (λ_=>.und)
   rw [show NQ a n (loN n g z) (kkN n g) g th lo tt c0 x0 r0 ln co ts0 = NQ a n (loN n g z) (kkN n g) g th lo tt c0 x0 r0 ln co ts from rfl,Ad (AhS L a n (loN n g z) (kkN n g) g th lo tt c0 x0 r0 ln co ts b (wcN (wrF g) n z b) (ofNat z) (wlN (wrF g) n z b) (evF n g (dnF n g (loN n g) (loN n g z) b)) (rfF n g (dnF n g (loN n g) (loN n g z) b)) (wvF n g z b) j (ofNat_lt hbn) (FS (by omega)) hin hnl hlc hW),Ax]
   rw [hX,Ao hbn (by omega),show toN (ofNat (rnd n z b)) = rnd n z b from rfl,L9 hlt hdn (by rw [hv,TB hw]),Ul hdn (Y9 hin' hw).symm]
   rw [Aha hw,TB hw,XA hw,B6,List.map_map] at h
   rw [B6]
   exact h
end Go.Proofs.Ytjhnfomefcngfaa.Sh
