/-
  Layer 7: the document's cycle turned, where a location's segment begins, its walk through it. No conditions.
-/
import Derived.Test.YtjhnfomefcngfaaShW
namespace Go.Proofs.Ytjhnfomefcngfaa.Sh
open Go.Sy Ed
open Int (ofNat)
set_option maxHeartbeats 1000000
set_option maxRecDepth 4000
noncomputable def Z2 (n:Nat) (f:Nat->E6):Bool:=@decide (∃ a,IsCycle a n f) (Classical.propDecidable _)
theorem SK {n:Nat} {f:Nat->E6}:Z2 n f = true ↔ ∃ a,IsCycle a n f:=by
  unfold Z2
  exact @decide_eq_true_iff _ (Classical.propDecidable _)
noncomputable def Aaw:List (Nat × (List V->T (V × List Blk))):=[(93,Oj),(22,BK fun e=>bV (Az e)),(21,Ml)]
theorem Aav:AF Try.prog Gl Aaw:=.cons p93 <| .cons p60 <| .cons p69 .nil
def lp56 (n:Nat) (_:Nat->E6):Lp:=⟨(bmK 27 0 [3,5]),2,bmK 27 0 [2],3,n+1⟩
def st56 (n:Nat) (f:Nat->E6) (b:Nat) (j:Nat->V):St:=⟨(jsV 27 0 j [(3,.ref 1),(5,nV b)]),[.row 44 6 0 (fun _=>.und),.row 44 6 n (fun i=>eV (Bk n f i))]⟩
def VF (n:Nat) (f:Nat->E6) (b:Nat):Ex × St:=(.rt,⟨(jsV 27 0 (fun _=>.und) [(2,.ref 2)]),[.row 44 6 0 (fun _=>.und),.row 44 6 n (fun i=>eV (Bk n f i)),.row 44 6 n (fun i=>eV (Js n (Bk n f) (ofNat b) i))]⟩)
noncomputable def body56 (L:LT):St->T (Ex × St):=fun st=>A9 tab ⟨Ao Aaw,L,Gl⟩ (Av Try.f56 0) 0 st
section
variable (L:LT) (n:Nat) (f:Nat->E6) (b:Nat)  (j:Nat->V)
include L n f b j
theorem AjZ (h0:ilt (ofNat b) (ofNat n) = true) (h13:ile 0 (ofNat b) = true) (h1:nlt b n = true) (h2:Az (Bk n f b) = false):Ai (body56 L) (lp56 n f) (st56 n f b j) = some (.nm,⟨(jsV 27 0 (fun _=>.und) [(3,(.ref 1)),(5,(iV (wr .i64 (Ae (ofNat b) 1))))]),[.row 44 6 0 (fun _=>.und),.row 44 6 n (fun i=>eV (Bk n f i))]⟩):=Aa [true,true,true,false] [ilt (ofNat b) (ofNat n),Af (ile 0 (ofNat b)) (ilt (ofNat b) (ofNat n)),nlt b n,Az (Bk n f b)] (by kernel_rfl) (by simp only [*] <;> rfl)
theorem AjY (h0:ilt (ofNat b) (ofNat n) = true) (h14:ile 0 (ofNat b) = true) (h1:nlt b n = true) (h2:Az (Bk n f b) = true) (h3:AL n = true) (h15:Bg [.row 3 1 n (fun _=>iV 0)] = true):Ai (body56 L) (lp56 n f) (st56 n f b j) = some (.rt,⟨(jsV 27 0 (fun _=>.und) [(2,(.ref 2))]),[.row 44 6 0 (fun _=>.und),.row 44 6 n (fun i=>eV (Bk n f i)),.row 44 6 n (fun i=>eV (Js n (fun i=>Bk n f i) (wr .i64 (Ae (ofNat b) 1)) i))]⟩):=Aa (bbK 7 127) [ilt (ofNat b) (ofNat n),Af (ile 0 (ofNat b)) (ilt (ofNat b) (ofNat n)),nlt b n,Az (Bk n f b),An n (fun _=>true),AL n,Bg [.row 3 1 n (fun _=>iV 0)]] (by kernel_rfl) (by simp only [*,Ar,BY] <;> rfl)
end
def AiC (n:Nat) (f:Nat->E6) :Nat->V:=lkV A7 [(0,(.sl 6 n (fun i=>eV (f i)))),(2,(.ref 0)),(4,(iV 0)),(6,(.tup [.ref 1,iV 0])),(7,(.sl 6 n (fun i=>eV (f i)))),(8,(.tup [.ref 1,iV 0])),(9,(.ref 1)),(10,(iV 0))]
theorem w56 (L:LT) (p0:PT) (n:Nat) (f:Nat->E6) (q:Nat) (h0:AL n = true) (h1:BI n f = true) (hp0:p0 (body56 (onP 0 p0 (VF n f q) L)) (st56 n f 0 (AiC n f )) = true):(A1 (Al tab ⟨Ao Aaw,onP 0 p0 (VF n f q) L,Gl⟩ Try.f56 [.sl 6 n fun i=>eV (f i)] [])).sem = some ((.ref 0),[.row 44 6 n (fun i=>eV (Js n (Bk n f) (ofNat q) i))]):=Aa [true,true,true,true] [An n (fun _=>true),AL n,BI n f,p0 (body56 (onP 0 p0 (VF n f q) L)) (st56 n f 0 (AiC n f ))] (by kernel_rfl) (by simp only [hp0] <;> simp only [h0,h1,Ar] <;> rfl)
theorem run56 (L:LT) (n:Nat) (f:Nat->E6) (hf:AL n = true) (hn:n <= 4611686018427387903) (k:Nat) (hk:k < n) (ht:Az (Bk n f k) = true) (hb:∀ i,i < k->Az (Bk n f i) = false):∀ (e b:Nat) (j:Nat->V) (q:Nat),k = b+e->e < q ->
    (A3 (body56 L) (lp56 n f) q (st56 n f b j)).sem = some (VF n f (k+1))
  | 0,b,j,q+1,h,_=>by
    have:k = b:=by omega
    subst this
    rw [Ab (AjY L n f k j (ofNat_lt hk) (AJ k) (decide_eq_true hk) ht hf BY),Dm,Aq hk (by omega)]
    rfl
  | e+1,b,j,q+1,h,h2=>by
    have hl:b < n:=by omega
    rw [Ab (AjZ L n f b j (ofNat_lt hl) (AJ b) (decide_eq_true hl) (hb b (by omega))),Aw,Aq hl (by omega)]
    exact run56 L n f hf hn k hk ht hb e (b+1) (fun _=>.und) q (by omega) (by omega)
theorem Wc {n k:Nat}:DA n (ofNat k) = k % n:=by
  unfold DA
  rw [Cy]
  have:ilt (ofNat (k % n)) 0 = false:=by simp [ilt]; omega
  rw [this]
  rfl
noncomputable def Z4:List V->T (V × List Blk):=GS fun n f=>.br (AL n) (.br (Z2 n f) (.leaf (.ref 0,[.row 44 6 n fun i=>eV (shG n f i)])) .fail) .fail
theorem p56:AD Try.prog Gl 56 Z4:=by
  refine A5 AO AP Try.func56 (by kernel_rfl) (by kernel_rfl) fun vs v h' h=>?_
  obtain ⟨n,f,ha,h⟩:=CK h
  obtain ⟨hn,h⟩:=Ag h
  obtain ⟨hc,h⟩:=Ag h
  have:=Ac h
  simp only [Prod.mk.injEq] at this
  obtain ⟨rfl,rfl⟩:=this
  obtain ⟨a,hy⟩:=SK.1 hc
  have hhi:=hy.hi
  obtain ⟨z1,z2,z3,z4⟩:=MP hy
  have hx:=AQ Aav [(0,lp56 n f)] (G:=Gl)
  have hL:=AC [(0,lp56 n f)]
  refine ⟨_,AR Gl Aaw [(0,lp56 n f)],_,ha,rfl,hx.1,hx.2,A6 (Ax hL hL) _ (w56 _ _ n f (Fe (fun i=>Az (Bk n f i)) n+1) hn hy.may (Ak (run56 _ n f hn (by omega) _ z1 z2 z3 _ 0 _ (n+1) (Nat.zero_add _).symm (by omega)))),AB.one fun i hi=>?_⟩
  rw [JU hi]
  unfold Js shQ
  rw [Wc]
def Kr (n:Nat) (g:Nat->E6) (x:Nat->Ev5) (lc:Int) (i:Nat):Bool:=Af (ieq (x i).loc lc) (Au (g ((i+(n - 1)) % n)))
def Gs (n:Nat) (g:Nat->E6) (x:Nat->Ev5) (lc:Int):Int:=bif decide (Fe (Kr n g x lc) n < n) then ofNat (Fe (Kr n g x lc) n) else -1
noncomputable def Xu:List (Nat × (List V->T (V × List Blk))):=[(23,BK fun e=>bV (Au e))]
theorem Aap:AF Try.prog Gl Xu:=.cons p61 .nil
def lp95 (_:Int) (n:Nat) (_:Nat->E6) (_:Nat->Ev5) (_ _:Int) (_:Nat) (_:Nat->Int) (_:Nat) (_:Nat->Nat) (_:Nat->Nat->Int) (_:Int):Lp:=⟨(bmK 37 0 [1,2,4,5,6]),1,bmK 37 0 [4],0,n+1⟩
def st95 (a:Int) (n:Nat) (g:Nat->E6) (x:Nat->Ev5) (tt k0:Int) (nr:Nat) (r:Nat->Int) (nc:Nat) (ln:Nat->Nat) (co:Nat->Nat->Int) (lc:Int) (b:Nat) (j:Nat->V):St:=⟨(jsV 37 0 j [(1,iV lc),(2,.ptr 0 0),(4,iV 0),(5,nV n),(6,nV b)]),[.cells [iV a,.sl 6 n (fun i=>eV (g i)),.sl 5 n (fun i=>evV (x i)),iV tt,iV k0,.sl 1 nr (fun i=>iV (r i)),.sl 1 nc (fun k=>.sl 1 (ln k) (fun i=>iV (co k i)))]]⟩
def S6 (_:Int) (_:Nat) (_:Nat->E6) (_:Nat->Ev5) (_ _:Int) (_:Nat) (_:Nat->Int) (_:Nat) (_:Nat->Nat) (_:Nat->Nat->Int) (_:Int) (b:Nat):Ex × St:=(.rt,⟨(jsV 37 0 (fun _=>.und) [(4,nV b)]),[]⟩)
def S7 (_:Int) (_:Nat) (_:Nat->E6) (_:Nat->Ev5) (_ _:Int) (_:Nat) (_:Nat->Int) (_:Nat) (_:Nat->Nat) (_:Nat->Nat->Int) (_:Int) (_:Nat):Ex × St:=(.ex 0,⟨(jsV 37 0 (fun _=>.und) [(4,iV 0)]),[]⟩)
noncomputable def body95 (L:LT):St->T (Ex × St):=fun st=>A9 tab ⟨Ao Xu,L,Gl⟩ (Av Try.f95 0) 0 st
section
variable (L:LT) (a:Int) (n:Nat) (g:Nat->E6) (x:Nat->Ev5) (tt k0:Int) (nr:Nat) (r:Nat->Int) (nc:Nat) (ln:Nat->Nat) (co:Nat->Nat->Int) (lc:Int) (b:Nat)  (j:Nat->V)
include L a n g x tt k0 nr r nc ln co lc b j
theorem AjP (h0:ilt (ofNat b) (ofNat n) = false):Ai (body95 L) (lp95 a n g x tt k0 nr r nc ln co lc) (st95 a n g x tt k0 nr r nc ln co lc b j) = some ((.ex 0),⟨(jsV 37 0 (fun _=>.und) [(4,(iV 0))]),[]⟩):=Aa [false] [ilt (ofNat b) (ofNat n)] (by kernel_rfl) (by simp only [h0] <;> rfl)
theorem AjR (h0:ilt (ofNat b) (ofNat n) = true) (h14:ile 0 (ofNat b) = true) (h3:ieq ((x b)).loc lc = false):Ai (body95 L) (lp95 a n g x tt k0 nr r nc ln co lc) (st95 a n g x tt k0 nr r nc ln co lc b j) = some (.nm,⟨(jsV 37 0 (fun _=>.und) [(1,(iV lc)),(2,(.ptr 0 0)),(4,(iV 0)),(5,(nV n)),(6,(iV (wr .i64 (Ae (ofNat b) 1))))]),[.cells [iV a,.sl 6 n (fun i=>eV (g i)),.sl 5 n (fun i=>evV (x i)),iV tt,iV k0,.sl 1 nr (fun i=>iV (r i)),.sl 1 nc (fun k=>.sl 1 (ln k) (fun i=>iV (co k i)))]]⟩):=Aa (bbK 15 3) ((fun c0=>[ilt (ofNat b) (ofNat n),Af (ile 0 (ofNat b)) (ilt (ofNat b) (ofNat n)),c0,c0,c0,c0,c0,c0,c0,c0,c0,c0,c0,c0,false]) (ieq ((x b)).loc lc)) (by kernel_rfl) (by simp only [*] <;> rfl)
theorem AjQ (h0:ilt (ofNat b) (ofNat n) = true) (h15:ile 0 (ofNat b) = true) (h3:ieq ((x b)).loc lc = true) (h1:ieq (ofNat n) 0 = false) (h17:Af (ile 0 (Ad (wr .i64 (As (wr .i64 (Ae (ofNat b) (ofNat n))) 1)) (ofNat n))) (ilt (Ad (wr .i64 (As (wr .i64 (Ae (ofNat b) (ofNat n))) 1)) (ofNat n)) (ofNat n)) = true) (h4:Au (g (toN (Ad (wr .i64 (As (wr .i64 (Ae (ofNat b) (ofNat n))) 1)) (ofNat n)))) = false):Ai (body95 L) (lp95 a n g x tt k0 nr r nc ln co lc) (st95 a n g x tt k0 nr r nc ln co lc b j) = some (.nm,⟨(jsV 37 0 (fun _=>.und) [(1,(iV lc)),(2,(.ptr 0 0)),(4,(iV 0)),(5,(nV n)),(6,(iV (wr .i64 (Ae (ofNat b) 1))))]),[.cells [iV a,.sl 6 n (fun i=>eV (g i)),.sl 5 n (fun i=>evV (x i)),iV tt,iV k0,.sl 1 nr (fun i=>iV (r i)),.sl 1 nc (fun k=>.sl 1 (ln k) (fun i=>iV (co k i)))]]⟩):=Aa (bbK 17 64511) ((fun c0=>[ilt (ofNat b) (ofNat n),Af (ile 0 (ofNat b)) (ilt (ofNat b) (ofNat n)),c0,c0,c0,c0,c0,c0,c0,c0,ieq (ofNat n) 0,c0,Af (ile 0 (Ad (wr .i64 (As (wr .i64 (Ae (ofNat b) (ofNat n))) 1)) (ofNat n))) (ilt (Ad (wr .i64 (As (wr .i64 (Ae (ofNat b) (ofNat n))) 1)) (ofNat n)) (ofNat n)),c0,c0,c0,Au (g (toN (Ad (wr .i64 (As (wr .i64 (Ae (ofNat b) (ofNat n))) 1)) (ofNat n))))]) (ieq ((x b)).loc lc)) (by kernel_rfl) (by simp only [h17] <;> simp only [*] <;> rfl)
theorem AjO (h0:ilt (ofNat b) (ofNat n) = true) (h15:ile 0 (ofNat b) = true) (h3:ieq ((x b)).loc lc = true) (h1:ieq (ofNat n) 0 = false) (h17:Af (ile 0 (Ad (wr .i64 (As (wr .i64 (Ae (ofNat b) (ofNat n))) 1)) (ofNat n))) (ilt (Ad (wr .i64 (As (wr .i64 (Ae (ofNat b) (ofNat n))) 1)) (ofNat n)) (ofNat n)) = true) (h4:Au (g (toN (Ad (wr .i64 (As (wr .i64 (Ae (ofNat b) (ofNat n))) 1)) (ofNat n)))) = true):Ai (body95 L) (lp95 a n g x tt k0 nr r nc ln co lc) (st95 a n g x tt k0 nr r nc ln co lc b j) = some (.rt,⟨(jsV 37 0 (fun _=>.und) [(4,(nV b))]),[]⟩):=Aa (bbK 17 130047) ((fun c0=>[ilt (ofNat b) (ofNat n),Af (ile 0 (ofNat b)) (ilt (ofNat b) (ofNat n)),c0,c0,c0,c0,c0,c0,c0,c0,ieq (ofNat n) 0,c0,Af (ile 0 (Ad (wr .i64 (As (wr .i64 (Ae (ofNat b) (ofNat n))) 1)) (ofNat n))) (ilt (Ad (wr .i64 (As (wr .i64 (Ae (ofNat b) (ofNat n))) 1)) (ofNat n)) (ofNat n)),c0,c0,c0,Au (g (toN (Ad (wr .i64 (As (wr .i64 (Ae (ofNat b) (ofNat n))) 1)) (ofNat n))))]) (ieq ((x b)).loc lc)) (by kernel_rfl) (by simp only [h17] <;> simp only [*] <;> rfl)
end
def Ab8 (a:Int) (n:Nat) (g:Nat->E6) (x:Nat->Ev5) (tt k0:Int) (nr:Nat) (r:Nat->Int) (nc:Nat) (ln:Nat->Nat) (co:Nat->Nat->Int) (_:Int) :Nat->V:=lkV A7 [(0,(.agg [iV a,.sl 6 n (fun i=>eV (g i)),.sl 5 n (fun i=>evV (x i)),iV tt,iV k0,.sl 1 nr (fun i=>iV (r i)),.sl 1 nc (fun k=>.sl 1 (ln k) (fun i=>iV (co k i)))])),(7,(.ptr 0 1)),(8,(.sl 6 n (fun i=>eV (g i)))),(9,(nV n))]
section
variable (L:LT) (p0:PT) (a:Int) (n:Nat) (g:Nat->E6) (x:Nat->Ev5) (tt k0:Int) (nr:Nat) (r:Nat->Int) (nc:Nat) (ln:Nat->Nat) (co:Nat->Nat->Int) (lc:Int) (q:Nat)
include L p0 a n g x tt k0 nr r nc ln co lc q
theorem Ajp  (hp0:p0 (body95 (onP 0 p0 (S6 a n g x tt k0 nr r nc ln co lc q) L)) (st95 a n g x tt k0 nr r nc ln co lc 0 (Ab8 a n g x tt k0 nr r nc ln co lc )) = true):(A1 (Al tab ⟨Ao Xu,onP 0 p0 (S6 a n g x tt k0 nr r nc ln co lc q) L,Gl⟩ Try.f95 [.agg [iV a,.sl 6 n (fun i=>eV (g i)),.sl 5 n (fun i=>evV (x i)),iV tt,iV k0,.sl 1 nr (fun i=>iV (r i)),.sl 1 nc (fun k=>.sl 1 (ln k) (fun i=>iV (co k i)))],iV lc] [])).sem = some ((nV q),[]):=Aa [true] [p0 (body95 (onP 0 p0 (S6 a n g x tt k0 nr r nc ln co lc q) L)) (st95 a n g x tt k0 nr r nc ln co lc 0 (Ab8 a n g x tt k0 nr r nc ln co lc ))] (by kernel_rfl) (by simp only [hp0] <;> rfl)
theorem Ajq  (hp0:p0 (body95 (onP 0 p0 (S7 a n g x tt k0 nr r nc ln co lc q) L)) (st95 a n g x tt k0 nr r nc ln co lc 0 (Ab8 a n g x tt k0 nr r nc ln co lc )) = true):(A1 (Al tab ⟨Ao Xu,onP 0 p0 (S7 a n g x tt k0 nr r nc ln co lc q) L,Gl⟩ Try.f95 [.agg [iV a,.sl 6 n (fun i=>eV (g i)),.sl 5 n (fun i=>evV (x i)),iV tt,iV k0,.sl 1 nr (fun i=>iV (r i)),.sl 1 nc (fun k=>.sl 1 (ln k) (fun i=>iV (co k i)))],iV lc] [])).sem = some ((iV (-1)),[]):=Aa [true] [p0 (body95 (onP 0 p0 (S7 a n g x tt k0 nr r nc ln co lc q) L)) (st95 a n g x tt k0 nr r nc ln co lc 0 (Ab8 a n g x tt k0 nr r nc ln co lc ))] (by kernel_rfl) (by simp only [hp0] <;> rfl)
end
theorem run95 (L:LT) (a:Int) (n:Nat) (g:Nat->E6) (x:Nat->Ev5) (tt k0:Int) (nr:Nat) (r:Nat->Int) (nc:Nat) (ln:Nat->Nat) (co:Nat->Nat->Int) (lc:Int) (hn:n <= 4611686018427387904):∀ (e b:Nat) (j:Nat->V) (q:Nat),n = b+e->e < q->(∀ k,k < b->Kr n g x lc k = false) ->
    ((A3 (body95 L) (lp95 a n g x tt k0 nr r nc ln co lc) q (st95 a n g x tt k0 nr r nc ln co lc b j)).sem = some (S7 a n g x tt k0 nr r nc ln co lc 0) ∧ Gs n g x lc = -1) ∨ ∃ i,(A3 (body95 L) (lp95 a n g x tt k0 nr r nc ln co lc) q (st95 a n g x tt k0 nr r nc ln co lc b j)).sem = some (S6 a n g x tt k0 nr r nc ln co lc i) ∧ Gs n g x lc = ofNat i
  | 0,b,j,q+1,h,_,hb=>by
    have:n = b:=by omega
    subst this
    refine .inl ⟨Ab (AjP L a n g x tt k0 nr r nc ln co lc n j (A8 (Nat.le_refl _))),?_⟩
    unfold Gs
    rw [IK hb]
    simp
  | e+1,b,j,q+1,h,h2,hb=>by
    have hl:b < n:=by omega
    have hx:=Jm (a:=b) (n:=n) (by omega) (by omega)
    have hlt:(b+(n - 1)) % n < n:=Nat.mod_lt _ (by omega)
    have hin:Af (ile 0 (Ad (wr .i64 (As (wr .i64 (Ae (ofNat b) (ofNat n))) 1)) (ofNat n))) (ilt (Ad (wr .i64 (As (wr .i64 (Ae (ofNat b) (ofNat n))) 1)) (ofNat n)) (ofNat n)) = true:=by rw [hx]; exact Ay hlt
    have next:Kr n g x lc b = false->_:=fun hf=>run95 L a n g x tt k0 nr r nc ln co lc hn e (b+1) (fun _=>.und) q (by omega) (by omega) fun k hk=>by
      by_cases hki:k = b
      · rw [hki]; exact hf
      · exact hb k (by omega)
    cases h1:ieq (x b).loc lc with
    | false =>
      rw [Ab (AjR L a n g x tt k0 nr r nc ln co lc b j (ofNat_lt hl) (AJ b) h1),Aw,Aq hl (by omega)]
      exact next (by unfold Kr; rw [h1]; rfl)
    | true =>
      cases hm:Au (g ((b+(n - 1)) % n)) with
      | false =>
        rw [Ab (AjQ L a n g x tt k0 nr r nc ln co lc b j (ofNat_lt hl) (AJ b) h1 (F2 (by omega)) hin (by rw [hx]; exact hm)),Aw,Aq hl (by omega)]
        exact next (by unfold Kr; rw [h1,hm]; rfl)
      | true =>
        refine .inr ⟨b,Ab (AjO L a n g x tt k0 nr r nc ln co lc b j (ofNat_lt hl) (AJ b) h1 (F2 (by omega)) hin (by rw [hx]; exact hm)),?_⟩
        unfold Gs
        rw [Kg hl (by unfold Kr; rw [h1,hm]; rfl) hb,decide_eq_true hl]
        rfl
def TZ:List V->T (V × List Blk)
  | [v,.val (.int .i64 lc)]=>apS v fun s=>.br (AN s.nx s.ne) (.br (Ah s.ne) (.leaf (iV (Gs s.ne s.E s.X lc),[])) .fail) .fail
  | _=>.fail
theorem p95:AD Try.prog Gl 95 TZ:=by
  refine A5 AO AP Try.func95 (by kernel_rfl) (by kernel_rfl) fun vs v h' h=>?_
  unfold TZ at h
  split at h
  · rename_i u lc
    obtain ⟨s,ha,h⟩:=EI h
    obtain ⟨h1,h⟩:=Ag h
    obtain ⟨h2,h⟩:=Ag h
    have:=Ac h
    simp only [Prod.mk.injEq] at this
    obtain ⟨rfl,rfl⟩:=this
    obtain ⟨a,n,g,nx,x,tt,k0,nr,r,nc,C⟩:=s
    have h1:nx = n:=Nat.eq_of_beq_eq_true h1
    subst h1
    have h2:nx <= 4611686018427387904:=of_decide_eq_true h2
    have hA:BA [u,iV lc] [.agg [iV a,.sl 6 nx (fun i=>eV (g i)),.sl 5 nx (fun i=>evV (x i)),iV tt,iV k0,.sl 1 nr (fun i=>iV (r i)),.sl 1 nc (fun k=>.sl 1 (C k).1 (fun i=>iV ((C k).2 i)))],iV lc]:=fun S w cs hv=>by
      obtain ⟨c,l,rfl,q1,q2⟩:=hv
      exact ⟨c,l,rfl,ha S w c q1,q2⟩
    have hx:=AQ Aap [(0,lp95 a nx g x tt k0 nr r nc (fun k=>(C k).1) (fun k=>(C k).2) lc)] (G:=Gl)
    have hL:=AC [(0,lp95 a nx g x tt k0 nr r nc (fun k=>(C k).1) (fun k=>(C k).2) lc)]
    refine ⟨_,AR Gl Xu [(0,lp95 a nx g x tt k0 nr r nc (fun k=>(C k).1) (fun k=>(C k).2) lc)],_,hA,rfl,hx.1,hx.2,?_,AB.refl _⟩
    have h0:=fun L j=>run95 L a nx g x tt k0 nr r nc (fun k=>(C k).1) (fun k=>(C k).2) lc h2 nx 0 j (nx+1) (by omega) (by omega) (fun k hk=>absurd hk (Nat.not_lt_zero _))
    rcases h0 Abf (fun _=>.und) with ⟨_,h5⟩ | ⟨i,_,h5⟩
    · have h6:∀ L j,(A3 (body95 L) (lp95 a nx g x tt k0 nr r nc (fun k=>(C k).1) (fun k=>(C k).2) lc) (nx+1) (st95 a nx g x tt k0 nr r nc (fun k=>(C k).1) (fun k=>(C k).2) lc 0 j)).sem = some (S7 a nx g x tt k0 nr r nc (fun k=>(C k).1) (fun k=>(C k).2) lc 0):=fun L j=>by
        rcases h0 L j with ⟨h,_⟩ | ⟨i,_,h⟩
        · exact h
        · rw [h5] at h
          cases h
      rw [h5]
      exact A6 (Ax hL hL) _ (Ajq _ _ a nx g x tt k0 nr r nc (fun k=>(C k).1) (fun k=>(C k).2) lc 0 (Ak (h6 _ _)))
    · have h6:∀ L j,(A3 (body95 L) (lp95 a nx g x tt k0 nr r nc (fun k=>(C k).1) (fun k=>(C k).2) lc) (nx+1) (st95 a nx g x tt k0 nr r nc (fun k=>(C k).1) (fun k=>(C k).2) lc 0 j)).sem = some (S6 a nx g x tt k0 nr r nc (fun k=>(C k).1) (fun k=>(C k).2) lc i):=fun L j=>by
        rcases h0 L j with ⟨_,h⟩ | ⟨i',h,h'⟩
        · rw [h5] at h
          cases h
        · rw [h5] at h'
          cases h'
          exact h
      rw [h5]
      exact A6 (Ax hL hL) _ (Ajp _ _ a nx g x tt k0 nr r nc (fun k=>(C k).1) (fun k=>(C k).2) lc i (Ak (h6 _ _)))
  · cases h
noncomputable def Tm:List (Nat × (List V->T (V × List Blk))):=[(95,TZ)]
theorem U6:AF Try.prog Gl Tm:=.cons p95 .nil
def NS (a:Int) (n k kk:Nat) (g:Nat->E6) (th lo:Nat->Int) (tt:Int) (c0:Nat->V) (x0:Nat->Ev5) (r0:Nat->Int) (ln:Nat->Nat) (co:Nat->Nat->Int) (ts:List V) :St:=⟨(jsV 79 0 (fun _=>A7) [(0,(.agg [iV a,.ref 1,.ref 5,iV tt,nV kk,.ref 6,.jref 7])),(1,(nV k)),(2,(.ptr 9 0)),(4,(.ptr 10 0)),(5,(.ref 11)),(6,(nV n)),(7,(iV (Gs n g x0 (ofNat k)))),(8,(iV (-1))),(9,(iV 0)),(11,(.ptr 9 1)),(12,(.ref 1)),(13,(nV n)),(14,(.agg [iV a,.ref 1,.ref 5,iV tt,nV kk,.ref 6,.jref 7])),(15,(nV k)),(16,(iV (Gs n g x0 (ofNat k))))]),[c7Z,.row 44 6 n (fun i=>eV (g i)),.row 3 1 n (fun i=>iV (th i)),.row 3 1 n (fun i=>iV (lo i)),.cells [iV a,.ref 1,.ref 5,iV tt,nV kk,.ref 6,.jref 7],.row 40 5 n (fun i=>evV (x0 i)),.row 3 1 n (fun i=>iV (r0 i)),.jag (Jag.mk 25 1 k c0 0 3 1 (fun _=>true) ln (fun i q=>iV (co i q))),.saved ts,.cells [iV a,.ref 1,.ref 5,iV tt,nV kk,.ref 6,.jref 7],c7Z,r3Z]⟩
def lp59 (_:Int) (_ _ _:Nat) (_:Nat->E6) (_ _:Nat->Int) (_:Int) (_:Nat->V) (_:Nat->Ev5) (_:Nat->Int) (_:Nat->Nat) (_:Nat->Nat->Int) (_:List V):Lp:=⟨(bmK 79 0 [1,2,4,5,6,7,8,9]),12,bmK 79 0 [2,4,5],12,17⟩
def st59 (a:Int) (n k kk:Nat) (g:Nat->E6) (th lo:Nat->Int) (tt:Int) (c0:Nat->V) (_:Nat->Ev5) (_:Nat->Int) (ln:Nat->Nat) (co:Nat->Nat->Int) (ts:List V) (b m:Nat) (z la:Int) (x:Nat->Ev5) (r w:Nat->Int) (j:Nat->V):St:=⟨(jsV 79 0 j [(1,nV k),(2,.ptr 9 0),(4,.ptr 10 0),(5,.ref 11),(6,nV n),(7,iV z),(8,iV la),(9,nV b)]),[c7Z,.row 44 6 n (fun i=>eV (g i)),.row 3 1 n (fun i=>iV (th i)),.row 3 1 n (fun i=>iV (lo i)),.cells [iV a,.ref 1,.ref 5,iV tt,nV kk,.ref 6,.jref 7],.row 40 5 n (fun i=>evV (x i)),.row 3 1 n (fun i=>iV (r i)),.jag (Jag.mk 25 1 k c0 0 3 1 (fun _=>true) ln (fun i q=>iV (co i q))),.saved ts,.cells [iV a,.ref 1,.ref 5,iV tt,nV kk,.ref 6,.jref 7],c7Z,.row 3 1 m (fun i=>iV (w i))]⟩
def en59e (a:Int) (n k kk:Nat) (g:Nat->E6) (th lo:Nat->Int) (tt:Int) (c0:Nat->V) (_:Nat->Ev5) (_:Nat->Int) (ln:Nat->Nat) (co:Nat->Nat->Int) (ts:List V) (_ m:Nat) (_ _:Int) (x:Nat->Ev5) (r w:Nat->Int):Ex × St:=(.ex 0,⟨(jsV 79 0 (fun _=>.und) [(2,.ptr 9 0),(4,.ptr 10 0),(5,.ref 11)]),[c7Z,.row 44 6 n (fun i=>eV (g i)),.row 3 1 n (fun i=>iV (th i)),.row 3 1 n (fun i=>iV (lo i)),.cells [iV a,.ref 1,.ref 5,iV tt,nV kk,.ref 6,.jref 7],.row 40 5 n (fun i=>evV (x i)),.row 3 1 n (fun i=>iV (r i)),.jag (Jag.mk 25 1 k c0 0 3 1 (fun _=>true) ln (fun i q=>iV (co i q))),.saved ts,.cells [iV a,.ref 1,.ref 5,iV tt,nV kk,.ref 6,.jref 7],c7Z,.row 3 1 m (fun i=>iV (w i))]⟩)
noncomputable def body59 (L:LT):St->T (Ex × St):=fun st=>A9 tab ⟨Ao Tm,L,Gl⟩ (Av Try.f59 0) 0 st
section
variable (L:LT) (a:Int) (n k kk:Nat) (g:Nat->E6) (th lo:Nat->Int) (tt:Int) (c0:Nat->V) (x0:Nat->Ev5) (r0:Nat->Int) (ln:Nat->Nat) (co:Nat->Nat->Int) (ts:List V) (b m:Nat) (z la:Int) (x:Nat->Ev5) (r w:Nat->Int)  (j:Nat->V)
include L a n k kk g th lo tt c0 x0 r0 ln co ts b m z la x r w j
theorem Aho (h0:ilt (ofNat b) (ofNat n) = false):Ai (body59 L) (lp59 a n k kk g th lo tt c0 x0 r0 ln co ts) (st59 a n k kk g th lo tt c0 x0 r0 ln co ts b m z la x r w j) = some ((.ex 0),⟨(jsV 79 0 (fun _=>.und) [(2,(.ptr 9 0)),(4,(.ptr 10 0)),(5,(.ref 11))]),[c7Z,.row 44 6 n (fun i=>eV (g i)),.row 3 1 n (fun i=>iV (th i)),.row 3 1 n (fun i=>iV (lo i)),.cells [iV a,.ref 1,.ref 5,iV tt,nV kk,.ref 6,.jref 7],.row 40 5 n (fun i=>evV (x i)),.row 3 1 n (fun i=>iV (r i)),.jag (Jag.mk 25 1 k c0 0 3 1 (fun _=>true) ln (fun i q=>iV (co i q))),.saved (BW 12 ts),.cells [iV a,.ref 1,.ref 5,iV tt,nV kk,.ref 6,.jref 7],c7Z,.row 3 1 m (fun i=>iV (w i))]⟩):=Aa (bbK 14 0) ((fun c0=>[c0,c0,c0,c0,c0,c0,c0,c0,c0,c0,c0,c0,c0,false]) (ilt (ofNat b) (ofNat n))) (by kernel_rfl) (by simp only [h0] <;> rfl)
theorem Ahl (h0:ilt (ofNat b) (ofNat n) = true) (h1:ieq (ofNat n) 0 = false) (h19:Af (ile 0 (Ad (wr .i64 (Ae z (ofNat b))) (ofNat n))) (ilt (Ad (wr .i64 (Ae z (ofNat b))) (ofNat n)) (ofNat n)) = true) (h2:nlt (toN (Ad (wr .i64 (Ae z (ofNat b))) (ofNat n))) n = true) (h3:ieq ((x (toN (Ad (wr .i64 (Ae z (ofNat b))) (ofNat n))))).loc (ofNat k) = false):Ai (body59 L) (lp59 a n k kk g th lo tt c0 x0 r0 ln co ts) (st59 a n k kk g th lo tt c0 x0 r0 ln co ts b m z la x r w j) = some ((.ex 0),⟨(jsV 79 0 (fun _=>.und) [(2,(.ptr 9 0)),(4,(.ptr 10 0)),(5,(.ref 11))]),[c7Z,.row 44 6 n (fun i=>eV (g i)),.row 3 1 n (fun i=>iV (th i)),.row 3 1 n (fun i=>iV (lo i)),.cells [iV a,.ref 1,.ref 5,iV tt,nV kk,.ref 6,.jref 7],.row 40 5 n (fun i=>evV (x i)),.row 3 1 n (fun i=>iV (r i)),.jag (Jag.mk 25 1 k c0 0 3 1 (fun _=>true) ln (fun i q=>iV (co i q))),.saved (BW 12 ts),.cells [iV a,.ref 1,.ref 5,iV tt,nV kk,.ref 6,.jref 7],c7Z,.row 3 1 m (fun i=>iV (w i))]⟩):=Aa (bbK 17 65407) ((fun c0=>[c0,c0,c0,c0,c0,c0,c0,ieq (ofNat n) 0,c0,Af (ile 0 (Ad (wr .i64 (Ae z (ofNat b))) (ofNat n))) (ilt (Ad (wr .i64 (Ae z (ofNat b))) (ofNat n)) (ofNat n)),c0,c0,nlt (toN (Ad (wr .i64 (Ae z (ofNat b))) (ofNat n))) n,c0,c0,c0,ieq ((x (toN (Ad (wr .i64 (Ae z (ofNat b))) (ofNat n))))).loc (ofNat k)]) (ilt (ofNat b) (ofNat n))) (by kernel_rfl) (by simp only [h19] <;> simp only [*] <;> rfl)
theorem Ahn (h0:ilt (ofNat b) (ofNat n) = true) (h1:ieq (ofNat n) 0 = false) (h20:Af (ile 0 (Ad (wr .i64 (Ae z (ofNat b))) (ofNat n))) (ilt (Ad (wr .i64 (Ae z (ofNat b))) (ofNat n)) (ofNat n)) = true) (h2:nlt (toN (Ad (wr .i64 (Ae z (ofNat b))) (ofNat n))) n = true) (h3:ieq ((x (toN (Ad (wr .i64 (Ae z (ofNat b))) (ofNat n))))).loc (ofNat k) = true) (h4:ieq ((x (toN (Ad (wr .i64 (Ae z (ofNat b))) (ofNat n))))).dir 2 = false):Ai (body59 L) (lp59 a n k kk g th lo tt c0 x0 r0 ln co ts) (st59 a n k kk g th lo tt c0 x0 r0 ln co ts b m z la x r w j) = some (.nm,⟨(jsV 79 0 (fun _=>.und) [(1,(nV k)),(2,(.ptr 9 0)),(4,(.ptr 10 0)),(5,(.ref 11)),(6,(nV n)),(7,(iV z)),(8,(iV la)),(9,(iV (wr .i64 (Ae (ofNat b) 1))))]),[c7Z,.row 44 6 n (fun i=>eV (g i)),.row 3 1 n (fun i=>iV (th i)),.row 3 1 n (fun i=>iV (lo i)),.cells [iV a,.ref 1,.ref 5,iV tt,nV kk,.ref 6,.jref 7],.row 40 5 n (fun i=>.agg [iV (sel (AN i (toN (Ad (wr .i64 (Ae z (ofNat b))) (ofNat n)))) ((x (toN (Ad (wr .i64 (Ae z (ofNat b))) (ofNat n))))).th ((x i)).th),iV (sel (AN i (toN (Ad (wr .i64 (Ae z (ofNat b))) (ofNat n)))) ((x (toN (Ad (wr .i64 (Ae z (ofNat b))) (ofNat n))))).pl ((x i)).pl),iV (sel (AN i (toN (Ad (wr .i64 (Ae z (ofNat b))) (ofNat n)))) ((x (toN (Ad (wr .i64 (Ae z (ofNat b))) (ofNat n))))).dir ((x i)).dir),iV (sel (AN i (toN (Ad (wr .i64 (Ae z (ofNat b))) (ofNat n)))) ((x (toN (Ad (wr .i64 (Ae z (ofNat b))) (ofNat n))))).loc ((x i)).loc),iV (sel (AN i (toN (Ad (wr .i64 (Ae z (ofNat b))) (ofNat n)))) (ofNat m) ((x i)).val)]),.row 3 1 n (Bl (fun i=>iV (r i)) (toN (Ad (wr .i64 (Ae z (ofNat b))) (ofNat n))) (iV la)),.jag (Jag.mk 25 1 k c0 0 3 1 (fun _=>true) ln (fun i q=>iV (co i q))),.saved (BW 12 ts),.cells [iV a,.ref 1,.ref 5,iV tt,nV kk,.ref 6,.jref 7],c7Z,.row 3 1 m (fun i=>iV (w i))]⟩):=Aa (bbK 25 32374655) ((fun c0 c1 c2 c3=>[c0,c0,c0,c0,c0,c0,c0,c1,c0,c2,c0,c0,c3,c0,c0,c0,ieq ((x (toN (Ad (wr .i64 (Ae z (ofNat b))) (ofNat n))))).loc (ofNat k),c1,c2,c3,ieq ((x (toN (Ad (wr .i64 (Ae z (ofNat b))) (ofNat n))))).dir 2,c2,c3,c2,c3]) (ilt (ofNat b) (ofNat n)) (ieq (ofNat n) 0) (Af (ile 0 (Ad (wr .i64 (Ae z (ofNat b))) (ofNat n))) (ilt (Ad (wr .i64 (Ae z (ofNat b))) (ofNat n)) (ofNat n))) (nlt (toN (Ad (wr .i64 (Ae z (ofNat b))) (ofNat n))) n)) (by kernel_rfl) (by simp only [h20] <;> simp only [*] <;> rfl)
theorem Ahm (h0:ilt (ofNat b) (ofNat n) = true) (h1:ieq (ofNat n) 0 = false) (h20:Af (ile 0 (Ad (wr .i64 (Ae z (ofNat b))) (ofNat n))) (ilt (Ad (wr .i64 (Ae z (ofNat b))) (ofNat n)) (ofNat n)) = true) (h2:nlt (toN (Ad (wr .i64 (Ae z (ofNat b))) (ofNat n))) n = true) (h3:ieq ((x (toN (Ad (wr .i64 (Ae z (ofNat b))) (ofNat n))))).loc (ofNat k) = true) (h4:ieq ((x (toN (Ad (wr .i64 (Ae z (ofNat b))) (ofNat n))))).dir 2 = true) (h21:Bj m 1 8 = true):Ai (body59 L) (lp59 a n k kk g th lo tt c0 x0 r0 ln co ts) (st59 a n k kk g th lo tt c0 x0 r0 ln co ts b m z la x r w j) = some (.nm,⟨(jsV 79 0 (fun _=>.und) [(1,(nV k)),(2,(.ptr 9 0)),(4,(.ptr 10 0)),(5,(.ref 11)),(6,(nV n)),(7,(iV z)),(8,(iV (Ad (wr .i64 (Ae z (ofNat b))) (ofNat n)))),(9,(iV (wr .i64 (Ae (ofNat b) 1))))]),[c7Z,.row 44 6 n (fun i=>eV (g i)),.row 3 1 n (fun i=>iV (th i)),.row 3 1 n (fun i=>iV (lo i)),.cells [iV a,.ref 1,.ref 5,iV tt,nV kk,.ref 6,.jref 7],.row 40 5 n (fun i=>.agg [iV (sel (AN i (toN (Ad (wr .i64 (Ae z (ofNat b))) (ofNat n)))) ((x (toN (Ad (wr .i64 (Ae z (ofNat b))) (ofNat n))))).th ((x i)).th),iV (sel (AN i (toN (Ad (wr .i64 (Ae z (ofNat b))) (ofNat n)))) ((x (toN (Ad (wr .i64 (Ae z (ofNat b))) (ofNat n))))).pl ((x i)).pl),iV (sel (AN i (toN (Ad (wr .i64 (Ae z (ofNat b))) (ofNat n)))) ((x (toN (Ad (wr .i64 (Ae z (ofNat b))) (ofNat n))))).dir ((x i)).dir),iV (sel (AN i (toN (Ad (wr .i64 (Ae z (ofNat b))) (ofNat n)))) ((x (toN (Ad (wr .i64 (Ae z (ofNat b))) (ofNat n))))).loc ((x i)).loc),iV (sel (AN i (toN (Ad (wr .i64 (Ae z (ofNat b))) (ofNat n)))) (ofNat (B4 m 1)) ((x i)).val)]),.row 3 1 n (fun i=>iV (r i)),.jag (Jag.mk 25 1 k c0 0 3 1 (fun _=>true) ln (fun i q=>iV (co i q))),.saved (BW 12 (kill.kills 11 ts)),.cells [iV a,.ref 1,.ref 5,iV tt,nV kk,.ref 6,.jref 7],c7Z,.row 3 1 (B4 m 1) (AK m (fun i=>iV (w i)) (iV (Ad (wr .i64 (Ae z (ofNat b))) (ofNat n))))]⟩):=Aa (bbK 24 16646015) ((fun c0 c1 c2 c3=>[c0,c0,c0,c0,c0,c0,c0,c1,c0,c2,c0,c0,c3,c0,c0,c0,ieq ((x (toN (Ad (wr .i64 (Ae z (ofNat b))) (ofNat n))))).loc (ofNat k),c1,c2,c3,ieq ((x (toN (Ad (wr .i64 (Ae z (ofNat b))) (ofNat n))))).dir 2,Bj m 1 8,c2,c3]) (ilt (ofNat b) (ofNat n)) (ieq (ofNat n) 0) (Af (ile 0 (Ad (wr .i64 (Ae z (ofNat b))) (ofNat n))) (ilt (Ad (wr .i64 (Ae z (ofNat b))) (ofNat n)) (ofNat n))) (nlt (toN (Ad (wr .i64 (Ae z (ofNat b))) (ofNat n))) n)) (by kernel_rfl) (by simp only [h20] <;> simp only [*] <;> rfl)
end
theorem Ajd (L:LT) (p0:PT) (a:Int) (n k kk:Nat) (g:Nat->E6) (th lo:Nat->Int) (tt:Int) (c0:Nat->V) (x0:Nat->Ev5) (r0:Nat->Int) (ln:Nat->Nat) (co:Nat->Nat->Int) (ts:List V) (us:List V) (b m:Nat) (z la:Int) (x:Nat->Ev5) (r w:Nat->Int) (h14:AT [.jag (Jag.mk 25 1 k (fun _=>.und) 0 3 1 (fun _=>true) (fun _=>0) (fun _ _=>.und))] = true) (h15:An k (fun i=>An (ln i) (fun _=>true)) = true) (h16:Ah n = true) (h17:Bj k 1 24 = true) (hp0:p0 (body59 (onP 0 p0 (en59e a n k kk g th lo tt c0 x0 r0 ln co us b m z la x r w) L)) (NS a n k kk g th lo tt c0 x0 r0 ln co ts) = true):(Al tab ⟨Ao Tm,onP 0 p0 (en59e a n k kk g th lo tt c0 x0 r0 ln co us b m z la x r w) L,Gl⟩ Try.f59 [.agg [iV a,.ref 1,.ref 5,iV tt,nV kk,.ref 6,.jref 7],nV k] [c7Z,.row 44 6 n (fun i=>eV (g i)),.row 3 1 n (fun i=>iV (th i)),.row 3 1 n (fun i=>iV (lo i)),.cells [iV a,.ref 1,.ref 5,iV tt,nV kk,.ref 6,.jref 7],.row 40 5 n (fun i=>evV (x0 i)),.row 3 1 n (fun i=>iV (r0 i)),.jag (Jag.mk 25 1 k c0 0 3 1 (fun _=>true) ln (fun i q=>iV (co i q))),.saved ts]).sem = some ((.agg [iV a,.ref 1,.ref 5,iV tt,nV kk,.ref 6,.jref 7]),[c7Z,.row 44 6 n (fun i=>eV (g i)),.row 3 1 n (fun i=>iV (th i)),.row 3 1 n (fun i=>iV (lo i)),.cells [iV a,.ref 1,.ref 5,iV tt,nV kk,.ref 6,.und],.row 40 5 n (fun i=>evV (x i)),.row 3 1 n (fun i=>iV (r i)),.jag (Jag.mk 25 1 (B4 k 1) (AK k c0 .und) 0 3 1 (fun i=>sel (AN i k) true true) (fun i=>sel (AN i k) m (ln i)) (fun i i_1=>D4 (fun i_2 i_3=>iV (co i_2 i_3)) k (fun i_2=>iV (w i_2)) i i_1)),.saved (kill.kills 7 (kill.kills 12 (kill.kills 11 us))),.cells [iV a,.ref 1,.ref 5,iV tt,nV kk,.ref 6,.jref 7],.cells [iV a,.ref 1,.ref 5,iV tt,nV kk,.ref 6,.jref 7],.dead,.dead]):=Aa (bbK 10 1023) [AT [.jag (Jag.mk 25 1 k (fun _=>.und) 0 3 1 (fun _=>true) (fun _=>0) (fun _ _=>.und))],An n (fun _=>true),An n (fun _=>true),An n (fun _=>true),An k (fun i=>An (ln i) (fun _=>true)),AN n n,Ah n,p0 (body59 (onP 0 p0 (en59e a n k kk g th lo tt c0 x0 r0 ln co us b m z la x r w) L)) (NS a n k kk g th lo tt c0 x0 r0 ln co ts),true,Bj k 1 24] (by kernel_rfl) (by simp only [hp0] <;> simp only [*,Ar,nbeq_self] <;> rfl)
theorem Nq {p q:Nat->Bool} {n:Nat} (h:∀ i,i < n->p i = q i):Fe p n = Fe q n:=by
  by_cases hp:∃ k,k < n ∧ p k = true
  · obtain ⟨k,hk,hpk⟩:=hp
    obtain ⟨h1,h2,h3⟩:=En hk hpk
    exact (Kg (p:=q) (by omega) (by rw [<- h _ (by omega)]; exact h2) (fun i hi=>by rw [<- h i (by omega)]; exact h3 i hi)).symm
  · have h1:∀ i,i < n->p i = false:=fun i hi=>by
      cases hpi:p i with
      | false=>rfl
      | true=>exact absurd ⟨i,hi,hpi⟩ hp
    rw [IK h1,IK fun i hi=>by rw [<- h i hi]; exact h1 i hi]
theorem WD {n:Nat} {g:Nat->E6} {d:Nat->Bool} {k:Nat} (hk:k < kkN n g):Gs n g (evF n g d) (ofNat k) = ofNat (stN (mbF g) n k):=by
  have:Fe (Kr n g (evF n g d) (ofNat k)) n = stN (mbF g) n k:=Nq fun i hi=>by
    unfold Kr
    rw [CL hi,Abz hi,Dl,Bool.and_comm]
    rfl
  unfold Gs
  rw [this,decide_eq_true (Gz hk).1]
  rfl
def wvF (n:Nat) (g:Nat->E6) (z b q:Nat):Int:=if q < wcN (wrF g) n z b then ofNat (coN (mbF g) (wrF g) n (loN n g z) q) else 0
theorem Xf {n:Nat} {g:Nat->E6} {z b:Nat} (hz:z < n) (hst:CB (mbF g) n z = true) (hb:b < n) (hw:wrF g (rnd n z b) = true) :
    AK (wcN (wrF g) n z b) (fun i=>iV (wvF n g z b i)) (iV (ofNat (rnd n z b))) = fun i=>iV (wvF n g z (b+1) i):=by
  funext q
  rw [BH]
  have h2:stN (mbF g) n (loN n g z) = z:=X8 hz hst
  unfold wvF
  rw [Tc hw]
  by_cases hq:q = wcN (wrF g) n z b
  · subst hq
    rw [Nat.beq_refl,if_pos (Nat.lt_succ_self _)]
    unfold coN
    rw [h2,U1 hb hw]
    rfl
  · rw [nbeq_ne hq]
    by_cases h3:q < wcN (wrF g) n z b
    · rw [if_pos h3,if_pos (by omega)]; rfl
    · rw [if_neg h3,if_neg (by omega)]; rfl
theorem Xe {n:Nat} {g:Nat->E6} {z b:Nat} (hw:wrF g (rnd n z b) = false):wvF n g z (b+1) = wvF n g z b:=by
  funext q
  unfold wvF
  rw [Td hw]
def EK (F:V->V):Prop:=(∀ k x,F (.val (.int k x)) = .val (.int k x)) ∧ ∀ i o,i < 7->F (.ptr i o) = .ptr i o
theorem EK.comp {F G:V->V} (hF:EK F) (hG:EK G):EK (fun v=>G (F v)):=⟨fun k x=>by show G (F _) = _; rw [hF.1,hG.1],fun i o h=>by show G (F _) = _; rw [hF.2 i o h,hG.2 i o h]⟩
theorem EO:EK (FW 12):=⟨fun _ _=>rfl,fun i o h=>by
  unfold FW Me
  rw [show Nat.blt i 12 = true from Nat.ble_eq_true_of_le (by omega)]⟩
theorem E3 (id:Nat):EK (kill id):=⟨fun _ _=>rfl,fun _ _ _=>rfl⟩
theorem run59 (a:Int) (n z:Nat) (g:Nat->E6) (th lo:Nat->Int) (tt:Int) (c0:Nat->V) (x0:Nat->Ev5) (r0:Nat->Int) (ln:Nat->Nat) (co:Nat->Nat->Int) (hz:z < n) (hst:CB (mbF g) n z = true) (h8:n <= 16) :
    ∀ (e b:Nat) (q:Nat),Ch (mbF g) n z = b+e->e < q->∃ F,EK F ∧ ∀ (L:LT) (ts0 ts:List V) (j:Nat->V),
    (A3 (body59 L) (lp59 a n (loN n g z) (kkN n g) g th lo tt c0 x0 r0 ln co ts0) q (st59 a n (loN n g z) (kkN n g) g th lo tt c0 x0 r0 ln co ts b (wcN (wrF g) n z b) (ofNat z) (wlN (wrF g) n z b) (evF n g (dnF n g (loN n g) (loN n g z) b)) (rfF n g (dnF n g (loN n g) (loN n g z) b)) (wvF n g z b) j)).sem
      = some (en59e a n (loN n g z) (kkN n g) g th lo tt c0 x0 r0 ln co (ts.map F) 0 (wcN (wrF g) n z (Ch (mbF g) n z)) 0 0 (evF n g (dnF n g (loN n g) (loN n g z+1) 0)) (rfF n g (dnF n g (loN n g) (loN n g z+1) 0)) (wvF n g z (Ch (mbF g) n z))):=by
  intro e
  have hrk:Rank (mbF g) n (loN n g):=KW (mbF g) n
  obtain ⟨l1,l2,l3,l4⟩:=ED hz hst
  have hkk:=Ij hz hst
  have hwc:∀ b,b <= n->wcN (wrF g) n z b <= n:=fun b hb=>Nat.le_trans (Bd _ _) hb
  induction e with
  | zero =>
    intro b q hb hq
    obtain ⟨q,rfl⟩:∃ q',q = q'+1:=⟨q - 1,by omega⟩
    have hbl:Ch (mbF g) n z = b:=by omega
    have hde:=VM hrk hz hst
    rw [hbl] at hde
    refine ⟨_,EO,fun L ts0 ts j=>?_⟩
    rw [<- hde,hbl,show lp59 a n (loN n g z) (kkN n g) g th lo tt c0 x0 r0 ln co ts0 = lp59 a n (loN n g z) (kkN n g) g th lo tt c0 x0 r0 ln co ts from rfl]
    by_cases hbn:b = n
    · rw [Ab (Aho L a n (loN n g z) (kkN n g) g th lo tt c0 x0 r0 ln co ts b (wcN (wrF g) n z b) (ofNat z) (wlN (wrF g) n z b) (evF n g (dnF n g (loN n g) (loN n g z) b)) (rfF n g (dnF n g (loN n g) (loN n g z) b)) (wvF n g z b) j (A8 (by omega))),Qx,B5]
      rfl
    · have hbn:b < n:=by omega
      have hX:(Ad (wr .i64 (Ae (ofNat z) (ofNat b))) (ofNat n)) = ofNat (rnd n z b):=by rw [D3 (by omega),Cy]; rfl
      have hlt:rnd n z b < n:=Gm (by omega)
      have hin:Af (ile 0 (Ad (wr .i64 (Ae (ofNat z) (ofNat b))) (ofNat n))) (ilt (Ad (wr .i64 (Ae (ofNat z) (ofNat b))) (ofNat n)) (ofNat n)) = true:=by rw [hX]; exact Ay hlt
      have hnl:nlt (toN (Ad (wr .i64 (Ae (ofNat z) (ofNat b))) (ofNat n))) n = true:=by rw [hX]; exact decide_eq_true hlt
      have hlc:ieq (evF n g (dnF n g (loN n g) (loN n g z) b) (toN (Ad (wr .i64 (Ae (ofNat z) (ofNat b))) (ofNat n)))).loc (ofNat (loN n g z)) = false:=by
        rw [hX,show toN (ofNat (rnd n z b)) = rnd n z b from rfl,CL hlt]
        show ieq (loF n g (rnd n z b)) _ = false
        rw [Abz hlt,Dl]
        apply decide_eq_false
        have hs:CB (mbF g) n (rnd n z b) = true:=by
          unfold CB
          rw [Hb,show b+(n - 1) = (b - 1)+n by omega,Rx,<- hbl]
          exact l3
        intro he
        have h2:=(KW (mbF g) n).apart hlt hz hs hst he
        have h3:rnd n z b = rnd n z 0:=by rw [h2,Ry hz]
        have:=AaJ hz hbn (by omega) h3
        omega
      rw [Ab (Ahl L a n (loN n g z) (kkN n g) g th lo tt c0 x0 r0 ln co ts b (wcN (wrF g) n z b) (ofNat z) (wlN (wrF g) n z b) (evF n g (dnF n g (loN n g) (loN n g z) b)) (rfF n g (dnF n g (loN n g) (loN n g z) b)) (wvF n g z b) j (ofNat_lt hbn) (F2 (by omega)) hin hnl hlc),Qx,B5]
      rfl
  | succ e ih =>
    intro b q hb hq
    obtain ⟨q,rfl⟩:∃ q',q = q'+1:=⟨q - 1,by omega⟩
    have hbn:b < n:=by omega
    have hbl:b < Ch (mbF g) n z:=by omega
    have hX:(Ad (wr .i64 (Ae (ofNat z) (ofNat b))) (ofNat n)) = ofNat (rnd n z b):=by rw [D3 (by omega),Cy]; rfl
    have hlt:rnd n z b < n:=Gm (by omega)
    have hin:Af (ile 0 (Ad (wr .i64 (Ae (ofNat z) (ofNat b))) (ofNat n))) (ilt (Ad (wr .i64 (Ae (ofNat z) (ofNat b))) (ofNat n)) (ofNat n)) = true:=by rw [hX]; exact Ay hlt
    have hnl:nlt (toN (Ad (wr .i64 (Ae (ofNat z) (ofNat b))) (ofNat n))) n = true:=by rw [hX]; exact decide_eq_true hlt
    have hap:Bj (wcN (wrF g) n z b) 1 8 = true:=by
      have:=hwc b (by omega)
      exact CS (by omega)
    have hdn:=Og hrk hz hst hbl
    have hin':=G9 hz hst hbl
    have hv:=Tf (w:=wrF g) hin'
    have hlc:ieq (evF n g (dnF n g (loN n g) (loN n g z) b) (toN (Ad (wr .i64 (Ae (ofNat z) (ofNat b))) (ofNat n)))).loc (ofNat (loN n g z)) = true:=by
      rw [hX,show toN (ofNat (rnd n z b)) = rnd n z b from rfl,CL hlt]
      show ieq (loF n g (rnd n z b)) _ = true
      rw [Abz hlt,hrk.same hin',Dl]
      exact decide_eq_true rfl
    cases hw:wrF g (rnd n z b) with
    | true =>
      have hW:ieq (evF n g (dnF n g (loN n g) (loN n g z) b) (toN (Ad (wr .i64 (Ae (ofNat z) (ofNat b))) (ofNat n)))).dir 2 = true:=by rw [hX,show toN (ofNat (rnd n z b)) = rnd n z b from rfl,CL hlt]; exact hw
      obtain ⟨F,hF,h⟩:=ih (b+1) q (by omega) (by omega)
      refine ⟨_,(((E3 11).comp EO).comp hF),fun L ts0 ts j=>?_⟩
      have h:=h L ts (BW 12 (kill.kills 11 ts)) (fun _=>.und)
      rw [show lp59 a n (loN n g z) (kkN n g) g th lo tt c0 x0 r0 ln co ts0 = lp59 a n (loN n g z) (kkN n g) g th lo tt c0 x0 r0 ln co ts from rfl,Ab (Ahm L a n (loN n g z) (kkN n g) g th lo tt c0 x0 r0 ln co ts b (wcN (wrF g) n z b) (ofNat z) (wlN (wrF g) n z b) (evF n g (dnF n g (loN n g) (loN n g z) b)) (rfF n g (dnF n g (loN n g) (loN n g z) b)) (wvF n g z b) j (ofNat_lt hbn) (F2 (by omega)) hin hnl hlc hW hap),Aw]
      rw [hX,Aq hbn (by omega),show toN (ofNat (rnd n z b)) = rnd n z b from rfl,show B4 (wcN (wrF g) n z b) 1 = wcN (wrF g) n z b+1 from rfl,Lr hlt hdn (by rw [hv,Tc hw]),Xf hz hst hbn hw,<- PY hdn hw]
      rw [Agp hw,Tc hw,B5,Ck,List.map_map,List.map_map] at h
      rw [B5,Ck,List.map_map]
      exact h
    | false =>
      have hW:ieq (evF n g (dnF n g (loN n g) (loN n g z) b) (toN (Ad (wr .i64 (Ae (ofNat z) (ofNat b))) (ofNat n)))).dir 2 = false:=by rw [hX,show toN (ofNat (rnd n z b)) = rnd n z b from rfl,CL hlt]; exact hw
      obtain ⟨F,hF,h⟩:=ih (b+1) q (by omega) (by omega)
      refine ⟨_,(EO.comp hF),fun L ts0 ts j=>?_⟩
      have h:=h L ts (BW 12 ts) (fun _=>.und)
      rw [show lp59 a n (loN n g z) (kkN n g) g th lo tt c0 x0 r0 ln co ts0 = lp59 a n (loN n g z) (kkN n g) g th lo tt c0 x0 r0 ln co ts from rfl,Ab (Ahn L a n (loN n g z) (kkN n g) g th lo tt c0 x0 r0 ln co ts b (wcN (wrF g) n z b) (ofNat z) (wlN (wrF g) n z b) (evF n g (dnF n g (loN n g) (loN n g z) b)) (rfF n g (dnF n g (loN n g) (loN n g z) b)) (wvF n g z b) j (ofNat_lt hbn) (F2 (by omega)) hin hnl hlc hW),Aw]
      rw [hX,Aq hbn (by omega),show toN (ofNat (rnd n z b)) = rnd n z b from rfl,Lr hlt hdn (by rw [hv,Td hw]),TB hdn (Yj hin' hw).symm]
      rw [Agq hw,Td hw,Xe hw,B5,List.map_map] at h
      rw [B5]
      exact h
end Go.Proofs.Ytjhnfomefcngfaa.Sh
