/-
  Layer 7: the document's cycle turned, where a location's segment begins, its walk through it. No conditions.
-/
import Derived.Test.YtjhnfomefcngfaaShW
namespace Go.Proofs.Ytjhnfomefcngfaa.Sh
open Go.Sy Ed
open Int (ofNat)
set_option maxHeartbeats 1000000
set_option maxRecDepth 4000
noncomputable def Zh (n:Nat) (f:Nat->E6):Bool:=@decide (∃ a,IsCycle a n f) (Classical.propDecidable _)
theorem SH {n:Nat} {f:Nat->E6}:Zh n f = true ↔ ∃ a,IsCycle a n f:=by
  unfold Zh
  exact @decide_eq_true_iff _ (Classical.propDecidable _)
noncomputable def ZZ:List (Nat × (List V->T (V × List Blk))):=[(93,Oi),(22,BN fun e=>bV (Ay e)),(21,Mo)]
theorem ZY:AC Try.prog Gl ZZ:=.cons p93 <| .cons p60 <| .cons p69 .nil
def Wx (n:Nat) (_:Nat->E6):Lp:=⟨(bmK 27 0 [3,5]),2,bmK 27 0 [2],3,n+1⟩
def Xx (n:Nat) (f:Nat->E6) (b:Nat) (j:Nat->V):St:=⟨(jsV 27 0 j [(3,.ref 1),(5,nV b)]),[.row 44 6 0 (fun _=>.und),.row 44 6 n (fun i=>eV (B1 n f i))]⟩
def V2 (n:Nat) (f:Nat->E6) (b:Nat):Ex × St:=(.rt,⟨(jsV 27 0 (fun _=>.und) [(2,.ref 2)]),[.row 44 6 0 (fun _=>.und),.row 44 6 n (fun i=>eV (B1 n f i)),.row 44 6 n (fun i=>eV (Jv n (B1 n f) (ofNat b) i))]⟩)
noncomputable def Ok (L:LT):St->T (Ex × St):=fun st=>AE tab ⟨Ao ZZ,L,Gl⟩ (Az Try.f56 0) 0 st
section
variable (L:LT) (n:Nat) (f:Nat->E6) (b:Nat)  (j:Nat->V)
include L n f b j
theorem Akb (h0:ilt (ofNat b) (ofNat n) = true) (h13:ile 0 (ofNat b) = true) (h1:nlt b n = true) (h2:Ay (B1 n f b) = false):Al (Ok L) (Wx n f) (Xx n f b j) = some (.nm,⟨(jsV 27 0 (fun _=>.und) [(3,(.ref 1)),(5,(iV (wr .i64 (Af (ofNat b) 1))))]),[.row 44 6 0 (fun _=>.und),.row 44 6 n (fun i=>eV (B1 n f i))]⟩):=Aa [true,true,true,false] [ilt (ofNat b) (ofNat n),Ag (ile 0 (ofNat b)) (ilt (ofNat b) (ofNat n)),nlt b n,Ay (B1 n f b)] (by kernel_rfl) (by simp only [*] <;> rfl)
theorem Aka (h0:ilt (ofNat b) (ofNat n) = true) (h14:ile 0 (ofNat b) = true) (h1:nlt b n = true) (h2:Ay (B1 n f b) = true) (h3:AL n = true) (h15:AW [.row 3 1 n (fun _=>iV 0)] = true):Al (Ok L) (Wx n f) (Xx n f b j) = some (.rt,⟨(jsV 27 0 (fun _=>.und) [(2,(.ref 2))]),[.row 44 6 0 (fun _=>.und),.row 44 6 n (fun i=>eV (B1 n f i)),.row 44 6 n (fun i=>eV (Jv n (fun i=>B1 n f i) (wr .i64 (Af (ofNat b) 1)) i))]⟩):=Aa (bbK 7 127) [ilt (ofNat b) (ofNat n),Ag (ile 0 (ofNat b)) (ilt (ofNat b) (ofNat n)),nlt b n,Ay (B1 n f b),Ai n (fun _=>true),AL n,AW [.row 3 1 n (fun _=>iV 0)]] (by kernel_rfl) (by simp only [*,Ar,Cc] <;> rfl)
end
def Ai0 (n:Nat) (f:Nat->E6) :Nat->V:=lkV A8 [(0,(.sl 6 n (fun i=>eV (f i)))),(2,(.ref 0)),(4,(iV 0)),(6,(.tup [.ref 1,iV 0])),(7,(.sl 6 n (fun i=>eV (f i)))),(8,(.tup [.ref 1,iV 0])),(9,(.ref 1)),(10,(iV 0))]
theorem w56 (L:LT) (p0:PT) (n:Nat) (f:Nat->E6) (q:Nat) (h0:AL n = true) (h1:BW n f = true) (hp0:p0 (Ok (onP 0 p0 (V2 n f q) L)) (Xx n f 0 (Ai0 n f )) = true):(As (Aj tab ⟨Ao ZZ,onP 0 p0 (V2 n f q) L,Gl⟩ Try.f56 [.sl 6 n fun i=>eV (f i)] [])).sem = some ((.ref 0),[.row 44 6 n (fun i=>eV (Jv n (B1 n f) (ofNat q) i))]):=Aa [true,true,true,true] [Ai n (fun _=>true),AL n,BW n f,p0 (Ok (onP 0 p0 (V2 n f q) L)) (Xx n f 0 (Ai0 n f ))] (by kernel_rfl) (by simp only [hp0] <;> simp only [h0,h1,Ar] <;> rfl)
theorem AbW (L:LT) (n:Nat) (f:Nat->E6) (hf:AL n = true) (hn:n <= 4611686018427387903) (k:Nat) (hk:k < n) (ht:Ay (B1 n f k) = true) (hb:∀ i,i < k->Ay (B1 n f i) = false):∀ (e b:Nat) (j:Nat->V) (q:Nat),k = b+e->e < q ->
    (A7 (Ok L) (Wx n f) q (Xx n f b j)).sem = some (V2 n f (k+1))
  | 0,b,j,q+1,h,_=>by
    have:k = b:=by omega
    subst this
    rw [Ac (Aka L n f k j (ofNat_lt hk) (AH k) (decide_eq_true hk) ht hf Cc),Du,Aq hk (by omega)]
    rfl
  | e+1,b,j,q+1,h,h2=>by
    have hl:b < n:=by omega
    rw [Ac (Akb L n f b j (ofNat_lt hl) (AH b) (decide_eq_true hl) (hb b (by omega))),Av,Aq hl (by omega)]
    exact AbW L n f hf hn k hk ht hb e (b+1) (fun _=>.und) q (by omega) (by omega)
theorem VS {n k:Nat}:DK n (ofNat k) = k % n:=by
  unfold DK
  rw [CA]
  have:ilt (ofNat (k % n)) 0 = false:=by simp [ilt]; omega
  rw [this]
  rfl
noncomputable def Zi:List V->T (V × List Blk):=Ha fun n f=>.br (AL n) (.br (Zh n f) (.leaf (.ref 0,[.row 44 6 n fun i=>eV (shG n f i)])) .fail) .fail
theorem p56:AB Try.prog Gl 56 Zi:=by
  refine A1 AQ AR Try.func56 (by kernel_rfl) (by kernel_rfl) fun vs v h' h=>?_
  obtain ⟨n,f,ha,h⟩:=CV h
  obtain ⟨hn,h⟩:=Ah h
  obtain ⟨hc,h⟩:=Ah h
  have:=Ad h
  simp only [Prod.mk.injEq] at this
  obtain ⟨rfl,rfl⟩:=this
  obtain ⟨a,hy⟩:=SH.1 hc
  have hhi:=hy.hi
  obtain ⟨z1,z2,z3,z4⟩:=Ts hy
  have hx:=AP ZY [(0,Wx n f)] (G:=Gl)
  have hL:=AD [(0,Wx n f)]
  refine ⟨_,AI Gl ZZ [(0,Wx n f)],_,ha,rfl,hx.1,hx.2,A3 (Aw hL hL) _ (w56 _ _ n f (F4 (fun i=>Ay (B1 n f i)) n+1) hn hy.may (An (AbW _ n f hn (by omega) _ z1 z2 z3 _ 0 _ (n+1) (Nat.zero_add _).symm (by omega)))),A6.one fun i hi=>?_⟩
  rw [U2 hi]
  unfold Jv shQ
  rw [VS]
def Kw (n:Nat) (g:Nat->E6) (x:Nat->Ev5) (lc:Int) (i:Nat):Bool:=Ag (ieq (x i).loc lc) (Au (g ((i+(n - 1)) % n)))
def Gz (n:Nat) (g:Nat->E6) (x:Nat->Ev5) (lc:Int):Int:=bif decide (F4 (Kw n g x lc) n < n) then ofNat (F4 (Kw n g x lc) n) else -1
noncomputable def Xh:List (Nat × (List V->T (V × List Blk))):=[(23,BN fun e=>bV (Au e))]
theorem ZS:AC Try.prog Gl Xh:=.cons p61 .nil
def lp95 (_:Int) (n:Nat) (_:Nat->E6) (_:Nat->Ev5) (_ _:Int) (_:Nat) (_:Nat->Int) (_:Nat) (_:Nat->Nat) (_:Nat->Nat->Int) (_:Int):Lp:=⟨(bmK 37 0 [1,2,4,5,6]),1,bmK 37 0 [4],0,n+1⟩
def st95 (a:Int) (n:Nat) (g:Nat->E6) (x:Nat->Ev5) (tt k0:Int) (nr:Nat) (r:Nat->Int) (nc:Nat) (ln:Nat->Nat) (co:Nat->Nat->Int) (lc:Int) (b:Nat) (j:Nat->V):St:=⟨(jsV 37 0 j [(1,iV lc),(2,.ptr 0 0),(4,iV 0),(5,nV n),(6,nV b)]),[.cells [iV a,.sl 6 n (fun i=>eV (g i)),.sl 5 n (fun i=>evV (x i)),iV tt,iV k0,.sl 1 nr (fun i=>iV (r i)),.sl 1 nc (fun k=>.sl 1 (ln k) (fun i=>iV (co k i)))]]⟩
def S6 (_:Int) (_:Nat) (_:Nat->E6) (_:Nat->Ev5) (_ _:Int) (_:Nat) (_:Nat->Int) (_:Nat) (_:Nat->Nat) (_:Nat->Nat->Int) (_:Int) (b:Nat):Ex × St:=(.rt,⟨(jsV 37 0 (fun _=>.und) [(4,nV b)]),[]⟩)
def S7 (_:Int) (_:Nat) (_:Nat->E6) (_:Nat->Ev5) (_ _:Int) (_:Nat) (_:Nat->Int) (_:Nat) (_:Nat->Nat) (_:Nat->Nat->Int) (_:Int) (_:Nat):Ex × St:=(.ex 0,⟨(jsV 37 0 (fun _=>.und) [(4,iV 0)]),[]⟩)
noncomputable def body95 (L:LT):St->T (Ex × St):=fun st=>AE tab ⟨Ao Xh,L,Gl⟩ (Az Try.f95 0) 0 st
section
variable (L:LT) (a:Int) (n:Nat) (g:Nat->E6) (x:Nat->Ev5) (tt k0:Int) (nr:Nat) (r:Nat->Int) (nc:Nat) (ln:Nat->Nat) (co:Nat->Nat->Int) (lc:Int) (b:Nat)  (j:Nat->V)
include L a n g x tt k0 nr r nc ln co lc b j
theorem AjR (h0:ilt (ofNat b) (ofNat n) = false):Al (body95 L) (lp95 a n g x tt k0 nr r nc ln co lc) (st95 a n g x tt k0 nr r nc ln co lc b j) = some ((.ex 0),⟨(jsV 37 0 (fun _=>.und) [(4,(iV 0))]),[]⟩):=Aa [false] [ilt (ofNat b) (ofNat n)] (by kernel_rfl) (by simp only [h0] <;> rfl)
theorem AjT (h0:ilt (ofNat b) (ofNat n) = true) (h14:ile 0 (ofNat b) = true) (h3:ieq ((x b)).loc lc = false):Al (body95 L) (lp95 a n g x tt k0 nr r nc ln co lc) (st95 a n g x tt k0 nr r nc ln co lc b j) = some (.nm,⟨(jsV 37 0 (fun _=>.und) [(1,(iV lc)),(2,(.ptr 0 0)),(4,(iV 0)),(5,(nV n)),(6,(iV (wr .i64 (Af (ofNat b) 1))))]),[.cells [iV a,.sl 6 n (fun i=>eV (g i)),.sl 5 n (fun i=>evV (x i)),iV tt,iV k0,.sl 1 nr (fun i=>iV (r i)),.sl 1 nc (fun k=>.sl 1 (ln k) (fun i=>iV (co k i)))]]⟩):=Aa (bbK 15 3) ((fun c0=>[ilt (ofNat b) (ofNat n),Ag (ile 0 (ofNat b)) (ilt (ofNat b) (ofNat n)),c0,c0,c0,c0,c0,c0,c0,c0,c0,c0,c0,c0,false]) (ieq ((x b)).loc lc)) (by kernel_rfl) (by simp only [*] <;> rfl)
theorem AjS (h0:ilt (ofNat b) (ofNat n) = true) (h15:ile 0 (ofNat b) = true) (h3:ieq ((x b)).loc lc = true) (h1:ieq (ofNat n) 0 = false) (h17:Ag (ile 0 (Ae (wr .i64 (AF (wr .i64 (Af (ofNat b) (ofNat n))) 1)) (ofNat n))) (ilt (Ae (wr .i64 (AF (wr .i64 (Af (ofNat b) (ofNat n))) 1)) (ofNat n)) (ofNat n)) = true) (h4:Au (g (toN (Ae (wr .i64 (AF (wr .i64 (Af (ofNat b) (ofNat n))) 1)) (ofNat n)))) = false):Al (body95 L) (lp95 a n g x tt k0 nr r nc ln co lc) (st95 a n g x tt k0 nr r nc ln co lc b j) = some (.nm,⟨(jsV 37 0 (fun _=>.und) [(1,(iV lc)),(2,(.ptr 0 0)),(4,(iV 0)),(5,(nV n)),(6,(iV (wr .i64 (Af (ofNat b) 1))))]),[.cells [iV a,.sl 6 n (fun i=>eV (g i)),.sl 5 n (fun i=>evV (x i)),iV tt,iV k0,.sl 1 nr (fun i=>iV (r i)),.sl 1 nc (fun k=>.sl 1 (ln k) (fun i=>iV (co k i)))]]⟩):=Aa (bbK 17 64511) ((fun c0=>[ilt (ofNat b) (ofNat n),Ag (ile 0 (ofNat b)) (ilt (ofNat b) (ofNat n)),c0,c0,c0,c0,c0,c0,c0,c0,ieq (ofNat n) 0,c0,Ag (ile 0 (Ae (wr .i64 (AF (wr .i64 (Af (ofNat b) (ofNat n))) 1)) (ofNat n))) (ilt (Ae (wr .i64 (AF (wr .i64 (Af (ofNat b) (ofNat n))) 1)) (ofNat n)) (ofNat n)),c0,c0,c0,Au (g (toN (Ae (wr .i64 (AF (wr .i64 (Af (ofNat b) (ofNat n))) 1)) (ofNat n))))]) (ieq ((x b)).loc lc)) (by kernel_rfl) (by simp only [h17] <;> simp only [*] <;> rfl)
theorem AjQ (h0:ilt (ofNat b) (ofNat n) = true) (h15:ile 0 (ofNat b) = true) (h3:ieq ((x b)).loc lc = true) (h1:ieq (ofNat n) 0 = false) (h17:Ag (ile 0 (Ae (wr .i64 (AF (wr .i64 (Af (ofNat b) (ofNat n))) 1)) (ofNat n))) (ilt (Ae (wr .i64 (AF (wr .i64 (Af (ofNat b) (ofNat n))) 1)) (ofNat n)) (ofNat n)) = true) (h4:Au (g (toN (Ae (wr .i64 (AF (wr .i64 (Af (ofNat b) (ofNat n))) 1)) (ofNat n)))) = true):Al (body95 L) (lp95 a n g x tt k0 nr r nc ln co lc) (st95 a n g x tt k0 nr r nc ln co lc b j) = some (.rt,⟨(jsV 37 0 (fun _=>.und) [(4,(nV b))]),[]⟩):=Aa (bbK 17 130047) ((fun c0=>[ilt (ofNat b) (ofNat n),Ag (ile 0 (ofNat b)) (ilt (ofNat b) (ofNat n)),c0,c0,c0,c0,c0,c0,c0,c0,ieq (ofNat n) 0,c0,Ag (ile 0 (Ae (wr .i64 (AF (wr .i64 (Af (ofNat b) (ofNat n))) 1)) (ofNat n))) (ilt (Ae (wr .i64 (AF (wr .i64 (Af (ofNat b) (ofNat n))) 1)) (ofNat n)) (ofNat n)),c0,c0,c0,Au (g (toN (Ae (wr .i64 (AF (wr .i64 (Af (ofNat b) (ofNat n))) 1)) (ofNat n))))]) (ieq ((x b)).loc lc)) (by kernel_rfl) (by simp only [h17] <;> simp only [*] <;> rfl)
end
def Abs (a:Int) (n:Nat) (g:Nat->E6) (x:Nat->Ev5) (tt k0:Int) (nr:Nat) (r:Nat->Int) (nc:Nat) (ln:Nat->Nat) (co:Nat->Nat->Int) (_:Int) :Nat->V:=lkV A8 [(0,(.agg [iV a,.sl 6 n (fun i=>eV (g i)),.sl 5 n (fun i=>evV (x i)),iV tt,iV k0,.sl 1 nr (fun i=>iV (r i)),.sl 1 nc (fun k=>.sl 1 (ln k) (fun i=>iV (co k i)))])),(7,(.ptr 0 1)),(8,(.sl 6 n (fun i=>eV (g i)))),(9,(nV n))]
section
variable (L:LT) (p0:PT) (a:Int) (n:Nat) (g:Nat->E6) (x:Nat->Ev5) (tt k0:Int) (nr:Nat) (r:Nat->Int) (nc:Nat) (ln:Nat->Nat) (co:Nat->Nat->Int) (lc:Int) (q:Nat)
include L p0 a n g x tt k0 nr r nc ln co lc q
theorem Ajd  (hp0:p0 (body95 (onP 0 p0 (S6 a n g x tt k0 nr r nc ln co lc q) L)) (st95 a n g x tt k0 nr r nc ln co lc 0 (Abs a n g x tt k0 nr r nc ln co lc )) = true):(As (Aj tab ⟨Ao Xh,onP 0 p0 (S6 a n g x tt k0 nr r nc ln co lc q) L,Gl⟩ Try.f95 [.agg [iV a,.sl 6 n (fun i=>eV (g i)),.sl 5 n (fun i=>evV (x i)),iV tt,iV k0,.sl 1 nr (fun i=>iV (r i)),.sl 1 nc (fun k=>.sl 1 (ln k) (fun i=>iV (co k i)))],iV lc] [])).sem = some ((nV q),[]):=Aa [true] [p0 (body95 (onP 0 p0 (S6 a n g x tt k0 nr r nc ln co lc q) L)) (st95 a n g x tt k0 nr r nc ln co lc 0 (Abs a n g x tt k0 nr r nc ln co lc ))] (by kernel_rfl) (by simp only [hp0] <;> rfl)
theorem Aje  (hp0:p0 (body95 (onP 0 p0 (S7 a n g x tt k0 nr r nc ln co lc q) L)) (st95 a n g x tt k0 nr r nc ln co lc 0 (Abs a n g x tt k0 nr r nc ln co lc )) = true):(As (Aj tab ⟨Ao Xh,onP 0 p0 (S7 a n g x tt k0 nr r nc ln co lc q) L,Gl⟩ Try.f95 [.agg [iV a,.sl 6 n (fun i=>eV (g i)),.sl 5 n (fun i=>evV (x i)),iV tt,iV k0,.sl 1 nr (fun i=>iV (r i)),.sl 1 nc (fun k=>.sl 1 (ln k) (fun i=>iV (co k i)))],iV lc] [])).sem = some ((iV (-1)),[]):=Aa [true] [p0 (body95 (onP 0 p0 (S7 a n g x tt k0 nr r nc ln co lc q) L)) (st95 a n g x tt k0 nr r nc ln co lc 0 (Abs a n g x tt k0 nr r nc ln co lc ))] (by kernel_rfl) (by simp only [hp0] <;> rfl)
end
theorem run95 (L:LT) (a:Int) (n:Nat) (g:Nat->E6) (x:Nat->Ev5) (tt k0:Int) (nr:Nat) (r:Nat->Int) (nc:Nat) (ln:Nat->Nat) (co:Nat->Nat->Int) (lc:Int) (hn:n <= 4611686018427387904):∀ (e b:Nat) (j:Nat->V) (q:Nat),n = b+e->e < q->(∀ k,k < b->Kw n g x lc k = false) ->
    ((A7 (body95 L) (lp95 a n g x tt k0 nr r nc ln co lc) q (st95 a n g x tt k0 nr r nc ln co lc b j)).sem = some (S7 a n g x tt k0 nr r nc ln co lc 0) ∧ Gz n g x lc = -1) ∨ ∃ i,(A7 (body95 L) (lp95 a n g x tt k0 nr r nc ln co lc) q (st95 a n g x tt k0 nr r nc ln co lc b j)).sem = some (S6 a n g x tt k0 nr r nc ln co lc i) ∧ Gz n g x lc = ofNat i
  | 0,b,j,q+1,h,_,hb=>by
    have:n = b:=by omega
    subst this
    refine .inl ⟨Ac (AjR L a n g x tt k0 nr r nc ln co lc n j (AA (Nat.le_refl _))),?_⟩
    unfold Gz
    rw [Lh hb]
    simp
  | e+1,b,j,q+1,h,h2,hb=>by
    have hl:b < n:=by omega
    have hx:=Jp (a:=b) (n:=n) (by omega) (by omega)
    have hlt:(b+(n - 1)) % n < n:=Nat.mod_lt _ (by omega)
    have hin:Ag (ile 0 (Ae (wr .i64 (AF (wr .i64 (Af (ofNat b) (ofNat n))) 1)) (ofNat n))) (ilt (Ae (wr .i64 (AF (wr .i64 (Af (ofNat b) (ofNat n))) 1)) (ofNat n)) (ofNat n)) = true:=by rw [hx]; exact Ax hlt
    have next:Kw n g x lc b = false->_:=fun hf=>run95 L a n g x tt k0 nr r nc ln co lc hn e (b+1) (fun _=>.und) q (by omega) (by omega) fun k hk=>by
      by_cases hki:k = b
      · rw [hki]; exact hf
      · exact hb k (by omega)
    cases h1:ieq (x b).loc lc with
    | false =>
      rw [Ac (AjT L a n g x tt k0 nr r nc ln co lc b j (ofNat_lt hl) (AH b) h1),Av,Aq hl (by omega)]
      exact next (by unfold Kw; rw [h1]; rfl)
    | true =>
      cases hm:Au (g ((b+(n - 1)) % n)) with
      | false =>
        rw [Ac (AjS L a n g x tt k0 nr r nc ln co lc b j (ofNat_lt hl) (AH b) h1 (F7 (by omega)) hin (by rw [hx]; exact hm)),Av,Aq hl (by omega)]
        exact next (by unfold Kw; rw [h1,hm]; rfl)
      | true =>
        refine .inr ⟨b,Ac (AjQ L a n g x tt k0 nr r nc ln co lc b j (ofNat_lt hl) (AH b) h1 (F7 (by omega)) hin (by rw [hx]; exact hm)),?_⟩
        unfold Gz
        rw [Kl hl (by unfold Kw; rw [h1,hm]; rfl) hb,decide_eq_true hl]
        rfl
def TX:List V->T (V × List Blk)
  | [v,.val (.int .i64 lc)]=>apS v fun s=>.br (AV s.nx s.ne) (.br (Ab s.ne) (.leaf (iV (Gz s.ne s.E s.X lc),[])) .fail) .fail
  | _=>.fail
theorem p95:AB Try.prog Gl 95 TX:=by
  refine A1 AQ AR Try.func95 (by kernel_rfl) (by kernel_rfl) fun vs v h' h=>?_
  unfold TX at h
  split at h
  · rename_i u lc
    obtain ⟨s,ha,h⟩:=Ci h
    obtain ⟨h1,h⟩:=Ah h
    obtain ⟨h2,h⟩:=Ah h
    have:=Ad h
    simp only [Prod.mk.injEq] at this
    obtain ⟨rfl,rfl⟩:=this
    obtain ⟨a,n,g,nx,x,tt,k0,nr,r,nc,C⟩:=s
    have h1:nx = n:=Nat.eq_of_beq_eq_true h1
    subst h1
    have h2:nx <= 4611686018427387904:=of_decide_eq_true h2
    have hA:Bw [u,iV lc] [.agg [iV a,.sl 6 nx (fun i=>eV (g i)),.sl 5 nx (fun i=>evV (x i)),iV tt,iV k0,.sl 1 nr (fun i=>iV (r i)),.sl 1 nc (fun k=>.sl 1 (C k).1 (fun i=>iV ((C k).2 i)))],iV lc]:=fun S w cs hv=>by
      obtain ⟨c,l,rfl,q1,q2⟩:=hv
      exact ⟨c,l,rfl,ha S w c q1,q2⟩
    have hx:=AP ZS [(0,lp95 a nx g x tt k0 nr r nc (fun k=>(C k).1) (fun k=>(C k).2) lc)] (G:=Gl)
    have hL:=AD [(0,lp95 a nx g x tt k0 nr r nc (fun k=>(C k).1) (fun k=>(C k).2) lc)]
    refine ⟨_,AI Gl Xh [(0,lp95 a nx g x tt k0 nr r nc (fun k=>(C k).1) (fun k=>(C k).2) lc)],_,hA,rfl,hx.1,hx.2,?_,A6.refl _⟩
    have h0:=fun L j=>run95 L a nx g x tt k0 nr r nc (fun k=>(C k).1) (fun k=>(C k).2) lc h2 nx 0 j (nx+1) (by omega) (by omega) (fun k hk=>absurd hk (Nat.not_lt_zero _))
    rcases h0 AaI (fun _=>.und) with ⟨_,h5⟩ | ⟨i,_,h5⟩
    · have h6:∀ L j,(A7 (body95 L) (lp95 a nx g x tt k0 nr r nc (fun k=>(C k).1) (fun k=>(C k).2) lc) (nx+1) (st95 a nx g x tt k0 nr r nc (fun k=>(C k).1) (fun k=>(C k).2) lc 0 j)).sem = some (S7 a nx g x tt k0 nr r nc (fun k=>(C k).1) (fun k=>(C k).2) lc 0):=fun L j=>by
        rcases h0 L j with ⟨h,_⟩ | ⟨i,_,h⟩
        · exact h
        · rw [h5] at h
          cases h
      rw [h5]
      exact A3 (Aw hL hL) _ (Aje _ _ a nx g x tt k0 nr r nc (fun k=>(C k).1) (fun k=>(C k).2) lc 0 (An (h6 _ _)))
    · have h6:∀ L j,(A7 (body95 L) (lp95 a nx g x tt k0 nr r nc (fun k=>(C k).1) (fun k=>(C k).2) lc) (nx+1) (st95 a nx g x tt k0 nr r nc (fun k=>(C k).1) (fun k=>(C k).2) lc 0 j)).sem = some (S6 a nx g x tt k0 nr r nc (fun k=>(C k).1) (fun k=>(C k).2) lc i):=fun L j=>by
        rcases h0 L j with ⟨_,h⟩ | ⟨i',h,h'⟩
        · rw [h5] at h
          cases h
        · rw [h5] at h'
          cases h'
          exact h
      rw [h5]
      exact A3 (Aw hL hL) _ (Ajd _ _ a nx g x tt k0 nr r nc (fun k=>(C k).1) (fun k=>(C k).2) lc i (An (h6 _ _)))
  · cases h
noncomputable def Tj:List (Nat × (List V->T (V × List Blk))):=[(95,TX)]
theorem Uy:AC Try.prog Gl Tj:=.cons p95 .nil
def NQ (a:Int) (n k kk:Nat) (g:Nat->E6) (th lo:Nat->Int) (tt:Int) (c0:Nat->V) (x0:Nat->Ev5) (r0:Nat->Int) (ln:Nat->Nat) (co:Nat->Nat->Int) (ts:List V) :St:=⟨(jsV 79 0 (fun _=>A8) [(0,(.agg [iV a,.ref 1,.ref 5,iV tt,nV kk,.ref 6,.jref 7])),(1,(nV k)),(2,(.ptr 9 0)),(4,(.ptr 10 0)),(5,(.ref 11)),(6,(nV n)),(7,(iV (Gz n g x0 (ofNat k)))),(8,(iV (-1))),(9,(iV 0)),(11,(.ptr 9 1)),(12,(.ref 1)),(13,(nV n)),(14,(.agg [iV a,.ref 1,.ref 5,iV tt,nV kk,.ref 6,.jref 7])),(15,(nV k)),(16,(iV (Gz n g x0 (ofNat k))))]),[c7Z,.row 44 6 n (fun i=>eV (g i)),.row 3 1 n (fun i=>iV (th i)),.row 3 1 n (fun i=>iV (lo i)),.cells [iV a,.ref 1,.ref 5,iV tt,nV kk,.ref 6,.jref 7],.row 40 5 n (fun i=>evV (x0 i)),.row 3 1 n (fun i=>iV (r0 i)),.jag (Jag.mk 25 1 k c0 0 3 1 (fun _=>true) ln (fun i q=>iV (co i q))),.saved ts,.cells [iV a,.ref 1,.ref 5,iV tt,nV kk,.ref 6,.jref 7],c7Z,r3Z]⟩
def N3 (_:Int) (_ _ _:Nat) (_:Nat->E6) (_ _:Nat->Int) (_:Int) (_:Nat->V) (_:Nat->Ev5) (_:Nat->Int) (_:Nat->Nat) (_:Nat->Nat->Int) (_:List V):Lp:=⟨(bmK 79 0 [1,2,4,5,6,7,8,9]),12,bmK 79 0 [2,4,5],12,17⟩
def Wa (a:Int) (n k kk:Nat) (g:Nat->E6) (th lo:Nat->Int) (tt:Int) (c0:Nat->V) (_:Nat->Ev5) (_:Nat->Int) (ln:Nat->Nat) (co:Nat->Nat->Int) (ts:List V) (b m:Nat) (z la:Int) (x:Nat->Ev5) (r w:Nat->Int) (j:Nat->V):St:=⟨(jsV 79 0 j [(1,nV k),(2,.ptr 9 0),(4,.ptr 10 0),(5,.ref 11),(6,nV n),(7,iV z),(8,iV la),(9,nV b)]),[c7Z,.row 44 6 n (fun i=>eV (g i)),.row 3 1 n (fun i=>iV (th i)),.row 3 1 n (fun i=>iV (lo i)),.cells [iV a,.ref 1,.ref 5,iV tt,nV kk,.ref 6,.jref 7],.row 40 5 n (fun i=>evV (x i)),.row 3 1 n (fun i=>iV (r i)),.jag (Jag.mk 25 1 k c0 0 3 1 (fun _=>true) ln (fun i q=>iV (co i q))),.saved ts,.cells [iV a,.ref 1,.ref 5,iV tt,nV kk,.ref 6,.jref 7],c7Z,.row 3 1 m (fun i=>iV (w i))]⟩
def J4 (a:Int) (n k kk:Nat) (g:Nat->E6) (th lo:Nat->Int) (tt:Int) (c0:Nat->V) (_:Nat->Ev5) (_:Nat->Int) (ln:Nat->Nat) (co:Nat->Nat->Int) (ts:List V) (_ m:Nat) (_ _:Int) (x:Nat->Ev5) (r w:Nat->Int):Ex × St:=(.ex 0,⟨(jsV 79 0 (fun _=>.und) [(2,.ptr 9 0),(4,.ptr 10 0),(5,.ref 11)]),[c7Z,.row 44 6 n (fun i=>eV (g i)),.row 3 1 n (fun i=>iV (th i)),.row 3 1 n (fun i=>iV (lo i)),.cells [iV a,.ref 1,.ref 5,iV tt,nV kk,.ref 6,.jref 7],.row 40 5 n (fun i=>evV (x i)),.row 3 1 n (fun i=>iV (r i)),.jag (Jag.mk 25 1 k c0 0 3 1 (fun _=>true) ln (fun i q=>iV (co i q))),.saved ts,.cells [iV a,.ref 1,.ref 5,iV tt,nV kk,.ref 6,.jref 7],c7Z,.row 3 1 m (fun i=>iV (w i))]⟩)
noncomputable def I3 (L:LT):St->T (Ex × St):=fun st=>AE tab ⟨Ao Tj,L,Gl⟩ (Az Try.f59 0) 0 st
section
variable (L:LT) (a:Int) (n k kk:Nat) (g:Nat->E6) (th lo:Nat->Int) (tt:Int) (c0:Nat->V) (x0:Nat->Ev5) (r0:Nat->Int) (ln:Nat->Nat) (co:Nat->Nat->Int) (ts:List V) (b m:Nat) (z la:Int) (x:Nat->Ev5) (r w:Nat->Int)  (j:Nat->V)
include L a n k kk g th lo tt c0 x0 r0 ln co ts b m z la x r w j
theorem Ahh (h0:ilt (ofNat b) (ofNat n) = false):Al (I3 L) (N3 a n k kk g th lo tt c0 x0 r0 ln co ts) (Wa a n k kk g th lo tt c0 x0 r0 ln co ts b m z la x r w j) = some ((.ex 0),⟨(jsV 79 0 (fun _=>.und) [(2,(.ptr 9 0)),(4,(.ptr 10 0)),(5,(.ref 11))]),[c7Z,.row 44 6 n (fun i=>eV (g i)),.row 3 1 n (fun i=>iV (th i)),.row 3 1 n (fun i=>iV (lo i)),.cells [iV a,.ref 1,.ref 5,iV tt,nV kk,.ref 6,.jref 7],.row 40 5 n (fun i=>evV (x i)),.row 3 1 n (fun i=>iV (r i)),.jag (Jag.mk 25 1 k c0 0 3 1 (fun _=>true) ln (fun i q=>iV (co i q))),.saved (Cb 12 ts),.cells [iV a,.ref 1,.ref 5,iV tt,nV kk,.ref 6,.jref 7],c7Z,.row 3 1 m (fun i=>iV (w i))]⟩):=Aa (bbK 14 0) ((fun c0=>[c0,c0,c0,c0,c0,c0,c0,c0,c0,c0,c0,c0,c0,false]) (ilt (ofNat b) (ofNat n))) (by kernel_rfl) (by simp only [h0] <;> rfl)
theorem Ahe (h0:ilt (ofNat b) (ofNat n) = true) (h1:ieq (ofNat n) 0 = false) (h19:Ag (ile 0 (Ae (wr .i64 (Af z (ofNat b))) (ofNat n))) (ilt (Ae (wr .i64 (Af z (ofNat b))) (ofNat n)) (ofNat n)) = true) (h2:nlt (toN (Ae (wr .i64 (Af z (ofNat b))) (ofNat n))) n = true) (h3:ieq ((x (toN (Ae (wr .i64 (Af z (ofNat b))) (ofNat n))))).loc (ofNat k) = false):Al (I3 L) (N3 a n k kk g th lo tt c0 x0 r0 ln co ts) (Wa a n k kk g th lo tt c0 x0 r0 ln co ts b m z la x r w j) = some ((.ex 0),⟨(jsV 79 0 (fun _=>.und) [(2,(.ptr 9 0)),(4,(.ptr 10 0)),(5,(.ref 11))]),[c7Z,.row 44 6 n (fun i=>eV (g i)),.row 3 1 n (fun i=>iV (th i)),.row 3 1 n (fun i=>iV (lo i)),.cells [iV a,.ref 1,.ref 5,iV tt,nV kk,.ref 6,.jref 7],.row 40 5 n (fun i=>evV (x i)),.row 3 1 n (fun i=>iV (r i)),.jag (Jag.mk 25 1 k c0 0 3 1 (fun _=>true) ln (fun i q=>iV (co i q))),.saved (Cb 12 ts),.cells [iV a,.ref 1,.ref 5,iV tt,nV kk,.ref 6,.jref 7],c7Z,.row 3 1 m (fun i=>iV (w i))]⟩):=Aa (bbK 17 65407) ((fun c0=>[c0,c0,c0,c0,c0,c0,c0,ieq (ofNat n) 0,c0,Ag (ile 0 (Ae (wr .i64 (Af z (ofNat b))) (ofNat n))) (ilt (Ae (wr .i64 (Af z (ofNat b))) (ofNat n)) (ofNat n)),c0,c0,nlt (toN (Ae (wr .i64 (Af z (ofNat b))) (ofNat n))) n,c0,c0,c0,ieq ((x (toN (Ae (wr .i64 (Af z (ofNat b))) (ofNat n))))).loc (ofNat k)]) (ilt (ofNat b) (ofNat n))) (by kernel_rfl) (by simp only [h19] <;> simp only [*] <;> rfl)
theorem Ahg (h0:ilt (ofNat b) (ofNat n) = true) (h1:ieq (ofNat n) 0 = false) (h20:Ag (ile 0 (Ae (wr .i64 (Af z (ofNat b))) (ofNat n))) (ilt (Ae (wr .i64 (Af z (ofNat b))) (ofNat n)) (ofNat n)) = true) (h2:nlt (toN (Ae (wr .i64 (Af z (ofNat b))) (ofNat n))) n = true) (h3:ieq ((x (toN (Ae (wr .i64 (Af z (ofNat b))) (ofNat n))))).loc (ofNat k) = true) (h4:ieq ((x (toN (Ae (wr .i64 (Af z (ofNat b))) (ofNat n))))).dir 2 = false):Al (I3 L) (N3 a n k kk g th lo tt c0 x0 r0 ln co ts) (Wa a n k kk g th lo tt c0 x0 r0 ln co ts b m z la x r w j) = some (.nm,⟨(jsV 79 0 (fun _=>.und) [(1,(nV k)),(2,(.ptr 9 0)),(4,(.ptr 10 0)),(5,(.ref 11)),(6,(nV n)),(7,(iV z)),(8,(iV la)),(9,(iV (wr .i64 (Af (ofNat b) 1))))]),[c7Z,.row 44 6 n (fun i=>eV (g i)),.row 3 1 n (fun i=>iV (th i)),.row 3 1 n (fun i=>iV (lo i)),.cells [iV a,.ref 1,.ref 5,iV tt,nV kk,.ref 6,.jref 7],.row 40 5 n (fun i=>.agg [iV (sel (AV i (toN (Ae (wr .i64 (Af z (ofNat b))) (ofNat n)))) ((x (toN (Ae (wr .i64 (Af z (ofNat b))) (ofNat n))))).th ((x i)).th),iV (sel (AV i (toN (Ae (wr .i64 (Af z (ofNat b))) (ofNat n)))) ((x (toN (Ae (wr .i64 (Af z (ofNat b))) (ofNat n))))).pl ((x i)).pl),iV (sel (AV i (toN (Ae (wr .i64 (Af z (ofNat b))) (ofNat n)))) ((x (toN (Ae (wr .i64 (Af z (ofNat b))) (ofNat n))))).dir ((x i)).dir),iV (sel (AV i (toN (Ae (wr .i64 (Af z (ofNat b))) (ofNat n)))) ((x (toN (Ae (wr .i64 (Af z (ofNat b))) (ofNat n))))).loc ((x i)).loc),iV (sel (AV i (toN (Ae (wr .i64 (Af z (ofNat b))) (ofNat n)))) (ofNat m) ((x i)).val)]),.row 3 1 n (Bs (fun i=>iV (r i)) (toN (Ae (wr .i64 (Af z (ofNat b))) (ofNat n))) (iV la)),.jag (Jag.mk 25 1 k c0 0 3 1 (fun _=>true) ln (fun i q=>iV (co i q))),.saved (Cb 12 ts),.cells [iV a,.ref 1,.ref 5,iV tt,nV kk,.ref 6,.jref 7],c7Z,.row 3 1 m (fun i=>iV (w i))]⟩):=Aa (bbK 25 32374655) ((fun c0 c1 c2 c3=>[c0,c0,c0,c0,c0,c0,c0,c1,c0,c2,c0,c0,c3,c0,c0,c0,ieq ((x (toN (Ae (wr .i64 (Af z (ofNat b))) (ofNat n))))).loc (ofNat k),c1,c2,c3,ieq ((x (toN (Ae (wr .i64 (Af z (ofNat b))) (ofNat n))))).dir 2,c2,c3,c2,c3]) (ilt (ofNat b) (ofNat n)) (ieq (ofNat n) 0) (Ag (ile 0 (Ae (wr .i64 (Af z (ofNat b))) (ofNat n))) (ilt (Ae (wr .i64 (Af z (ofNat b))) (ofNat n)) (ofNat n))) (nlt (toN (Ae (wr .i64 (Af z (ofNat b))) (ofNat n))) n)) (by kernel_rfl) (by simp only [h20] <;> simp only [*] <;> rfl)
theorem Ahf (h0:ilt (ofNat b) (ofNat n) = true) (h1:ieq (ofNat n) 0 = false) (h20:Ag (ile 0 (Ae (wr .i64 (Af z (ofNat b))) (ofNat n))) (ilt (Ae (wr .i64 (Af z (ofNat b))) (ofNat n)) (ofNat n)) = true) (h2:nlt (toN (Ae (wr .i64 (Af z (ofNat b))) (ofNat n))) n = true) (h3:ieq ((x (toN (Ae (wr .i64 (Af z (ofNat b))) (ofNat n))))).loc (ofNat k) = true) (h4:ieq ((x (toN (Ae (wr .i64 (Af z (ofNat b))) (ofNat n))))).dir 2 = true) (h21:AN m 1 8 = true):Al (I3 L) (N3 a n k kk g th lo tt c0 x0 r0 ln co ts) (Wa a n k kk g th lo tt c0 x0 r0 ln co ts b m z la x r w j) = some (.nm,⟨(jsV 79 0 (fun _=>.und) [(1,(nV k)),(2,(.ptr 9 0)),(4,(.ptr 10 0)),(5,(.ref 11)),(6,(nV n)),(7,(iV z)),(8,(iV (Ae (wr .i64 (Af z (ofNat b))) (ofNat n)))),(9,(iV (wr .i64 (Af (ofNat b) 1))))]),[c7Z,.row 44 6 n (fun i=>eV (g i)),.row 3 1 n (fun i=>iV (th i)),.row 3 1 n (fun i=>iV (lo i)),.cells [iV a,.ref 1,.ref 5,iV tt,nV kk,.ref 6,.jref 7],.row 40 5 n (fun i=>.agg [iV (sel (AV i (toN (Ae (wr .i64 (Af z (ofNat b))) (ofNat n)))) ((x (toN (Ae (wr .i64 (Af z (ofNat b))) (ofNat n))))).th ((x i)).th),iV (sel (AV i (toN (Ae (wr .i64 (Af z (ofNat b))) (ofNat n)))) ((x (toN (Ae (wr .i64 (Af z (ofNat b))) (ofNat n))))).pl ((x i)).pl),iV (sel (AV i (toN (Ae (wr .i64 (Af z (ofNat b))) (ofNat n)))) ((x (toN (Ae (wr .i64 (Af z (ofNat b))) (ofNat n))))).dir ((x i)).dir),iV (sel (AV i (toN (Ae (wr .i64 (Af z (ofNat b))) (ofNat n)))) ((x (toN (Ae (wr .i64 (Af z (ofNat b))) (ofNat n))))).loc ((x i)).loc),iV (sel (AV i (toN (Ae (wr .i64 (Af z (ofNat b))) (ofNat n)))) (ofNat (Bj m 1)) ((x i)).val)]),.row 3 1 n (fun i=>iV (r i)),.jag (Jag.mk 25 1 k c0 0 3 1 (fun _=>true) ln (fun i q=>iV (co i q))),.saved (Cb 12 (kill.kills 11 ts)),.cells [iV a,.ref 1,.ref 5,iV tt,nV kk,.ref 6,.jref 7],c7Z,.row 3 1 (Bj m 1) (AO m (fun i=>iV (w i)) (iV (Ae (wr .i64 (Af z (ofNat b))) (ofNat n))))]⟩):=Aa (bbK 24 16646015) ((fun c0 c1 c2 c3=>[c0,c0,c0,c0,c0,c0,c0,c1,c0,c2,c0,c0,c3,c0,c0,c0,ieq ((x (toN (Ae (wr .i64 (Af z (ofNat b))) (ofNat n))))).loc (ofNat k),c1,c2,c3,ieq ((x (toN (Ae (wr .i64 (Af z (ofNat b))) (ofNat n))))).dir 2,AN m 1 8,c2,c3]) (ilt (ofNat b) (ofNat n)) (ieq (ofNat n) 0) (Ag (ile 0 (Ae (wr .i64 (Af z (ofNat b))) (ofNat n))) (ilt (Ae (wr .i64 (Af z (ofNat b))) (ofNat n)) (ofNat n))) (nlt (toN (Ae (wr .i64 (Af z (ofNat b))) (ofNat n))) n)) (by kernel_rfl) (by simp only [h20] <;> simp only [*] <;> rfl)
end
theorem AiV (L:LT) (p0:PT) (a:Int) (n k kk:Nat) (g:Nat->E6) (th lo:Nat->Int) (tt:Int) (c0:Nat->V) (x0:Nat->Ev5) (r0:Nat->Int) (ln:Nat->Nat) (co:Nat->Nat->Int) (ts:List V) (us:List V) (b m:Nat) (z la:Int) (x:Nat->Ev5) (r w:Nat->Int) (h14:AU [.jag (Jag.mk 25 1 k (fun _=>.und) 0 3 1 (fun _=>true) (fun _=>0) (fun _ _=>.und))] = true) (h15:Ai k (fun i=>Ai (ln i) (fun _=>true)) = true) (h16:Ab n = true) (h17:AN k 1 24 = true) (hp0:p0 (I3 (onP 0 p0 (J4 a n k kk g th lo tt c0 x0 r0 ln co us b m z la x r w) L)) (NQ a n k kk g th lo tt c0 x0 r0 ln co ts) = true):(Aj tab ⟨Ao Tj,onP 0 p0 (J4 a n k kk g th lo tt c0 x0 r0 ln co us b m z la x r w) L,Gl⟩ Try.f59 [.agg [iV a,.ref 1,.ref 5,iV tt,nV kk,.ref 6,.jref 7],nV k] [c7Z,.row 44 6 n (fun i=>eV (g i)),.row 3 1 n (fun i=>iV (th i)),.row 3 1 n (fun i=>iV (lo i)),.cells [iV a,.ref 1,.ref 5,iV tt,nV kk,.ref 6,.jref 7],.row 40 5 n (fun i=>evV (x0 i)),.row 3 1 n (fun i=>iV (r0 i)),.jag (Jag.mk 25 1 k c0 0 3 1 (fun _=>true) ln (fun i q=>iV (co i q))),.saved ts]).sem = some ((.agg [iV a,.ref 1,.ref 5,iV tt,nV kk,.ref 6,.jref 7]),[c7Z,.row 44 6 n (fun i=>eV (g i)),.row 3 1 n (fun i=>iV (th i)),.row 3 1 n (fun i=>iV (lo i)),.cells [iV a,.ref 1,.ref 5,iV tt,nV kk,.ref 6,.und],.row 40 5 n (fun i=>evV (x i)),.row 3 1 n (fun i=>iV (r i)),.jag (Jag.mk 25 1 (Bj k 1) (AO k c0 .und) 0 3 1 (fun i=>sel (AV i k) true true) (fun i=>sel (AV i k) m (ln i)) (fun i i_1=>DE (fun i_2 i_3=>iV (co i_2 i_3)) k (fun i_2=>iV (w i_2)) i i_1)),.saved (kill.kills 7 (kill.kills 12 (kill.kills 11 us))),.cells [iV a,.ref 1,.ref 5,iV tt,nV kk,.ref 6,.jref 7],.cells [iV a,.ref 1,.ref 5,iV tt,nV kk,.ref 6,.jref 7],.dead,.dead]):=Aa (bbK 10 1023) [AU [.jag (Jag.mk 25 1 k (fun _=>.und) 0 3 1 (fun _=>true) (fun _=>0) (fun _ _=>.und))],Ai n (fun _=>true),Ai n (fun _=>true),Ai n (fun _=>true),Ai k (fun i=>Ai (ln i) (fun _=>true)),AV n n,Ab n,p0 (I3 (onP 0 p0 (J4 a n k kk g th lo tt c0 x0 r0 ln co us b m z la x r w) L)) (NQ a n k kk g th lo tt c0 x0 r0 ln co ts),true,AN k 1 24] (by kernel_rfl) (by simp only [hp0] <;> simp only [*,Ar,CF] <;> rfl)
theorem TI {p q:Nat->Bool} {n:Nat} (h:∀ i,i < n->p i = q i):F4 p n = F4 q n:=by
  by_cases hp:∃ k,k < n ∧ p k = true
  · obtain ⟨k,hk,hpk⟩:=hp
    obtain ⟨h1,h2,h3⟩:=Fr hk hpk
    exact (Kl (p:=q) (by omega) (by rw [<- h _ (by omega)]; exact h2) (fun i hi=>by rw [<- h i (by omega)]; exact h3 i hi)).symm
  · have h1:∀ i,i < n->p i = false:=fun i hi=>by
      cases hpi:p i with
      | false=>rfl
      | true=>exact absurd ⟨i,hi,hpi⟩ hp
    rw [Lh h1,Lh fun i hi=>by rw [<- h i hi]; exact h1 i hi]
theorem W7 {n:Nat} {g:Nat->E6} {d:Nat->Bool} {k:Nat} (hk:k < kkN n g):Gz n g (evF n g d) (ofNat k) = ofNat (stN (mbF g) n k):=by
  have:F4 (Kw n g (evF n g d) (ofNat k)) n = stN (mbF g) n k:=TI fun i hi=>by
    unfold Kw
    rw [CX hi,Abl hi,Dt,Bool.and_comm]
    rfl
  unfold Gz
  rw [this,decide_eq_true (G6 hk).1]
  rfl
def wvF (n:Nat) (g:Nat->E6) (z b q:Nat):Int:=if q < wcN (wrF g) n z b then ofNat (coN (mbF g) (wrF g) n (loN n g z) q) else 0
theorem WT {n:Nat} {g:Nat->E6} {z b:Nat} (hz:z < n) (hst:CN (mbF g) n z = true) (hb:b < n) (hw:wrF g (rnd n z b) = true) :
    AO (wcN (wrF g) n z b) (fun i=>iV (wvF n g z b i)) (iV (ofNat (rnd n z b))) = fun i=>iV (wvF n g z (b+1) i):=by
  funext q
  rw [B4]
  have h2:stN (mbF g) n (loN n g z) = z:=Xv hz hst
  unfold wvF
  rw [SY hw]
  by_cases hq:q = wcN (wrF g) n z b
  · subst hq
    rw [Nat.beq_refl,if_pos (Nat.lt_succ_self _)]
    unfold coN
    rw [h2,Ut hb hw]
    rfl
  · rw [nbeq_ne hq]
    by_cases h3:q < wcN (wrF g) n z b
    · rw [if_pos h3,if_pos (by omega)]; rfl
    · rw [if_neg h3,if_neg (by omega)]; rfl
theorem WS {n:Nat} {g:Nat->E6} {z b:Nat} (hw:wrF g (rnd n z b) = false):wvF n g z (b+1) = wvF n g z b:=by
  funext q
  unfold wvF
  rw [SZ hw]
def EO (F:V->V):Prop:=(∀ k x,F (.val (.int k x)) = .val (.int k x)) ∧ ∀ i o,i < 7->F (.ptr i o) = .ptr i o
theorem EO.comp {F G:V->V} (hF:EO F) (hG:EO G):EO (fun v=>G (F v)):=⟨fun k x=>by show G (F _) = _; rw [hF.1,hG.1],fun i o h=>by show G (F _) = _; rw [hF.2 i o h,hG.2 i o h]⟩
theorem ES:EO (Gc 12):=⟨fun _ _=>rfl,fun i o h=>by
  unfold Gc Mh
  rw [show Nat.blt i 12 = true from Nat.ble_eq_true_of_le (by omega)]⟩
theorem E7 (id:Nat):EO (kill id):=⟨fun _ _=>rfl,fun _ _ _=>rfl⟩
theorem Ahi (a:Int) (n z:Nat) (g:Nat->E6) (th lo:Nat->Int) (tt:Int) (c0:Nat->V) (x0:Nat->Ev5) (r0:Nat->Int) (ln:Nat->Nat) (co:Nat->Nat->Int) (hz:z < n) (hst:CN (mbF g) n z = true) (h8:n <= 16) :
    ∀ (e b:Nat) (q:Nat),C0 (mbF g) n z = b+e->e < q->∃ F,EO F ∧ ∀ (L:LT) (ts0 ts:List V) (j:Nat->V),
    (A7 (I3 L) (N3 a n (loN n g z) (kkN n g) g th lo tt c0 x0 r0 ln co ts0) q (Wa a n (loN n g z) (kkN n g) g th lo tt c0 x0 r0 ln co ts b (wcN (wrF g) n z b) (ofNat z) (wlN (wrF g) n z b) (evF n g (dnF n g (loN n g) (loN n g z) b)) (rfF n g (dnF n g (loN n g) (loN n g z) b)) (wvF n g z b) j)).sem
      = some (J4 a n (loN n g z) (kkN n g) g th lo tt c0 x0 r0 ln co (ts.map F) 0 (wcN (wrF g) n z (C0 (mbF g) n z)) 0 0 (evF n g (dnF n g (loN n g) (loN n g z+1) 0)) (rfF n g (dnF n g (loN n g) (loN n g z+1) 0)) (wvF n g z (C0 (mbF g) n z))):=by
  intro e
  have hrk:Rank (mbF g) n (loN n g):=KZ (mbF g) n
  obtain ⟨l1,l2,l3,l4⟩:=EH hz hst
  have hkk:=It hz hst
  have hwc:∀ b,b <= n->wcN (wrF g) n z b <= n:=fun b hb=>Nat.le_trans (Be _ _) hb
  induction e with
  | zero =>
    intro b q hb hq
    obtain ⟨q,rfl⟩:∃ q',q = q'+1:=⟨q - 1,by omega⟩
    have hbl:C0 (mbF g) n z = b:=by omega
    have hde:=VD hrk hz hst
    rw [hbl] at hde
    refine ⟨_,ES,fun L ts0 ts j=>?_⟩
    rw [<- hde,hbl,show N3 a n (loN n g z) (kkN n g) g th lo tt c0 x0 r0 ln co ts0 = N3 a n (loN n g z) (kkN n g) g th lo tt c0 x0 r0 ln co ts from rfl]
    by_cases hbn:b = n
    · rw [Ac (Ahh L a n (loN n g z) (kkN n g) g th lo tt c0 x0 r0 ln co ts b (wcN (wrF g) n z b) (ofNat z) (wlN (wrF g) n z b) (evF n g (dnF n g (loN n g) (loN n g z) b)) (rfF n g (dnF n g (loN n g) (loN n g z) b)) (wvF n g z b) j (AA (by omega))),Qw,B7]
      rfl
    · have hbn:b < n:=by omega
      have hX:(Ae (wr .i64 (Af (ofNat z) (ofNat b))) (ofNat n)) = ofNat (rnd n z b):=by rw [DD (by omega),CA]; rfl
      have hlt:rnd n z b < n:=Gu (by omega)
      have hin:Ag (ile 0 (Ae (wr .i64 (Af (ofNat z) (ofNat b))) (ofNat n))) (ilt (Ae (wr .i64 (Af (ofNat z) (ofNat b))) (ofNat n)) (ofNat n)) = true:=by rw [hX]; exact Ax hlt
      have hnl:nlt (toN (Ae (wr .i64 (Af (ofNat z) (ofNat b))) (ofNat n))) n = true:=by rw [hX]; exact decide_eq_true hlt
      have hlc:ieq (evF n g (dnF n g (loN n g) (loN n g z) b) (toN (Ae (wr .i64 (Af (ofNat z) (ofNat b))) (ofNat n)))).loc (ofNat (loN n g z)) = false:=by
        rw [hX,show toN (ofNat (rnd n z b)) = rnd n z b from rfl,CX hlt]
        show ieq (loF n g (rnd n z b)) _ = false
        rw [Abl hlt,Dt]
        apply decide_eq_false
        have hs:CN (mbF g) n (rnd n z b) = true:=by
          unfold CN
          rw [Hj,show b+(n - 1) = (b - 1)+n by omega,R2,<- hbl]
          exact l3
        intro he
        have h2:=(KZ (mbF g) n).apart hlt hz hs hst he
        have h3:rnd n z b = rnd n z 0:=by rw [h2,R3 hz]
        have:=Aaw hz hbn (by omega) h3
        omega
      rw [Ac (Ahe L a n (loN n g z) (kkN n g) g th lo tt c0 x0 r0 ln co ts b (wcN (wrF g) n z b) (ofNat z) (wlN (wrF g) n z b) (evF n g (dnF n g (loN n g) (loN n g z) b)) (rfF n g (dnF n g (loN n g) (loN n g z) b)) (wvF n g z b) j (ofNat_lt hbn) (F7 (by omega)) hin hnl hlc),Qw,B7]
      rfl
  | succ e ih =>
    intro b q hb hq
    obtain ⟨q,rfl⟩:∃ q',q = q'+1:=⟨q - 1,by omega⟩
    have hbn:b < n:=by omega
    have hbl:b < C0 (mbF g) n z:=by omega
    have hX:(Ae (wr .i64 (Af (ofNat z) (ofNat b))) (ofNat n)) = ofNat (rnd n z b):=by rw [DD (by omega),CA]; rfl
    have hlt:rnd n z b < n:=Gu (by omega)
    have hin:Ag (ile 0 (Ae (wr .i64 (Af (ofNat z) (ofNat b))) (ofNat n))) (ilt (Ae (wr .i64 (Af (ofNat z) (ofNat b))) (ofNat n)) (ofNat n)) = true:=by rw [hX]; exact Ax hlt
    have hnl:nlt (toN (Ae (wr .i64 (Af (ofNat z) (ofNat b))) (ofNat n))) n = true:=by rw [hX]; exact decide_eq_true hlt
    have hap:AN (wcN (wrF g) n z b) 1 8 = true:=by
      have:=hwc b (by omega)
      exact C6 (by omega)
    have hdn:=Oe hrk hz hst hbl
    have hin':=GI hz hst hbl
    have hv:=Tb (w:=wrF g) hin'
    have hlc:ieq (evF n g (dnF n g (loN n g) (loN n g z) b) (toN (Ae (wr .i64 (Af (ofNat z) (ofNat b))) (ofNat n)))).loc (ofNat (loN n g z)) = true:=by
      rw [hX,show toN (ofNat (rnd n z b)) = rnd n z b from rfl,CX hlt]
      show ieq (loF n g (rnd n z b)) _ = true
      rw [Abl hlt,hrk.same hin',Dt]
      exact decide_eq_true rfl
    cases hw:wrF g (rnd n z b) with
    | true =>
      have hW:ieq (evF n g (dnF n g (loN n g) (loN n g z) b) (toN (Ae (wr .i64 (Af (ofNat z) (ofNat b))) (ofNat n)))).dir 2 = true:=by rw [hX,show toN (ofNat (rnd n z b)) = rnd n z b from rfl,CX hlt]; exact hw
      obtain ⟨F,hF,h⟩:=ih (b+1) q (by omega) (by omega)
      refine ⟨_,(((E7 11).comp ES).comp hF),fun L ts0 ts j=>?_⟩
      have h:=h L ts (Cb 12 (kill.kills 11 ts)) (fun _=>.und)
      rw [show N3 a n (loN n g z) (kkN n g) g th lo tt c0 x0 r0 ln co ts0 = N3 a n (loN n g z) (kkN n g) g th lo tt c0 x0 r0 ln co ts from rfl,Ac (Ahf L a n (loN n g z) (kkN n g) g th lo tt c0 x0 r0 ln co ts b (wcN (wrF g) n z b) (ofNat z) (wlN (wrF g) n z b) (evF n g (dnF n g (loN n g) (loN n g z) b)) (rfF n g (dnF n g (loN n g) (loN n g z) b)) (wvF n g z b) j (ofNat_lt hbn) (F7 (by omega)) hin hnl hlc hW hap),Av]
      rw [hX,Aq hbn (by omega),show toN (ofNat (rnd n z b)) = rnd n z b from rfl,show Bj (wcN (wrF g) n z b) 1 = wcN (wrF g) n z b+1 from rfl,Lv hlt hdn (by rw [hv,SY hw]),WT hz hst hbn hw,<- PW hdn hw]
      rw [Agd hw,SY hw,B7,Ct,List.map_map,List.map_map] at h
      rw [B7,Ct,List.map_map]
      exact h
    | false =>
      have hW:ieq (evF n g (dnF n g (loN n g) (loN n g z) b) (toN (Ae (wr .i64 (Af (ofNat z) (ofNat b))) (ofNat n)))).dir 2 = false:=by rw [hX,show toN (ofNat (rnd n z b)) = rnd n z b from rfl,CX hlt]; exact hw
      obtain ⟨F,hF,h⟩:=ih (b+1) q (by omega) (by omega)
      refine ⟨_,(ES.comp hF),fun L ts0 ts j=>?_⟩
      have h:=h L ts (Cb 12 ts) (fun _=>.und)
      rw [show N3 a n (loN n g z) (kkN n g) g th lo tt c0 x0 r0 ln co ts0 = N3 a n (loN n g z) (kkN n g) g th lo tt c0 x0 r0 ln co ts from rfl,Ac (Ahg L a n (loN n g z) (kkN n g) g th lo tt c0 x0 r0 ln co ts b (wcN (wrF g) n z b) (ofNat z) (wlN (wrF g) n z b) (evF n g (dnF n g (loN n g) (loN n g z) b)) (rfF n g (dnF n g (loN n g) (loN n g z) b)) (wvF n g z b) j (ofNat_lt hbn) (F7 (by omega)) hin hnl hlc hW),Av]
      rw [hX,Aq hbn (by omega),show toN (ofNat (rnd n z b)) = rnd n z b from rfl,Lv hlt hdn (by rw [hv,SZ hw]),T8 hdn (XR hin' hw).symm]
      rw [Age hw,SZ hw,WS hw,B7,List.map_map] at h
      rw [B7]
      exact h
end Go.Proofs.Ytjhnfomefcngfaa.Sh
