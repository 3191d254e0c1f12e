/-
  Layer 7: the document's cycle turned, where a location's segment begins, its walk through it. No conditions.
-/
import Derived.Test.YtjhnfomefcngfaaShW
namespace Go.Proofs.Ytjhnfomefcngfaa.Sh
open Go.Sy Ed
open Int (ofNat)
set_option maxHeartbeats 1000000
set_option maxRecDepth 4000
noncomputable def cycB (n:Nat) (f:Nat->E6):Bool:=@decide (∃ a,IsCycle a n f) (Classical.propDecidable _)
theorem cycB_iff {n:Nat} {f:Nat->E6}:cycB n f = true ↔ ∃ a,IsCycle a n f:=by
  unfold cycB
  exact @decide_eq_true_iff _ (Classical.propDecidable _)
noncomputable def tb56:List (Nat × (List V->T (V × List Blk))):=[(93,canonT),(22,edgeT fun e=>bV (outB e)),(21,turnedT)]
theorem tb56_ok:AllPure Try.prog Gl tb56:=.cons p93 <| .cons p60 <| .cons p69 .nil
def lp56 (n:Nat) (_:Nat->E6):Lp:=⟨(bmK 27 0 [3,5]),2,(bmK 27 0 [2]),3,n+1⟩
def st56 (n:Nat) (f:Nat->E6) (b:Nat) (j:Nat->V):St:=⟨(jsV 27 0 j [(3,.ref 1),(5,nV b)]),[.row 44 6 0 (fun _=>.und),.row 44 6 n (fun i=>eV (canF n f i))]⟩
def en56r (n:Nat) (f:Nat->E6) (b:Nat):Ex × St:=(.rt,⟨(jsV 27 0 (fun _=>.und) [(2,.ref 2)]),[.row 44 6 0 (fun _=>.und),.row 44 6 n (fun i=>eV (canF n f i)),.row 44 6 n (fun i=>eV (turnE n (canF n f) (ofNat b) i))]⟩)
noncomputable def body56 (L:LT):St->T (Ex × St):=fun st=>evalC tab ⟨callT tb56,L,Gl⟩ (loopBody Try.f56 0) 0 st
section
variable (L:LT) (n:Nat) (f:Nat->E6) (b:Nat)  (j:Nat->V)
include L n f b j
theorem r56n (h0:ilt (ofNat b) (ofNat n) = true) (h13:ile 0 (ofNat b) = true) (h1:nlt b n = true) (h2:outB (canF n f b) = false):roundT (body56 L) (lp56 n f) (st56 n f b j) = some (.nm,⟨(jsV 27 0 (fun _=>.und) [(3,(.ref 1)),(5,(iV (wr .i64 (iadd (ofNat b) 1))))]),[(.row 44 6 0 (fun _=>.und)),(.row 44 6 n (fun i=>(eV (canF n f i))))]⟩):=by
  exact sem_of_path (ds:=[true,true,true,false]) (cs:=[(ilt (ofNat b) (ofNat n)),(band (ile 0 (ofNat b)) (ilt (ofNat b) (ofNat n))),(nlt b n),(outB (canF n f b))]) (by kernel_rfl) (by simp only [h0,h13,h1,h2] <;> rfl)
theorem r56t (h0:ilt (ofNat b) (ofNat n) = true) (h14:ile 0 (ofNat b) = true) (h1:nlt b n = true) (h2:outB (canF n f b) = true) (h3:fitN n = true) (h15:rowsBare [.row 3 1 n (fun _=>iV 0)] = true):roundT (body56 L) (lp56 n f) (st56 n f b j) = some (.rt,⟨(jsV 27 0 (fun _=>.und) [(2,(.ref 2))]),[(.row 44 6 0 (fun _=>.und)),(.row 44 6 n (fun i=>(eV (canF n f i)))),(.row 44 6 n (fun i=>(eV (turnE n (fun i=>(canF n f i)) (wr .i64 (iadd (ofNat b) 1)) i))))]⟩):=by
  exact sem_of_path (ds:=bbK 7 127) (cs:=[(ilt (ofNat b) (ofNat n)),(band (ile 0 (ofNat b)) (ilt (ofNat b) (ofNat n))),(nlt b n),(outB (canF n f b)),(allN n (fun _=>true)),(fitN n),(rowsBare [.row 3 1 n (fun _=>iV 0)])]) (by kernel_rfl) (by simp only [h0,h14,h1,h2,h3,h15,allN_true,rowsBare_iV] <;> rfl)
end
def jk56 (n:Nat) (f:Nat->E6) :Nat->V:=lkV undefV [(0,(.sl 6 n (fun i=>(eV (f i))))),(2,(.ref 0)),(4,(iV 0)),(6,(.tup [(.ref 1),(iV 0)])),(7,(.sl 6 n (fun i=>(eV (f i))))),(8,(.tup [(.ref 1),(iV 0)])),(9,(.ref 1)),(10,(iV 0))]
theorem w56 (L:LT) (p0:PT) (n:Nat) (f:Nat->E6) (q:Nat) (h0:fitN n = true) (h1:mayN n f = true) (hp0:p0 (body56 (onP 0 p0 (en56r n f q) L)) (st56 n f 0 (jk56 n f )) = true):(finF (evalF tab ⟨callT tb56,(onP 0 p0 (en56r n f q) L),Gl⟩ Try.f56 [.sl 6 n fun i=>eV (f i)] [])).sem = some ((.ref 0),[(.row 44 6 n (fun i=>(eV (turnE n (canF n f) (ofNat q) i))))]):=by
  exact sem_of_path (ds:=[true,true,true,true]) (cs:=[(allN n (fun _=>true)),(fitN n),(mayN n f),(p0 (body56 (onP 0 p0 (en56r n f q) L)) (st56 n f 0 (jk56 n f )))]) (by kernel_rfl) (by simp only [hp0] <;> simp only [h0,h1,allN_true] <;> rfl)
theorem run56 (L:LT) (n:Nat) (f:Nat->E6) (hf:fitN n = true) (hn:n <= 4611686018427387903) (k:Nat) (hk:k < n) (ht:outB (canF n f k) = true) (hb:∀ i,i < k->outB (canF n f i) = false):∀ (e b:Nat) (j:Nat->V) (q:Nat),k = b+e->e < q ->
    (iterT (body56 L) (lp56 n f) q (st56 n f b j)).sem = some (en56r n f (k+1))
  | 0,b,j,q+1,h,_=>by
    have:k = b:=by omega
    subst this
    rw [iter_round (r56t L n f k j (ofNat_lt hk) (ofNat_0 k) (decide_eq_true hk) ht hf rowsBare_iV),goOn_rt,succ_wr hk (by omega)]
    rfl
  | e+1,b,j,q+1,h,h2=>by
    have hl:b < n:=by omega
    rw [iter_round (r56n L n f b j (ofNat_lt hl) (ofNat_0 b) (decide_eq_true hl) (hb b (by omega))),goOn_nm,succ_wr hl (by omega)]
    exact run56 L n f hf hn k hk ht hb e (b+1) (fun _=>.und) q (by omega) (by omega)
theorem turnK_mod {n k:Nat}:turnK n (ofNat k) = k % n:=by
  unfold turnK
  rw [mod_nat]
  have:ilt (ofNat (k % n)) 0 = false:=by simp [ilt]; omega
  rw [this]
  rfl
noncomputable def cturnT:List V->T (V × List Blk):=apL1 fun n f=>.br (fitN n) (.br (cycB n f) (.leaf (.ref 0,[.row 44 6 n fun i=>eV (shG n f i)])) .fail) .fail
theorem p56:PureC Try.prog Gl 56 cturnT:=by
  refine pureC_intro tabOK mixed Try.func56 (by kernel_rfl) (by kernel_rfl) fun vs v h' h=>?_
  obtain ⟨n,f,ha,h⟩:=apL1_some h
  obtain ⟨hn,h⟩:=sem_br_fail h
  obtain ⟨hc,h⟩:=sem_br_fail h
  have:=sem_leaf h
  simp only [Prod.mk.injEq] at this
  obtain ⟨rfl,rfl⟩:=this
  obtain ⟨a,hy⟩:=cycB_iff.1 hc
  have hhi:=hy.hi
  obtain ⟨z1,z2,z3,z4⟩:=shQ_ok hy
  have hx:=cx_ok tb56_ok [(0,lp56 n f)] (G:=Gl)
  have hL:=loopsBy_le [(0,lp56 n f)]
  refine ⟨_,cxOf Gl tb56 [(0,lp56 n f)],_,ha,rfl,hx.1,hx.2,told_le (onP_le hL hL) _ (w56 _ _ n f (lstN (fun i=>outB (canF n f i)) n+1) hn hy.may (isP_true (run56 _ n f hn (by omega) _ z1 z2 z3 _ 0 _ (n+1) (Nat.zero_add _).symm (by omega)))),RowsLE.one fun i hi=>?_⟩
  rw [shG_out hi]
  unfold turnE shQ
  rw [turnK_mod]
def isFst (n:Nat) (g:Nat->E6) (x:Nat->Ev5) (lc:Int) (i:Nat):Bool:=band (ieq (x i).loc lc) (movB (g ((i+(n - 1)) % n)))
def firstI (n:Nat) (g:Nat->E6) (x:Nat->Ev5) (lc:Int):Int:=bif decide (lstN (isFst n g x lc) n < n) then ofNat (lstN (isFst n g x lc) n) else -1
noncomputable def tb95:List (Nat × (List V->T (V × List Blk))):=[(23,edgeT fun e=>bV (movB e))]
theorem tb95_ok:AllPure Try.prog Gl tb95:=.cons p61 .nil
def lp95 (_:Int) (n:Nat) (_:Nat->E6) (_:Nat->Ev5) (_ _:Int) (_:Nat) (_:Nat->Int) (_:Nat) (_:Nat->Nat) (_:Nat->Nat->Int) (_:Int):Lp:=⟨(bmK 37 0 [1,2,4,5,6]),1,(bmK 37 0 [4]),0,n+1⟩
def st95 (a:Int) (n:Nat) (g:Nat->E6) (x:Nat->Ev5) (tt k0:Int) (nr:Nat) (r:Nat->Int) (nc:Nat) (ln:Nat->Nat) (co:Nat->Nat->Int) (lc:Int) (b:Nat) (j:Nat->V):St:=⟨(jsV 37 0 j [(1,iV lc),(2,.ptr 0 0),(4,iV 0),(5,nV n),(6,nV b)]),[.cells [iV a,.sl 6 n (fun i=>eV (g i)),.sl 5 n (fun i=>evV (x i)),iV tt,iV k0,.sl 1 nr (fun i=>iV (r i)),.sl 1 nc (fun k=>.sl 1 (ln k) (fun i=>iV (co k i)))]]⟩
def en95r (_:Int) (_:Nat) (_:Nat->E6) (_:Nat->Ev5) (_ _:Int) (_:Nat) (_:Nat->Int) (_:Nat) (_:Nat->Nat) (_:Nat->Nat->Int) (_:Int) (b:Nat):Ex × St:=(.rt,⟨(jsV 37 0 (fun _=>.und) [(4,nV b)]),[]⟩)
def en95e (_:Int) (_:Nat) (_:Nat->E6) (_:Nat->Ev5) (_ _:Int) (_:Nat) (_:Nat->Int) (_:Nat) (_:Nat->Nat) (_:Nat->Nat->Int) (_:Int) (_:Nat):Ex × St:=(.ex 0,⟨(jsV 37 0 (fun _=>.und) [(4,iV 0)]),[]⟩)
noncomputable def body95 (L:LT):St->T (Ex × St):=fun st=>evalC tab ⟨callT tb95,L,Gl⟩ (loopBody Try.f95 0) 0 st
section
variable (L:LT) (a:Int) (n:Nat) (g:Nat->E6) (x:Nat->Ev5) (tt k0:Int) (nr:Nat) (r:Nat->Int) (nc:Nat) (ln:Nat->Nat) (co:Nat->Nat->Int) (lc:Int) (b:Nat)  (j:Nat->V)
include L a n g x tt k0 nr r nc ln co lc b j
theorem r95e (h0:ilt (ofNat b) (ofNat n) = false):roundT (body95 L) (lp95 a n g x tt k0 nr r nc ln co lc) (st95 a n g x tt k0 nr r nc ln co lc b j) = some ((.ex 0),⟨(jsV 37 0 (fun _=>.und) [(4,(iV 0))]),[]⟩):=by
  exact sem_of_path (ds:=[false]) (cs:=[(ilt (ofNat b) (ofNat n))]) (by kernel_rfl) (by simp only [h0] <;> rfl)
theorem r95a (h0:ilt (ofNat b) (ofNat n) = true) (h14:ile 0 (ofNat b) = true) (h3:ieq ((x b)).loc lc = false):roundT (body95 L) (lp95 a n g x tt k0 nr r nc ln co lc) (st95 a n g x tt k0 nr r nc ln co lc b j) = some (.nm,⟨(jsV 37 0 (fun _=>.und) [(1,(iV lc)),(2,(.ptr 0 0)),(4,(iV 0)),(5,(nV n)),(6,(iV (wr .i64 (iadd (ofNat b) 1))))]),[(.cells [(iV a),(.sl 6 n (fun i=>(eV (g i)))),(.sl 5 n (fun i=>(.agg [(iV ((x i)).th),(iV ((x i)).pl),(iV ((x i)).dir),(iV ((x i)).loc),(iV ((x i)).val)]))),(iV tt),(iV k0),(.sl 1 nr (fun i=>(iV (r i)))),(.sl 1 nc (fun k=>(.sl 1 (ln k) (fun i=>(iV (co k i))))))])]⟩):=by
  exact sem_of_path (ds:=bbK 15 3) (cs:=((fun c0=>[(ilt (ofNat b) (ofNat n)),(band (ile 0 (ofNat b)) (ilt (ofNat b) (ofNat n))),c0,c0,c0,c0,c0,c0,c0,c0,c0,c0,c0,c0,false]) (ieq ((x b)).loc lc))) (by kernel_rfl) (by simp only [h0,h14,h3] <;> rfl)
theorem r95b (h0:ilt (ofNat b) (ofNat n) = true) (h15:ile 0 (ofNat b) = true) (h3:ieq ((x b)).loc lc = true) (h1:ieq (ofNat n) 0 = false) (h17:band (ile 0 (itmod (wr .i64 (isub (wr .i64 (iadd (ofNat b) (ofNat n))) 1)) (ofNat n))) (ilt (itmod (wr .i64 (isub (wr .i64 (iadd (ofNat b) (ofNat n))) 1)) (ofNat n)) (ofNat n)) = true) (h4:movB (g (toN (itmod (wr .i64 (isub (wr .i64 (iadd (ofNat b) (ofNat n))) 1)) (ofNat n)))) = false):roundT (body95 L) (lp95 a n g x tt k0 nr r nc ln co lc) (st95 a n g x tt k0 nr r nc ln co lc b j) = some (.nm,⟨(jsV 37 0 (fun _=>.und) [(1,(iV lc)),(2,(.ptr 0 0)),(4,(iV 0)),(5,(nV n)),(6,(iV (wr .i64 (iadd (ofNat b) 1))))]),[(.cells [(iV a),(.sl 6 n (fun i=>(eV (g i)))),(.sl 5 n (fun i=>(.agg [(iV ((x i)).th),(iV ((x i)).pl),(iV ((x i)).dir),(iV ((x i)).loc),(iV ((x i)).val)]))),(iV tt),(iV k0),(.sl 1 nr (fun i=>(iV (r i)))),(.sl 1 nc (fun k=>(.sl 1 (ln k) (fun i=>(iV (co k i))))))])]⟩):=by
  exact sem_of_path (ds:=bbK 17 64511) (cs:=((fun c0=>[(ilt (ofNat b) (ofNat n)),(band (ile 0 (ofNat b)) (ilt (ofNat b) (ofNat n))),c0,c0,c0,c0,c0,c0,c0,c0,(ieq (ofNat n) 0),c0,(band (ile 0 (itmod (wr .i64 (isub (wr .i64 (iadd (ofNat b) (ofNat n))) 1)) (ofNat n))) (ilt (itmod (wr .i64 (isub (wr .i64 (iadd (ofNat b) (ofNat n))) 1)) (ofNat n)) (ofNat n))),c0,c0,c0,(movB (g (toN (itmod (wr .i64 (isub (wr .i64 (iadd (ofNat b) (ofNat n))) 1)) (ofNat n)))))]) (ieq ((x b)).loc lc))) (by kernel_rfl) (by simp only [h17] <;> simp only [h0,h15,h3,h1,h4] <;> rfl)
theorem r95t (h0:ilt (ofNat b) (ofNat n) = true) (h15:ile 0 (ofNat b) = true) (h3:ieq ((x b)).loc lc = true) (h1:ieq (ofNat n) 0 = false) (h17:band (ile 0 (itmod (wr .i64 (isub (wr .i64 (iadd (ofNat b) (ofNat n))) 1)) (ofNat n))) (ilt (itmod (wr .i64 (isub (wr .i64 (iadd (ofNat b) (ofNat n))) 1)) (ofNat n)) (ofNat n)) = true) (h4:movB (g (toN (itmod (wr .i64 (isub (wr .i64 (iadd (ofNat b) (ofNat n))) 1)) (ofNat n)))) = true):roundT (body95 L) (lp95 a n g x tt k0 nr r nc ln co lc) (st95 a n g x tt k0 nr r nc ln co lc b j) = some (.rt,⟨(jsV 37 0 (fun _=>.und) [(4,(nV b))]),[]⟩):=by
  exact sem_of_path (ds:=bbK 17 130047) (cs:=((fun c0=>[(ilt (ofNat b) (ofNat n)),(band (ile 0 (ofNat b)) (ilt (ofNat b) (ofNat n))),c0,c0,c0,c0,c0,c0,c0,c0,(ieq (ofNat n) 0),c0,(band (ile 0 (itmod (wr .i64 (isub (wr .i64 (iadd (ofNat b) (ofNat n))) 1)) (ofNat n))) (ilt (itmod (wr .i64 (isub (wr .i64 (iadd (ofNat b) (ofNat n))) 1)) (ofNat n)) (ofNat n))),c0,c0,c0,(movB (g (toN (itmod (wr .i64 (isub (wr .i64 (iadd (ofNat b) (ofNat n))) 1)) (ofNat n)))))]) (ieq ((x b)).loc lc))) (by kernel_rfl) (by simp only [h17] <;> simp only [h0,h15,h3,h1,h4] <;> rfl)
end
def jk95 (a:Int) (n:Nat) (g:Nat->E6) (x:Nat->Ev5) (tt k0:Int) (nr:Nat) (r:Nat->Int) (nc:Nat) (ln:Nat->Nat) (co:Nat->Nat->Int) (_:Int) :Nat->V:=lkV undefV [(0,(.agg [(iV a),(.sl 6 n (fun i=>(eV (g i)))),(.sl 5 n (fun i=>(.agg [(iV ((x i)).th),(iV ((x i)).pl),(iV ((x i)).dir),(iV ((x i)).loc),(iV ((x i)).val)]))),(iV tt),(iV k0),(.sl 1 nr (fun i=>(iV (r i)))),(.sl 1 nc (fun k=>(.sl 1 (ln k) (fun i=>(iV (co k i))))))])),(7,(.ptr 0 1)),(8,(.sl 6 n (fun i=>(eV (g i))))),(9,(nV n))]
section
variable (L:LT) (p0:PT) (a:Int) (n:Nat) (g:Nat->E6) (x:Nat->Ev5) (tt k0:Int) (nr:Nat) (r:Nat->Int) (nc:Nat) (ln:Nat->Nat) (co:Nat->Nat->Int) (lc:Int) (q:Nat)
include L p0 a n g x tt k0 nr r nc ln co lc q
theorem w95r  (hp0:p0 (body95 (onP 0 p0 (en95r a n g x tt k0 nr r nc ln co lc q) L)) (st95 a n g x tt k0 nr r nc ln co lc 0 (jk95 a n g x tt k0 nr r nc ln co lc )) = true):(finF (evalF tab ⟨callT tb95,(onP 0 p0 (en95r a n g x tt k0 nr r nc ln co lc q) L),Gl⟩ Try.f95 [.agg [iV a,.sl 6 n (fun i=>eV (g i)),.sl 5 n (fun i=>evV (x i)),iV tt,iV k0,.sl 1 nr (fun i=>iV (r i)),.sl 1 nc (fun k=>.sl 1 (ln k) (fun i=>iV (co k i)))],iV lc] [])).sem = some ((nV q),[]):=by
  exact sem_of_path (ds:=[true]) (cs:=[(p0 (body95 (onP 0 p0 (en95r a n g x tt k0 nr r nc ln co lc q) L)) (st95 a n g x tt k0 nr r nc ln co lc 0 (jk95 a n g x tt k0 nr r nc ln co lc )))]) (by kernel_rfl) (by simp only [hp0] <;> rfl)
theorem w95e  (hp0:p0 (body95 (onP 0 p0 (en95e a n g x tt k0 nr r nc ln co lc q) L)) (st95 a n g x tt k0 nr r nc ln co lc 0 (jk95 a n g x tt k0 nr r nc ln co lc )) = true):(finF (evalF tab ⟨callT tb95,(onP 0 p0 (en95e a n g x tt k0 nr r nc ln co lc q) L),Gl⟩ Try.f95 [.agg [iV a,.sl 6 n (fun i=>eV (g i)),.sl 5 n (fun i=>evV (x i)),iV tt,iV k0,.sl 1 nr (fun i=>iV (r i)),.sl 1 nc (fun k=>.sl 1 (ln k) (fun i=>iV (co k i)))],iV lc] [])).sem = some ((iV (-1)),[]):=by
  exact sem_of_path (ds:=[true]) (cs:=[(p0 (body95 (onP 0 p0 (en95e a n g x tt k0 nr r nc ln co lc q) L)) (st95 a n g x tt k0 nr r nc ln co lc 0 (jk95 a n g x tt k0 nr r nc ln co lc )))]) (by kernel_rfl) (by simp only [hp0] <;> rfl)
end
theorem run95 (L:LT) (a:Int) (n:Nat) (g:Nat->E6) (x:Nat->Ev5) (tt k0:Int) (nr:Nat) (r:Nat->Int) (nc:Nat) (ln:Nat->Nat) (co:Nat->Nat->Int) (lc:Int) (hn:n <= 4611686018427387904):∀ (e b:Nat) (j:Nat->V) (q:Nat),n = b+e->e < q->(∀ k,k < b->isFst n g x lc k = false) ->
    ((iterT (body95 L) (lp95 a n g x tt k0 nr r nc ln co lc) q (st95 a n g x tt k0 nr r nc ln co lc b j)).sem = some (en95e a n g x tt k0 nr r nc ln co lc 0) ∧ firstI n g x lc = -1) ∨ ∃ i,(iterT (body95 L) (lp95 a n g x tt k0 nr r nc ln co lc) q (st95 a n g x tt k0 nr r nc ln co lc b j)).sem = some (en95r a n g x tt k0 nr r nc ln co lc i) ∧ firstI n g x lc = ofNat i
  | 0,b,j,q+1,h,_,hb=>by
    have:n = b:=by omega
    subst this
    refine .inl ⟨iter_round (r95e L a n g x tt k0 nr r nc ln co lc n j (ofNat_ge (Nat.le_refl _))),?_⟩
    unfold firstI
    rw [lstN_none hb]
    simp
  | e+1,b,j,q+1,h,h2,hb=>by
    have hl:b < n:=by omega
    have hx:=back_wr (a:=b) (n:=n) (by omega) (by omega)
    have hlt:(b+(n - 1)) % n < n:=Nat.mod_lt _ (by omega)
    have hin:band (ile 0 (itmod (wr .i64 (isub (wr .i64 (iadd (ofNat b) (ofNat n))) 1)) (ofNat n))) (ilt (itmod (wr .i64 (isub (wr .i64 (iadd (ofNat b) (ofNat n))) 1)) (ofNat n)) (ofNat n)) = true:=by rw [hx]; exact ofNat_in hlt
    have next:isFst n g x lc b = false->_:=fun hf=>run95 L a n g x tt k0 nr r nc ln co lc hn e (b+1) (fun _=>.und) q (by omega) (by omega) fun k hk=>by
      by_cases hki:k = b
      · rw [hki]; exact hf
      · exact hb k (by omega)
    cases h1:ieq (x b).loc lc with
    | false =>
      rw [iter_round (r95a L a n g x tt k0 nr r nc ln co lc b j (ofNat_lt hl) (ofNat_0 b) h1),goOn_nm,succ_wr hl (by omega)]
      exact next (by unfold isFst; rw [h1]; rfl)
    | true =>
      cases hm:movB (g ((b+(n - 1)) % n)) with
      | false =>
        rw [iter_round (r95b L a n g x tt k0 nr r nc ln co lc b j (ofNat_lt hl) (ofNat_0 b) h1 (ieq0 (by omega)) hin (by rw [hx]; exact hm)),goOn_nm,succ_wr hl (by omega)]
        exact next (by unfold isFst; rw [h1,hm]; rfl)
      | true =>
        refine .inr ⟨b,iter_round (r95t L a n g x tt k0 nr r nc ln co lc b j (ofNat_lt hl) (ofNat_0 b) h1 (ieq0 (by omega)) hin (by rw [hx]; exact hm)),?_⟩
        unfold firstI
        rw [lstN_at hl (by unfold isFst; rw [h1,hm]; rfl) hb,decide_eq_true hl]
        rfl
def firstT:List V->T (V × List Blk)
  | [v,.val (.int .i64 lc)]=>apS v fun s=>.br (nbeq s.nx s.ne) (.br (smallN s.ne) (.leaf (iV (firstI s.ne s.E s.X lc),[])) .fail) .fail
  | _=>.fail
theorem p95:PureC Try.prog Gl 95 firstT:=by
  refine pureC_intro tabOK mixed Try.func95 (by kernel_rfl) (by kernel_rfl) fun vs v h' h=>?_
  unfold firstT at h
  split at h
  · rename_i u lc
    obtain ⟨s,ha,h⟩:=apS_some h
    obtain ⟨h1,h⟩:=sem_br_fail h
    obtain ⟨h2,h⟩:=sem_br_fail h
    have:=sem_leaf h
    simp only [Prod.mk.injEq] at this
    obtain ⟨rfl,rfl⟩:=this
    obtain ⟨a,n,g,nx,x,tt,k0,nr,r,nc,C⟩:=s
    have h1:nx = n:=Nat.eq_of_beq_eq_true h1
    subst h1
    have h2:nx <= 4611686018427387904:=of_decide_eq_true h2
    have hA:ArgLE [u,iV lc] [.agg [iV a,.sl 6 nx (fun i=>eV (g i)),.sl 5 nx (fun i=>evV (x i)),iV tt,iV k0,.sl 1 nr (fun i=>iV (r i)),.sl 1 nc (fun k=>.sl 1 (C k).1 (fun i=>iV ((C k).2 i)))],iV lc]:=fun S w cs hv=>by
      obtain ⟨c,l,rfl,q1,q2⟩:=hv
      exact ⟨c,l,rfl,ha S w c q1,q2⟩
    have hx:=cx_ok tb95_ok [(0,lp95 a nx g x tt k0 nr r nc (fun k=>(C k).1) (fun k=>(C k).2) lc)] (G:=Gl)
    have hL:=loopsBy_le [(0,lp95 a nx g x tt k0 nr r nc (fun k=>(C k).1) (fun k=>(C k).2) lc)]
    refine ⟨_,cxOf Gl tb95 [(0,lp95 a nx g x tt k0 nr r nc (fun k=>(C k).1) (fun k=>(C k).2) lc)],_,hA,rfl,hx.1,hx.2,?_,RowsLE.refl _⟩
    have h0:=fun L j=>run95 L a nx g x tt k0 nr r nc (fun k=>(C k).1) (fun k=>(C k).2) lc h2 nx 0 j (nx+1) (by omega) (by omega) (fun k hk=>absurd hk (Nat.not_lt_zero _))
    rcases h0 noLp (fun _=>.und) with ⟨_,h5⟩ | ⟨i,_,h5⟩
    · have h6:∀ L j,(iterT (body95 L) (lp95 a nx g x tt k0 nr r nc (fun k=>(C k).1) (fun k=>(C k).2) lc) (nx+1) (st95 a nx g x tt k0 nr r nc (fun k=>(C k).1) (fun k=>(C k).2) lc 0 j)).sem = some (en95e a nx g x tt k0 nr r nc (fun k=>(C k).1) (fun k=>(C k).2) lc 0):=fun L j=>by
        rcases h0 L j with ⟨h,_⟩ | ⟨i,_,h⟩
        · exact h
        · rw [h5] at h
          cases h
      rw [h5]
      exact told_le (onP_le hL hL) _ (w95e _ _ a nx g x tt k0 nr r nc (fun k=>(C k).1) (fun k=>(C k).2) lc 0 (isP_true (h6 _ _)))
    · have h6:∀ L j,(iterT (body95 L) (lp95 a nx g x tt k0 nr r nc (fun k=>(C k).1) (fun k=>(C k).2) lc) (nx+1) (st95 a nx g x tt k0 nr r nc (fun k=>(C k).1) (fun k=>(C k).2) lc 0 j)).sem = some (en95r a nx g x tt k0 nr r nc (fun k=>(C k).1) (fun k=>(C k).2) lc i):=fun L j=>by
        rcases h0 L j with ⟨_,h⟩ | ⟨i',h,h'⟩
        · rw [h5] at h
          cases h
        · rw [h5] at h'
          cases h'
          exact h
      rw [h5]
      exact told_le (onP_le hL hL) _ (w95r _ _ a nx g x tt k0 nr r nc (fun k=>(C k).1) (fun k=>(C k).2) lc i (isP_true (h6 _ _)))
  · cases h
noncomputable def tb59:List (Nat × (List V->T (V × List Blk))):=[(95,firstT)]
theorem tb59_ok:AllPure Try.prog Gl tb59:=.cons p95 .nil
def ent59 (a:Int) (n k kk:Nat) (g:Nat->E6) (th lo:Nat->Int) (tt:Int) (c0:Nat->V) (x0:Nat->Ev5) (r0:Nat->Int) (ln:Nat->Nat) (co:Nat->Nat->Int) (ts:List V) :St:=⟨(jsV 79 0 (fun _=>undefV) [(0,(.agg [(iV a),(.ref 1),(.ref 5),(iV tt),(nV kk),(.ref 6),(.jref 7)])),(1,(nV k)),(2,(.ptr 9 0)),(4,(.ptr 10 0)),(5,(.ref 11)),(6,(nV n)),(7,(iV (firstI n g x0 (ofNat k)))),(8,(iV (-1))),(9,(iV 0)),(11,(.ptr 9 1)),(12,(.ref 1)),(13,(nV n)),(14,(.agg [(iV a),(.ref 1),(.ref 5),(iV tt),(nV kk),(.ref 6),(.jref 7)])),(15,(nV k)),(16,(iV (firstI n g x0 (ofNat k))))]),[(.cells [(iV 0),.nilS,.nilS,(iV 0),(iV 0),.nilS,.nilS]),(.row 44 6 n (fun i=>(eV (g i)))),(.row 3 1 n (fun i=>(iV (th i)))),(.row 3 1 n (fun i=>(iV (lo i)))),(.cells [(iV a),(.ref 1),(.ref 5),(iV tt),(nV kk),(.ref 6),(.jref 7)]),(.row 40 5 n (fun i=>(.agg [(iV ((x0 i)).th),(iV ((x0 i)).pl),(iV ((x0 i)).dir),(iV ((x0 i)).loc),(iV ((x0 i)).val)]))),(.row 3 1 n (fun i=>(iV (r0 i)))),(.jag (Jag.mk 25 1 k c0 0 3 1 (fun _=>true) ln (fun i q=>(iV (co i q))))),(.saved ts),(.cells [(iV a),(.ref 1),(.ref 5),(iV tt),(nV kk),(.ref 6),(.jref 7)]),(.cells [(iV 0),.nilS,.nilS,(iV 0),(iV 0),.nilS,.nilS]),(.row 3 1 0 (fun _=>.und))]⟩
def lp59 (_:Int) (_ _ _:Nat) (_:Nat->E6) (_ _:Nat->Int) (_:Int) (_:Nat->V) (_:Nat->Ev5) (_:Nat->Int) (_:Nat->Nat) (_:Nat->Nat->Int) (_:List V):Lp:=⟨(bmK 79 0 [1,2,4,5,6,7,8,9]),12,(bmK 79 0 [2,4,5]),12,17⟩
def st59 (a:Int) (n k kk:Nat) (g:Nat->E6) (th lo:Nat->Int) (tt:Int) (c0:Nat->V) (_:Nat->Ev5) (_:Nat->Int) (ln:Nat->Nat) (co:Nat->Nat->Int) (ts:List V) (b m:Nat) (z la:Int) (x:Nat->Ev5) (r w:Nat->Int) (j:Nat->V):St:=⟨(jsV 79 0 j [(1,nV k),(2,.ptr 9 0),(4,.ptr 10 0),(5,.ref 11),(6,nV n),(7,iV z),(8,iV la),(9,nV b)]),[(.cells [(iV 0),.nilS,.nilS,(iV 0),(iV 0),.nilS,.nilS]),(.row 44 6 n (fun i=>eV (g i))),(.row 3 1 n (fun i=>iV (th i))),(.row 3 1 n (fun i=>iV (lo i))),(.cells [(iV a),(.ref 1),(.ref 5),(iV tt),(nV kk),(.ref 6),(.jref 7)]),(.row 40 5 n (fun i=>evV (x i))),(.row 3 1 n (fun i=>iV (r i))),(.jag (Jag.mk 25 1 k c0 0 3 1 (fun _=>true) ln (fun i q=>iV (co i q)))),.saved ts,(.cells [(iV a),(.ref 1),(.ref 5),(iV tt),(nV kk),(.ref 6),(.jref 7)]),(.cells [(iV 0),.nilS,.nilS,(iV 0),(iV 0),.nilS,.nilS]),(.row 3 1 m (fun i=>iV (w i)))]⟩
def en59e (a:Int) (n k kk:Nat) (g:Nat->E6) (th lo:Nat->Int) (tt:Int) (c0:Nat->V) (_:Nat->Ev5) (_:Nat->Int) (ln:Nat->Nat) (co:Nat->Nat->Int) (ts:List V) (_ m:Nat) (_ _:Int) (x:Nat->Ev5) (r w:Nat->Int):Ex × St:=(.ex 0,⟨(jsV 79 0 (fun _=>.und) [(2,.ptr 9 0),(4,.ptr 10 0),(5,.ref 11)]),[(.cells [(iV 0),.nilS,.nilS,(iV 0),(iV 0),.nilS,.nilS]),(.row 44 6 n (fun i=>eV (g i))),(.row 3 1 n (fun i=>iV (th i))),(.row 3 1 n (fun i=>iV (lo i))),(.cells [(iV a),(.ref 1),(.ref 5),(iV tt),(nV kk),(.ref 6),(.jref 7)]),(.row 40 5 n (fun i=>evV (x i))),(.row 3 1 n (fun i=>iV (r i))),(.jag (Jag.mk 25 1 k c0 0 3 1 (fun _=>true) ln (fun i q=>iV (co i q)))),.saved ts,(.cells [(iV a),(.ref 1),(.ref 5),(iV tt),(nV kk),(.ref 6),(.jref 7)]),(.cells [(iV 0),.nilS,.nilS,(iV 0),(iV 0),.nilS,.nilS]),(.row 3 1 m (fun i=>iV (w i)))]⟩)
noncomputable def body59 (L:LT):St->T (Ex × St):=fun st=>evalC tab ⟨callT tb59,L,Gl⟩ (loopBody Try.f59 0) 0 st
section
variable (L:LT) (a:Int) (n k kk:Nat) (g:Nat->E6) (th lo:Nat->Int) (tt:Int) (c0:Nat->V) (x0:Nat->Ev5) (r0:Nat->Int) (ln:Nat->Nat) (co:Nat->Nat->Int) (ts:List V) (b m:Nat) (z la:Int) (x:Nat->Ev5) (r w:Nat->Int)  (j:Nat->V)
include L a n k kk g th lo tt c0 x0 r0 ln co ts b m z la x r w j
theorem rw59e (h0:ilt (ofNat b) (ofNat n) = false):roundT (body59 L) (lp59 a n k kk g th lo tt c0 x0 r0 ln co ts) (st59 a n k kk g th lo tt c0 x0 r0 ln co ts b m z la x r w j) = some ((.ex 0),⟨(jsV 79 0 (fun _=>.und) [(2,(.ptr 9 0)),(4,(.ptr 10 0)),(5,(.ref 11))]),[(.cells [(iV 0),.nilS,.nilS,(iV 0),(iV 0),.nilS,.nilS]),(.row 44 6 n (fun i=>(eV (g i)))),(.row 3 1 n (fun i=>(iV (th i)))),(.row 3 1 n (fun i=>(iV (lo i)))),(.cells [(iV a),(.ref 1),(.ref 5),(iV tt),(nV kk),(.ref 6),(.jref 7)]),(.row 40 5 n (fun i=>(.agg [(iV ((x i)).th),(iV ((x i)).pl),(iV ((x i)).dir),(iV ((x i)).loc),(iV ((x i)).val)]))),(.row 3 1 n (fun i=>(iV (r i)))),(.jag (Jag.mk 25 1 k c0 0 3 1 (fun _=>true) ln (fun i q=>(iV (co i q))))),(.saved (forgets 12 ts)),(.cells [(iV a),(.ref 1),(.ref 5),(iV tt),(nV kk),(.ref 6),(.jref 7)]),(.cells [(iV 0),.nilS,.nilS,(iV 0),(iV 0),.nilS,.nilS]),(.row 3 1 m (fun i=>(iV (w i))))]⟩):=by
  exact sem_of_path (ds:=bbK 14 0) (cs:=((fun c0=>[c0,c0,c0,c0,c0,c0,c0,c0,c0,c0,c0,c0,c0,false]) (ilt (ofNat b) (ofNat n)))) (by kernel_rfl) (by simp only [h0] <;> rfl)
theorem rw59x (h0:ilt (ofNat b) (ofNat n) = true) (h1:ieq (ofNat n) 0 = false) (h19:band (ile 0 (itmod (wr .i64 (iadd z (ofNat b))) (ofNat n))) (ilt (itmod (wr .i64 (iadd z (ofNat b))) (ofNat n)) (ofNat n)) = true) (h2:nlt (toN (itmod (wr .i64 (iadd z (ofNat b))) (ofNat n))) n = true) (h3:ieq ((x (toN (itmod (wr .i64 (iadd z (ofNat b))) (ofNat n))))).loc (ofNat k) = false):roundT (body59 L) (lp59 a n k kk g th lo tt c0 x0 r0 ln co ts) (st59 a n k kk g th lo tt c0 x0 r0 ln co ts b m z la x r w j) = some ((.ex 0),⟨(jsV 79 0 (fun _=>.und) [(2,(.ptr 9 0)),(4,(.ptr 10 0)),(5,(.ref 11))]),[(.cells [(iV 0),.nilS,.nilS,(iV 0),(iV 0),.nilS,.nilS]),(.row 44 6 n (fun i=>(eV (g i)))),(.row 3 1 n (fun i=>(iV (th i)))),(.row 3 1 n (fun i=>(iV (lo i)))),(.cells [(iV a),(.ref 1),(.ref 5),(iV tt),(nV kk),(.ref 6),(.jref 7)]),(.row 40 5 n (fun i=>(.agg [(iV ((x i)).th),(iV ((x i)).pl),(iV ((x i)).dir),(iV ((x i)).loc),(iV ((x i)).val)]))),(.row 3 1 n (fun i=>(iV (r i)))),(.jag (Jag.mk 25 1 k c0 0 3 1 (fun _=>true) ln (fun i q=>(iV (co i q))))),(.saved (forgets 12 ts)),(.cells [(iV a),(.ref 1),(.ref 5),(iV tt),(nV kk),(.ref 6),(.jref 7)]),(.cells [(iV 0),.nilS,.nilS,(iV 0),(iV 0),.nilS,.nilS]),(.row 3 1 m (fun i=>(iV (w i))))]⟩):=by
  exact sem_of_path (ds:=bbK 17 65407) (cs:=((fun c0=>[c0,c0,c0,c0,c0,c0,c0,(ieq (ofNat n) 0),c0,(band (ile 0 (itmod (wr .i64 (iadd z (ofNat b))) (ofNat n))) (ilt (itmod (wr .i64 (iadd z (ofNat b))) (ofNat n)) (ofNat n))),c0,c0,(nlt (toN (itmod (wr .i64 (iadd z (ofNat b))) (ofNat n))) n),c0,c0,c0,(ieq ((x (toN (itmod (wr .i64 (iadd z (ofNat b))) (ofNat n))))).loc (ofNat k))]) (ilt (ofNat b) (ofNat n)))) (by kernel_rfl) (by simp only [h19] <;> simp only [h0,h1,h2,h3] <;> rfl)
theorem rw59r (h0:ilt (ofNat b) (ofNat n) = true) (h1:ieq (ofNat n) 0 = false) (h20:band (ile 0 (itmod (wr .i64 (iadd z (ofNat b))) (ofNat n))) (ilt (itmod (wr .i64 (iadd z (ofNat b))) (ofNat n)) (ofNat n)) = true) (h2:nlt (toN (itmod (wr .i64 (iadd z (ofNat b))) (ofNat n))) n = true) (h3:ieq ((x (toN (itmod (wr .i64 (iadd z (ofNat b))) (ofNat n))))).loc (ofNat k) = true) (h4:ieq ((x (toN (itmod (wr .i64 (iadd z (ofNat b))) (ofNat n))))).dir 2 = false):roundT (body59 L) (lp59 a n k kk g th lo tt c0 x0 r0 ln co ts) (st59 a n k kk g th lo tt c0 x0 r0 ln co ts b m z la x r w j) = some (.nm,⟨(jsV 79 0 (fun _=>.und) [(1,(nV k)),(2,(.ptr 9 0)),(4,(.ptr 10 0)),(5,(.ref 11)),(6,(nV n)),(7,(iV z)),(8,(iV la)),(9,(iV (wr .i64 (iadd (ofNat b) 1))))]),[(.cells [(iV 0),.nilS,.nilS,(iV 0),(iV 0),.nilS,.nilS]),(.row 44 6 n (fun i=>(eV (g i)))),(.row 3 1 n (fun i=>(iV (th i)))),(.row 3 1 n (fun i=>(iV (lo i)))),(.cells [(iV a),(.ref 1),(.ref 5),(iV tt),(nV kk),(.ref 6),(.jref 7)]),(.row 40 5 n (fun i=>(.agg [(iV (sel (nbeq i (toN (itmod (wr .i64 (iadd z (ofNat b))) (ofNat n)))) ((x (toN (itmod (wr .i64 (iadd z (ofNat b))) (ofNat n))))).th ((x i)).th)),(iV (sel (nbeq i (toN (itmod (wr .i64 (iadd z (ofNat b))) (ofNat n)))) ((x (toN (itmod (wr .i64 (iadd z (ofNat b))) (ofNat n))))).pl ((x i)).pl)),(iV (sel (nbeq i (toN (itmod (wr .i64 (iadd z (ofNat b))) (ofNat n)))) ((x (toN (itmod (wr .i64 (iadd z (ofNat b))) (ofNat n))))).dir ((x i)).dir)),(iV (sel (nbeq i (toN (itmod (wr .i64 (iadd z (ofNat b))) (ofNat n)))) ((x (toN (itmod (wr .i64 (iadd z (ofNat b))) (ofNat n))))).loc ((x i)).loc)),(iV (sel (nbeq i (toN (itmod (wr .i64 (iadd z (ofNat b))) (ofNat n)))) (ofNat m) ((x i)).val))]))),(.row 3 1 n (setGet (fun i=>(iV (r i))) (toN (itmod (wr .i64 (iadd z (ofNat b))) (ofNat n))) (iV la))),(.jag (Jag.mk 25 1 k c0 0 3 1 (fun _=>true) ln (fun i q=>(iV (co i q))))),(.saved (forgets 12 ts)),(.cells [(iV a),(.ref 1),(.ref 5),(iV tt),(nV kk),(.ref 6),(.jref 7)]),(.cells [(iV 0),.nilS,.nilS,(iV 0),(iV 0),.nilS,.nilS]),(.row 3 1 m (fun i=>(iV (w i))))]⟩):=by
  exact sem_of_path (ds:=bbK 25 32374655) (cs:=((fun c0 c1 c2 c3=>[c0,c0,c0,c0,c0,c0,c0,c1,c0,c2,c0,c0,c3,c0,c0,c0,(ieq ((x (toN (itmod (wr .i64 (iadd z (ofNat b))) (ofNat n))))).loc (ofNat k)),c1,c2,c3,(ieq ((x (toN (itmod (wr .i64 (iadd z (ofNat b))) (ofNat n))))).dir 2),c2,c3,c2,c3]) (ilt (ofNat b) (ofNat n)) (ieq (ofNat n) 0) (band (ile 0 (itmod (wr .i64 (iadd z (ofNat b))) (ofNat n))) (ilt (itmod (wr .i64 (iadd z (ofNat b))) (ofNat n)) (ofNat n))) (nlt (toN (itmod (wr .i64 (iadd z (ofNat b))) (ofNat n))) n))) (by kernel_rfl) (by simp only [h20] <;> simp only [h0,h1,h2,h3,h4] <;> rfl)
theorem rw59w (h0:ilt (ofNat b) (ofNat n) = true) (h1:ieq (ofNat n) 0 = false) (h20:band (ile 0 (itmod (wr .i64 (iadd z (ofNat b))) (ofNat n))) (ilt (itmod (wr .i64 (iadd z (ofNat b))) (ofNat n)) (ofNat n)) = true) (h2:nlt (toN (itmod (wr .i64 (iadd z (ofNat b))) (ofNat n))) n = true) (h3:ieq ((x (toN (itmod (wr .i64 (iadd z (ofNat b))) (ofNat n))))).loc (ofNat k) = true) (h4:ieq ((x (toN (itmod (wr .i64 (iadd z (ofNat b))) (ofNat n))))).dir 2 = true) (h21:apOK m 1 8 = true):roundT (body59 L) (lp59 a n k kk g th lo tt c0 x0 r0 ln co ts) (st59 a n k kk g th lo tt c0 x0 r0 ln co ts b m z la x r w j) = some (.nm,⟨(jsV 79 0 (fun _=>.und) [(1,(nV k)),(2,(.ptr 9 0)),(4,(.ptr 10 0)),(5,(.ref 11)),(6,(nV n)),(7,(iV z)),(8,(iV (itmod (wr .i64 (iadd z (ofNat b))) (ofNat n)))),(9,(iV (wr .i64 (iadd (ofNat b) 1))))]),[(.cells [(iV 0),.nilS,.nilS,(iV 0),(iV 0),.nilS,.nilS]),(.row 44 6 n (fun i=>(eV (g i)))),(.row 3 1 n (fun i=>(iV (th i)))),(.row 3 1 n (fun i=>(iV (lo i)))),(.cells [(iV a),(.ref 1),(.ref 5),(iV tt),(nV kk),(.ref 6),(.jref 7)]),(.row 40 5 n (fun i=>(.agg [(iV (sel (nbeq i (toN (itmod (wr .i64 (iadd z (ofNat b))) (ofNat n)))) ((x (toN (itmod (wr .i64 (iadd z (ofNat b))) (ofNat n))))).th ((x i)).th)),(iV (sel (nbeq i (toN (itmod (wr .i64 (iadd z (ofNat b))) (ofNat n)))) ((x (toN (itmod (wr .i64 (iadd z (ofNat b))) (ofNat n))))).pl ((x i)).pl)),(iV (sel (nbeq i (toN (itmod (wr .i64 (iadd z (ofNat b))) (ofNat n)))) ((x (toN (itmod (wr .i64 (iadd z (ofNat b))) (ofNat n))))).dir ((x i)).dir)),(iV (sel (nbeq i (toN (itmod (wr .i64 (iadd z (ofNat b))) (ofNat n)))) ((x (toN (itmod (wr .i64 (iadd z (ofNat b))) (ofNat n))))).loc ((x i)).loc)),(iV (sel (nbeq i (toN (itmod (wr .i64 (iadd z (ofNat b))) (ofNat n)))) (ofNat (nadd m 1)) ((x i)).val))]))),(.row 3 1 n (fun i=>(iV (r i)))),(.jag (Jag.mk 25 1 k c0 0 3 1 (fun _=>true) ln (fun i q=>(iV (co i q))))),(.saved (forgets 12 (kill.kills 11 ts))),(.cells [(iV a),(.ref 1),(.ref 5),(iV tt),(nV kk),(.ref 6),(.jref 7)]),(.cells [(iV 0),.nilS,.nilS,(iV 0),(iV 0),.nilS,.nilS]),(.row 3 1 (nadd m 1) (pushGet m (fun i=>(iV (w i))) (iV (itmod (wr .i64 (iadd z (ofNat b))) (ofNat n)))))]⟩):=by
  exact sem_of_path (ds:=bbK 24 16646015) (cs:=((fun c0 c1 c2 c3=>[c0,c0,c0,c0,c0,c0,c0,c1,c0,c2,c0,c0,c3,c0,c0,c0,(ieq ((x (toN (itmod (wr .i64 (iadd z (ofNat b))) (ofNat n))))).loc (ofNat k)),c1,c2,c3,(ieq ((x (toN (itmod (wr .i64 (iadd z (ofNat b))) (ofNat n))))).dir 2),(apOK m 1 8),c2,c3]) (ilt (ofNat b) (ofNat n)) (ieq (ofNat n) 0) (band (ile 0 (itmod (wr .i64 (iadd z (ofNat b))) (ofNat n))) (ilt (itmod (wr .i64 (iadd z (ofNat b))) (ofNat n)) (ofNat n))) (nlt (toN (itmod (wr .i64 (iadd z (ofNat b))) (ofNat n))) n))) (by kernel_rfl) (by simp only [h20] <;> simp only [h0,h1,h2,h3,h4,h21] <;> rfl)
end
theorem ww59 (L:LT) (p0:PT) (a:Int) (n k kk:Nat) (g:Nat->E6) (th lo:Nat->Int) (tt:Int) (c0:Nat->V) (x0:Nat->Ev5) (r0:Nat->Int) (ln:Nat->Nat) (co:Nat->Nat->Int) (ts:List V) (us:List V) (b m:Nat) (z la:Int) (x:Nat->Ev5) (r w:Nat->Int) (h14:jagsLive [.jag (Jag.mk 25 1 k (fun _=>.und) 0 3 1 (fun _=>true) (fun _=>0) (fun _ _=>.und))] = true) (h15:allN k (fun i=>(allN (ln i) (fun _=>true))) = true) (h16:smallN n = true) (h17:apOK k 1 24 = true) (hp0:p0 (body59 (onP 0 p0 (en59e a n k kk g th lo tt c0 x0 r0 ln co us b m z la x r w) L)) (ent59 a n k kk g th lo tt c0 x0 r0 ln co ts) = true):(evalF tab ⟨callT tb59,(onP 0 p0 (en59e a n k kk g th lo tt c0 x0 r0 ln co us b m z la x r w) L),Gl⟩ Try.f59 [.agg [iV a,.ref 1,.ref 5,iV tt,nV kk,.ref 6,.jref 7],nV k] [(.cells [(iV 0),.nilS,.nilS,(iV 0),(iV 0),.nilS,.nilS]),(.row 44 6 n (fun i=>eV (g i))),(.row 3 1 n (fun i=>iV (th i))),(.row 3 1 n (fun i=>iV (lo i))),(.cells [(iV a),(.ref 1),(.ref 5),(iV tt),(nV kk),(.ref 6),(.jref 7)]),(.row 40 5 n (fun i=>evV (x0 i))),(.row 3 1 n (fun i=>iV (r0 i))),(.jag (Jag.mk 25 1 k c0 0 3 1 (fun _=>true) ln (fun i q=>iV (co i q)))),.saved ts]).sem = some ((.agg [(iV a),(.ref 1),(.ref 5),(iV tt),(nV kk),(.ref 6),(.jref 7)]),[(.cells [(iV 0),.nilS,.nilS,(iV 0),(iV 0),.nilS,.nilS]),(.row 44 6 n (fun i=>(eV (g i)))),(.row 3 1 n (fun i=>(iV (th i)))),(.row 3 1 n (fun i=>(iV (lo i)))),(.cells [(iV a),(.ref 1),(.ref 5),(iV tt),(nV kk),(.ref 6),.und]),(.row 40 5 n (fun i=>(.agg [(iV ((x i)).th),(iV ((x i)).pl),(iV ((x i)).dir),(iV ((x i)).loc),(iV ((x i)).val)]))),(.row 3 1 n (fun i=>(iV (r i)))),(.jag (Jag.mk 25 1 (nadd k 1) (pushGet k c0 .und) 0 3 1 (fun i=>(sel (nbeq i k) true true)) (fun i=>(sel (nbeq i k) m (ln i))) (fun i i_1=>(setM (fun i_2 i_3=>(iV (co i_2 i_3))) k (fun i_2=>(iV (w i_2))) i i_1)))),(.saved (kill.kills 7 (kill.kills 12 (kill.kills 11 us)))),(.cells [(iV a),(.ref 1),(.ref 5),(iV tt),(nV kk),(.ref 6),(.jref 7)]),(.cells [(iV a),(.ref 1),(.ref 5),(iV tt),(nV kk),(.ref 6),(.jref 7)]),.dead,.dead]):=by
  exact sem_of_path (ds:=bbK 10 1023) (cs:=[(jagsLive [.jag (Jag.mk 25 1 k (fun _=>.und) 0 3 1 (fun _=>true) (fun _=>0) (fun _ _=>.und))]),(allN n (fun _=>true)),(allN n (fun _=>true)),(allN n (fun _=>true)),(allN k (fun i=>(allN (ln i) (fun _=>true)))),(nbeq n n),(smallN n),(p0 (body59 (onP 0 p0 (en59e a n k kk g th lo tt c0 x0 r0 ln co us b m z la x r w) L)) (ent59 a n k kk g th lo tt c0 x0 r0 ln co ts)),true,(apOK k 1 24)]) (by kernel_rfl) (by simp only [hp0] <;> simp only [h14,h15,h16,h17,allN_true,nbeq_self] <;> rfl)
theorem lstN_congr {p q:Nat->Bool} {n:Nat} (h:∀ i,i < n->p i = q i):lstN p n = lstN q n:=by
  by_cases hp:∃ k,k < n ∧ p k = true
  · obtain ⟨k,hk,hpk⟩:=hp
    obtain ⟨h1,h2,h3⟩:=lstN_some hk hpk
    exact (lstN_at (p:=q) (by omega) (by rw [<- h _ (by omega)]; exact h2) (fun i hi=>by rw [<- h i (by omega)]; exact h3 i hi)).symm
  · have h1:∀ i,i < n->p i = false:=fun i hi=>by
      cases hpi:p i with
      | false=>rfl
      | true=>exact absurd ⟨i,hi,hpi⟩ hp
    rw [lstN_none h1,lstN_none fun i hi=>by rw [<- h i hi]; exact h1 i hi]
theorem firstI_ev {n:Nat} {g:Nat->E6} {d:Nat->Bool} {k:Nat} (hk:k < kkN n g):firstI n g (evF n g d) (ofNat k) = ofNat (stN (mbF g) n k):=by
  have:lstN (isFst n g (evF n g d) (ofNat k)) n = stN (mbF g) n k:=lstN_congr fun i hi=>by
    unfold isFst
    rw [evF_in hi,lo_N hi,ieq_nat,Bool.and_comm]
    rfl
  unfold firstI
  rw [this,decide_eq_true (stN_spec hk).1]
  rfl
def wvF (n:Nat) (g:Nat->E6) (z b q:Nat):Int:=if q < wcN (wrF g) n z b then ofNat (coN (mbF g) (wrF g) n (loN n g z) q) else 0
theorem wvF_push {n:Nat} {g:Nat->E6} {z b:Nat} (hz:z < n) (hst:isSt (mbF g) n z = true) (hb:b < n) (hw:wrF g (rnd n z b) = true) :
    pushGet (wcN (wrF g) n z b) (fun i=>iV (wvF n g z b i)) (iV (ofNat (rnd n z b))) = fun i=>iV (wvF n g z (b+1) i):=by
  funext q
  rw [pushGet_eq]
  have h2:stN (mbF g) n (loN n g z) = z:=stN_at hz hst
  unfold wvF
  rw [wc_t hw]
  by_cases hq:q = wcN (wrF g) n z b
  · subst hq
    rw [Nat.beq_refl,if_pos (Nat.lt_succ_self _)]
    unfold coN
    rw [h2,wrAt_at hb hw]
    rfl
  · rw [nbeq_ne hq]
    by_cases h3:q < wcN (wrF g) n z b
    · rw [if_pos h3,if_pos (by omega)]; rfl
    · rw [if_neg h3,if_neg (by omega)]; rfl
theorem wvF_same {n:Nat} {g:Nat->E6} {z b:Nat} (hw:wrF g (rnd n z b) = false):wvF n g z (b+1) = wvF n g z b:=by
  funext q
  unfold wvF
  rw [wc_f hw]
def Simple12 (F:V->V):Prop:=(∀ k x,F (.val (.int k x)) = .val (.int k x)) ∧ ∀ i o,i < 7->F (.ptr i o) = .ptr i o
theorem Simple12.comp {F G:V->V} (hF:Simple12 F) (hG:Simple12 G):Simple12 (fun v=>G (F v)):=⟨fun k x=>by show G (F _) = _; rw [hF.1,hG.1],fun i o h=>by show G (F _) = _; rw [hF.2 i o h,hG.2 i o h]⟩
theorem simple12_forget:Simple12 (forgetV 12):=⟨fun _ _=>rfl,fun i o h=>by
  unfold forgetV below
  rw [show Nat.blt i 12 = true from Nat.ble_eq_true_of_le (by omega)]⟩
theorem simple12_kill (id:Nat):Simple12 (kill id):=⟨fun _ _=>rfl,fun _ _ _=>rfl⟩
theorem run59 (a:Int) (n z:Nat) (g:Nat->E6) (th lo:Nat->Int) (tt:Int) (c0:Nat->V) (x0:Nat->Ev5) (r0:Nat->Int) (ln:Nat->Nat) (co:Nat->Nat->Int) (hz:z < n) (hst:isSt (mbF g) n z = true) (h8:n <= 16) :
    ∀ (e b:Nat) (q:Nat),lenN (mbF g) n z = b+e->e < q->∃ F,Simple12 F ∧ ∀ (L:LT) (ts0 ts:List V) (j:Nat->V),
    (iterT (body59 L) (lp59 a n (loN n g z) (kkN n g) g th lo tt c0 x0 r0 ln co ts0) q (st59 a n (loN n g z) (kkN n g) g th lo tt c0 x0 r0 ln co ts b (wcN (wrF g) n z b) (ofNat z) (wlN (wrF g) n z b) (evF n g (dnF n g (loN n g) (loN n g z) b)) (rfF n g (dnF n g (loN n g) (loN n g z) b)) (wvF n g z b) j)).sem
      = some (en59e a n (loN n g z) (kkN n g) g th lo tt c0 x0 r0 ln co (ts.map F) 0 (wcN (wrF g) n z (lenN (mbF g) n z)) 0 0 (evF n g (dnF n g (loN n g) (loN n g z+1) 0)) (rfF n g (dnF n g (loN n g) (loN n g z+1) 0)) (wvF n g z (lenN (mbF g) n z))):=by
  intro e
  have hrk:Rank (mbF g) n (loN n g):=rank_part (mbF g) n
  obtain ⟨l1,l2,l3,l4⟩:=len_spec hz hst
  have hkk:=kk_of_st hz hst
  have hwc:∀ b,b <= n->wcN (wrF g) n z b <= n:=fun b hb=>Nat.le_trans (cntB_le _ _) hb
  induction e with
  | zero =>
    intro b q hb hq
    obtain ⟨q,rfl⟩:∃ q',q = q'+1:=⟨q - 1,by omega⟩
    have hbl:lenN (mbF g) n z = b:=by omega
    have hde:=dnF_end hrk hz hst
    rw [hbl] at hde
    refine ⟨_,simple12_forget,fun L ts0 ts j=>?_⟩
    rw [<- hde,hbl,show lp59 a n (loN n g z) (kkN n g) g th lo tt c0 x0 r0 ln co ts0 = lp59 a n (loN n g z) (kkN n g) g th lo tt c0 x0 r0 ln co ts from rfl]
    by_cases hbn:b = n
    · rw [iter_round (rw59e L a n (loN n g z) (kkN n g) g th lo tt c0 x0 r0 ln co ts b (wcN (wrF g) n z b) (ofNat z) (wlN (wrF g) n z b) (evF n g (dnF n g (loN n g) (loN n g z) b)) (rfF n g (dnF n g (loN n g) (loN n g z) b)) (wvF n g z b) j (ofNat_ge (by omega))),goOn_ex,forgets_map]
      rfl
    · have hbn:b < n:=by omega
      have hX:(itmod (wr .i64 (iadd (ofNat z) (ofNat b))) (ofNat n)) = ofNat (rnd n z b):=by rw [wr_add (by omega),mod_nat]; rfl
      have hlt:rnd n z b < n:=rnd_lt (by omega)
      have hin:band (ile 0 (itmod (wr .i64 (iadd (ofNat z) (ofNat b))) (ofNat n))) (ilt (itmod (wr .i64 (iadd (ofNat z) (ofNat b))) (ofNat n)) (ofNat n)) = true:=by rw [hX]; exact ofNat_in hlt
      have hnl:nlt (toN (itmod (wr .i64 (iadd (ofNat z) (ofNat b))) (ofNat n))) n = true:=by rw [hX]; exact decide_eq_true hlt
      have hlc:ieq (evF n g (dnF n g (loN n g) (loN n g z) b) (toN (itmod (wr .i64 (iadd (ofNat z) (ofNat b))) (ofNat n)))).loc (ofNat (loN n g z)) = false:=by
        rw [hX,show toN (ofNat (rnd n z b)) = rnd n z b from rfl,evF_in hlt]
        show ieq (loF n g (rnd n z b)) _ = false
        rw [lo_N hlt,ieq_nat]
        apply decide_eq_false
        have hs:isSt (mbF g) n (rnd n z b) = true:=by
          unfold isSt
          rw [rnd_rnd,show b+(n - 1) = (b - 1)+n by omega,rnd_n,<- hbl]
          exact l3
        intro he
        have h2:=(rank_part (mbF g) n).apart hlt hz hs hst he
        have h3:rnd n z b = rnd n z 0:=by rw [h2,rnd_0 hz]
        have:=rnd_inj hz hbn (by omega) h3
        omega
      rw [iter_round (rw59x L a n (loN n g z) (kkN n g) g th lo tt c0 x0 r0 ln co ts b (wcN (wrF g) n z b) (ofNat z) (wlN (wrF g) n z b) (evF n g (dnF n g (loN n g) (loN n g z) b)) (rfF n g (dnF n g (loN n g) (loN n g z) b)) (wvF n g z b) j (ofNat_lt hbn) (ieq0 (by omega)) hin hnl hlc),goOn_ex,forgets_map]
      rfl
  | succ e ih =>
    intro b q hb hq
    obtain ⟨q,rfl⟩:∃ q',q = q'+1:=⟨q - 1,by omega⟩
    have hbn:b < n:=by omega
    have hbl:b < lenN (mbF g) n z:=by omega
    have hX:(itmod (wr .i64 (iadd (ofNat z) (ofNat b))) (ofNat n)) = ofNat (rnd n z b):=by rw [wr_add (by omega),mod_nat]; rfl
    have hlt:rnd n z b < n:=rnd_lt (by omega)
    have hin:band (ile 0 (itmod (wr .i64 (iadd (ofNat z) (ofNat b))) (ofNat n))) (ilt (itmod (wr .i64 (iadd (ofNat z) (ofNat b))) (ofNat n)) (ofNat n)) = true:=by rw [hX]; exact ofNat_in hlt
    have hnl:nlt (toN (itmod (wr .i64 (iadd (ofNat z) (ofNat b))) (ofNat n))) n = true:=by rw [hX]; exact decide_eq_true hlt
    have hap:apOK (wcN (wrF g) n z b) 1 8 = true:=by
      have:=hwc b (by omega)
      exact ap_ok (by omega)
    have hdn:=dnF_next hrk hz hst hbl
    have hin':=inSeg_at hz hst hbl
    have hv:=val_at (w:=wrF g) hin'
    have hlc:ieq (evF n g (dnF n g (loN n g) (loN n g z) b) (toN (itmod (wr .i64 (iadd (ofNat z) (ofNat b))) (ofNat n)))).loc (ofNat (loN n g z)) = true:=by
      rw [hX,show toN (ofNat (rnd n z b)) = rnd n z b from rfl,evF_in hlt]
      show ieq (loF n g (rnd n z b)) _ = true
      rw [lo_N hlt,hrk.same hin',ieq_nat]
      exact decide_eq_true rfl
    cases hw:wrF g (rnd n z b) with
    | true =>
      have hW:ieq (evF n g (dnF n g (loN n g) (loN n g z) b) (toN (itmod (wr .i64 (iadd (ofNat z) (ofNat b))) (ofNat n)))).dir 2 = true:=by rw [hX,show toN (ofNat (rnd n z b)) = rnd n z b from rfl,evF_in hlt]; exact hw
      obtain ⟨F,hF,h⟩:=ih (b+1) q (by omega) (by omega)
      refine ⟨_,(((simple12_kill 11).comp simple12_forget).comp hF),fun L ts0 ts j=>?_⟩
      have h:=h L ts (forgets 12 (kill.kills 11 ts)) (fun _=>.und)
      rw [show lp59 a n (loN n g z) (kkN n g) g th lo tt c0 x0 r0 ln co ts0 = lp59 a n (loN n g z) (kkN n g) g th lo tt c0 x0 r0 ln co ts from rfl,iter_round (rw59w L a n (loN n g z) (kkN n g) g th lo tt c0 x0 r0 ln co ts b (wcN (wrF g) n z b) (ofNat z) (wlN (wrF g) n z b) (evF n g (dnF n g (loN n g) (loN n g z) b)) (rfF n g (dnF n g (loN n g) (loN n g z) b)) (wvF n g z b) j (ofNat_lt hbn) (ieq0 (by omega)) hin hnl hlc hW hap),goOn_nm]
      rw [hX,succ_wr hbn (by omega),show toN (ofNat (rnd n z b)) = rnd n z b from rfl,show nadd (wcN (wrF g) n z b) 1 = wcN (wrF g) n z b+1 from rfl,ev_set hlt hdn (by rw [hv,wc_t hw]),wvF_push hz hst hbn hw,<- rf_keep hdn hw]
      rw [wl_t hw,wc_t hw,forgets_map,kills_map,List.map_map,List.map_map] at h
      rw [forgets_map,kills_map,List.map_map]
      exact h
    | false =>
      have hW:ieq (evF n g (dnF n g (loN n g) (loN n g z) b) (toN (itmod (wr .i64 (iadd (ofNat z) (ofNat b))) (ofNat n)))).dir 2 = false:=by rw [hX,show toN (ofNat (rnd n z b)) = rnd n z b from rfl,evF_in hlt]; exact hw
      obtain ⟨F,hF,h⟩:=ih (b+1) q (by omega) (by omega)
      refine ⟨_,(simple12_forget.comp hF),fun L ts0 ts j=>?_⟩
      have h:=h L ts (forgets 12 ts) (fun _=>.und)
      rw [show lp59 a n (loN n g z) (kkN n g) g th lo tt c0 x0 r0 ln co ts0 = lp59 a n (loN n g z) (kkN n g) g th lo tt c0 x0 r0 ln co ts from rfl,iter_round (rw59r L a n (loN n g z) (kkN n g) g th lo tt c0 x0 r0 ln co ts b (wcN (wrF g) n z b) (ofNat z) (wlN (wrF g) n z b) (evF n g (dnF n g (loN n g) (loN n g z) b)) (rfF n g (dnF n g (loN n g) (loN n g z) b)) (wvF n g z b) j (ofNat_lt hbn) (ieq0 (by omega)) hin hnl hlc hW),goOn_nm]
      rw [hX,succ_wr hbn (by omega),show toN (ofNat (rnd n z b)) = rnd n z b from rfl,ev_set hlt hdn (by rw [hv,wc_f hw]),rf_set hdn (rf_at hin' hw).symm]
      rw [wl_f hw,wc_f hw,wvF_same hw,forgets_map,List.map_map] at h
      rw [forgets_map]
      exact h
end Go.Proofs.Ytjhnfomefcngfaa.Sh
