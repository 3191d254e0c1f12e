/-
  Layer 7: whether lists of numbers, lists of these, shapes are the same. No conditions.
-/
import Derived.Test.YtjhnfomefcngfaaShF
namespace Go.Proofs.Ytjhnfomefcngfaa.Sh
open Go.Sy Ed
open Int (ofNat)
set_option maxHeartbeats 1000000
set_option maxRecDepth 4000
theorem small_le {n:Nat} (h:smallN n = true):n <= 4611686018427387904:=of_decide_eq_true h
theorem band_t {a b:Bool} (h:a = true):band a b = b:=by rw [h]; rfl
theorem band_f {a b:Bool} (h:a = false):band a b = false:=by rw [h]; rfl
theorem of_nat_eq {n m:Nat} (h:ieq (ofNat n) (ofNat m) = true):n = m:=by
  rw [ieq_nat] at h
  exact of_decide_eq_true h
def sameI (n:Nat) (f:Nat->Int) (m:Nat) (g:Nat->Int):Bool:=band (ieq (ofNat n) (ofNat m)) (allN n fun k=>ieq (f k) (g k))
def lp61 (n:Nat) (_:Nat->Int) (_:Nat) (_:Nat->Int):Lp:=⟨(bmK 26 0 [0,1,4,5]),0,(bmK 26 0 [4]),0,n+1⟩
def st61 (n:Nat) (f:Nat->Int) (m:Nat) (g:Nat->Int) (b:Nat) (j:Nat->V):St:=⟨(jsV 26 0 j [(0,.sl 1 n (fun i=>iV (f i))),(1,.sl 1 m (fun i=>iV (g i))),(4,bV false),(5,nV b)]),[]⟩
def en61f (_:Nat) (_:Nat->Int) (_:Nat) (_:Nat->Int) (_:Nat):Ex × St:=(.rt,⟨(jsV 26 0 (fun _=>.und) [(4,bV false)]),[]⟩)
def en61e (_:Nat) (_:Nat->Int) (_:Nat) (_:Nat->Int) (_:Nat):Ex × St:=(.ex 0,⟨(jsV 26 0 (fun _=>.und) [(4,bV false)]),[]⟩)
noncomputable def body61 (L:LT):St->T (Ex × St):=fun st=>evalC tab ⟨callT tb0,L,Gl⟩ (loopBody Try.f61 0) 0 st
section
variable (L:LT) (n:Nat) (f:Nat->Int) (m:Nat) (g:Nat->Int) (b:Nat)  (j:Nat->V)
include L n f m g b j
theorem r61e (h0:ilt (ofNat b) (ofNat n) = false):roundT (body61 L) (lp61 n f m g) (st61 n f m g b j) = some ((.ex 0),⟨(jsV 26 0 (fun _=>.und) [(4,(bV false))]),[]⟩):=by
  exact sem_of_path (ds:=[false]) (cs:=[(ilt (ofNat b) (ofNat n))]) (by kernel_rfl) (by simp only [h0] <;> rfl)
theorem r61f (h0:ilt (ofNat b) (ofNat n) = true) (h15:ile 0 (ofNat b) = true) (h1:ilt (ofNat b) (ofNat m) = true) (h2:ieq (f b) (g b) = false):roundT (body61 L) (lp61 n f m g) (st61 n f m g b j) = some (.rt,⟨(jsV 26 0 (fun _=>.und) [(4,(bV false))]),[]⟩):=by
  exact sem_of_path (ds:=[true,true,true,true]) (cs:=[(ilt (ofNat b) (ofNat n)),(band (ile 0 (ofNat b)) (ilt (ofNat b) (ofNat n))),(band (ile 0 (ofNat b)) (ilt (ofNat b) (ofNat m))),(bnot (ieq (f b) (g b)))]) (by kernel_rfl) (by simp only [h0,h15,h1,h2] <;> rfl)
theorem r61n (h0:ilt (ofNat b) (ofNat n) = true) (h15:ile 0 (ofNat b) = true) (h1:ilt (ofNat b) (ofNat m) = true) (h2:ieq (f b) (g b) = true):roundT (body61 L) (lp61 n f m g) (st61 n f m g b j) = some (.nm,⟨(jsV 26 0 (fun _=>.und) [(0,(.sl 1 n (fun i=>(iV (f i))))),(1,(.sl 1 m (fun i=>(iV (g i))))),(4,(bV false)),(5,(iV (wr .i64 (iadd (ofNat b) 1))))]),[]⟩):=by
  exact sem_of_path (ds:=[true,true,true,false]) (cs:=[(ilt (ofNat b) (ofNat n)),(band (ile 0 (ofNat b)) (ilt (ofNat b) (ofNat n))),(band (ile 0 (ofNat b)) (ilt (ofNat b) (ofNat m))),(bnot (ieq (f b) (g b)))]) (by kernel_rfl) (by simp only [h0,h15,h1,h2] <;> rfl)
end
def jk61 (n:Nat) (f:Nat->Int) (m:Nat) (g:Nat->Int) :Nat->V:=lkV undefV [(6,(.sl 1 n (fun i=>(iV (f i))))),(7,(nV n)),(8,(.sl 1 m (fun i=>(iV (g i))))),(9,(nV m)),(10,(bV (bnot (ieq (ofNat n) (ofNat m)))))]
theorem w61l (L:LT) (n:Nat) (f:Nat->Int) (m:Nat) (g:Nat->Int) (h0:ieq (ofNat n) (ofNat m) = false):(finF (evalF tab ⟨callT tb0,L,Gl⟩ Try.f61 [.sl 1 n (fun i=>iV (f i)),.sl 1 m (fun i=>iV (g i))] [])).sem = some ((bV false),[]):=by
  exact sem_of_path (ds:=[true]) (cs:=[(bnot (ieq (ofNat n) (ofNat m)))]) (by kernel_rfl) (by simp only [h0] <;> rfl)
section
variable (L:LT) (p0:PT) (n:Nat) (f:Nat->Int) (m:Nat) (g:Nat->Int) (q:Nat)
include L p0 n f m g q
theorem w61f (h0:ieq (ofNat n) (ofNat m) = true) (hp0:p0 (body61 (onP 0 p0 (en61f n f m g q) L)) (st61 n f m g 0 (jk61 n f m g )) = true):(finF (evalF tab ⟨callT tb0,(onP 0 p0 (en61f n f m g q) L),Gl⟩ Try.f61 [.sl 1 n (fun i=>iV (f i)),.sl 1 m (fun i=>iV (g i))] [])).sem = some ((bV false),[]):=by
  exact sem_of_path (ds:=[false,true]) (cs:=[(bnot (ieq (ofNat n) (ofNat m))),(p0 (body61 (onP 0 p0 (en61f n f m g q) L)) (st61 n f m g 0 (jk61 n f m g )))]) (by kernel_rfl) (by simp only [hp0] <;> simp only [h0] <;> rfl)
theorem w61e (h0:ieq (ofNat n) (ofNat m) = true) (hp0:p0 (body61 (onP 0 p0 (en61e n f m g q) L)) (st61 n f m g 0 (jk61 n f m g )) = true):(finF (evalF tab ⟨callT tb0,(onP 0 p0 (en61e n f m g q) L),Gl⟩ Try.f61 [.sl 1 n (fun i=>iV (f i)),.sl 1 m (fun i=>iV (g i))] [])).sem = some ((bV true),[]):=by
  exact sem_of_path (ds:=[false,true]) (cs:=[(bnot (ieq (ofNat n) (ofNat m))),(p0 (body61 (onP 0 p0 (en61e n f m g q) L)) (st61 n f m g 0 (jk61 n f m g )))]) (by kernel_rfl) (by simp only [hp0] <;> simp only [h0] <;> rfl)
end
theorem run61 (L:LT) (n:Nat) (f:Nat->Int) (m:Nat) (g:Nat->Int) (hn:n <= 4611686018427387904) (hm:n = m):∀ (e b:Nat) (j:Nat->V) (q:Nat),n = b+e->e < q->(∀ k,k < b->ieq (f k) (g k) = true) ->
    ((iterT (body61 L) (lp61 n f m g) q (st61 n f m g b j)).sem = some (en61f n f m g 0) ∧ (allN n fun k=>ieq (f k) (g k)) = false) ∨ ((iterT (body61 L) (lp61 n f m g) q (st61 n f m g b j)).sem = some (en61e n f m g 0) ∧ (allN n fun k=>ieq (f k) (g k)) = true)
  | 0,b,j,q+1,h,_,hb=>by
    have:n = b:=by omega
    subst this
    exact .inr ⟨iter_round (r61e L n f m g n j (ofNat_ge (Nat.le_refl _))),allN_iff.2 hb⟩
  | e+1,b,j,q+1,h,h2,hb=>by
    have hl:b < n:=by omega
    cases hp:ieq (f b) (g b) with
    | false =>
      refine .inl ⟨?_,?_⟩
      · rw [iter_round (r61f L n f m g b j (ofNat_lt hl) (ofNat_0 b) (ofNat_lt (by omega)) hp),goOn_rt]
        rfl
      · cases ha:(allN n fun k=>ieq (f k) (g k)) with
        | false=>rfl
        | true =>
          have:=allN_iff.1 ha b hl
          rw [hp] at this
          cases this
    | true =>
      have next:=run61 L n f m g hn hm e (b+1) (fun _=>.und) q (by omega) (by omega) fun k hk=>by
        by_cases hki:k = b
        · rw [hki]; exact hp
        · exact hb k (by omega)
      rw [iter_round (r61n L n f m g b j (ofNat_lt hl) (ofNat_0 b) (ofNat_lt (by omega)) hp),goOn_nm,succ_wr hl hn]
      exact next
def sameIT:List V->T (V × List Blk)
  | [v,u]=>apG codI v fun n f=>apG codI u fun m g=>.br (smallN n) (.leaf (bV (sameI n f m g),[])) .fail
  | _=>.fail
theorem p61:PureC Try.prog Gl 61 sameIT:=by
  refine pureC_intro tabOK mixed Try.func61 (by kernel_rfl) (by kernel_rfl) fun vs v h' h=>?_
  unfold sameIT at h
  split at h
  · rename_i v1 u1
    obtain ⟨n,f,a1,h⟩:=apG_some h
    obtain ⟨m,g,a2,h⟩:=apG_some h
    obtain ⟨hn,h⟩:=sem_br_fail h
    have:=sem_leaf h
    simp only [Prod.mk.injEq] at this
    obtain ⟨rfl,rfl⟩:=this
    have hA:ArgLE [v1,u1] [.sl 1 n (fun i=>iV (f i)),.sl 1 m (fun i=>iV (g i))]:=fun S w cs hv=>by
      obtain ⟨c,l,rfl,q1,c',l',rfl,q2,q3⟩:=hv
      exact ⟨c,_,rfl,a1 S w c q1,c',l',rfl,a2 S w c' q2,q3⟩
    have hx:=cx_ok tb0_ok [(0,lp61 n f m g)] (G:=Gl)
    have hL:=loopsBy_le [(0,lp61 n f m g)]
    refine ⟨_,cxOf Gl tb0 [(0,lp61 n f m g)],_,hA,rfl,hx.1,hx.2,?_,RowsLE.refl _⟩
    cases hl:ieq (ofNat n) (ofNat m) with
    | false =>
      rw [show sameI n f m g = false from band_f hl]
      exact w61l _ n f m g hl
    | true =>
      rw [show sameI n f m g = _ from band_t hl]
      have h0:=fun L j=>run61 L n f m g (small_le hn) (of_nat_eq hl) n 0 j (n+1) (by omega) (by omega) (fun k hk=>absurd hk (Nat.not_lt_zero _))
      cases ha:(allN n fun k=>ieq (f k) (g k)) with
      | false=>exact told_le (onP_le hL hL) _ (w61f _ _ n f m g 0 hl (isP_true ((h0 _ _).elim (fun h=>h.1) fun h=>by have:=h.2; rw [ha] at this; cases this)))
      | true=>exact told_le (onP_le hL hL) _ (w61e _ _ n f m g 0 hl (isP_true ((h0 _ _).elim (fun h=>by have:=h.2; rw [ha] at this; cases this) fun h=>h.1)))
  · cases h
def sameJ (n:Nat) (ln:Nat->Nat) (co:Nat->Nat->Int) (m:Nat) (ln':Nat->Nat) (co':Nat->Nat->Int):Bool:=band (ieq (ofNat n) (ofNat m)) (allN n fun k=>sameI (ln k) (co k) (ln' k) (co' k))
noncomputable def tb62:List (Nat × (List V->T (V × List Blk))):=[(61,sameIT)]
theorem tb62_ok:AllPure Try.prog Gl tb62:=.cons p61 .nil
def lp62 (n:Nat) (_:Nat->Nat) (_:Nat->Nat->Int) (_:Nat) (_:Nat->Nat) (_:Nat->Nat->Int):Lp:=⟨(bmK 27 0 [0,1,4,5]),0,(bmK 27 0 [4]),0,n+1⟩
def st62 (n:Nat) (ln:Nat->Nat) (co:Nat->Nat->Int) (m:Nat) (ln':Nat->Nat) (co':Nat->Nat->Int) (b:Nat) (j:Nat->V):St:=⟨(jsV 27 0 j [(0,.sl 1 n (fun u=>.sl 1 (ln u) (fun i=>iV (co u i)))),(1,.sl 1 m (fun u=>.sl 1 (ln' u) (fun i=>iV (co' u i)))),(4,bV false),(5,nV b)]),[]⟩
def en62f (_:Nat) (_:Nat->Nat) (_:Nat->Nat->Int) (_:Nat) (_:Nat->Nat) (_:Nat->Nat->Int) (_:Nat):Ex × St:=(.rt,⟨(jsV 27 0 (fun _=>.und) [(4,bV false)]),[]⟩)
def en62e (_:Nat) (_:Nat->Nat) (_:Nat->Nat->Int) (_:Nat) (_:Nat->Nat) (_:Nat->Nat->Int) (_:Nat):Ex × St:=(.ex 0,⟨(jsV 27 0 (fun _=>.und) [(4,bV false)]),[]⟩)
noncomputable def body62 (L:LT):St->T (Ex × St):=fun st=>evalC tab ⟨callT tb62,L,Gl⟩ (loopBody Try.f62 0) 0 st
section
variable (L:LT) (n:Nat) (ln:Nat->Nat) (co:Nat->Nat->Int) (m:Nat) (ln':Nat->Nat) (co':Nat->Nat->Int) (b:Nat)  (j:Nat->V)
include L n ln co m ln' co' b j
theorem r62e (h0:ilt (ofNat b) (ofNat n) = false):roundT (body62 L) (lp62 n ln co m ln' co') (st62 n ln co m ln' co' b j) = some ((.ex 0),⟨(jsV 27 0 (fun _=>.und) [(4,(bV false))]),[]⟩):=by
  exact sem_of_path (ds:=[false]) (cs:=[(ilt (ofNat b) (ofNat n))]) (by kernel_rfl) (by simp only [h0] <;> rfl)
theorem r62f (h0:ilt (ofNat b) (ofNat n) = true) (h15:ile 0 (ofNat b) = true) (h1:ilt (ofNat b) (ofNat m) = true) (h16:smallN (ln b) = true) (h2:sameI (ln b) (co b) (ln' b) (co' b) = false):roundT (body62 L) (lp62 n ln co m ln' co') (st62 n ln co m ln' co' b j) = some (.rt,⟨(jsV 27 0 (fun _=>.und) [(4,(bV false))]),[]⟩):=by
  exact sem_of_path (ds:=bbK 7 127) (cs:=[(ilt (ofNat b) (ofNat n)),(band (ile 0 (ofNat b)) (ilt (ofNat b) (ofNat n))),(band (ile 0 (ofNat b)) (ilt (ofNat b) (ofNat m))),(allN (ln b) (fun _=>true)),(allN (ln' b) (fun _=>true)),(smallN (ln b)),(bnot (sameI (ln b) (co b) (ln' b) (co' b)))]) (by kernel_rfl) (by simp only [h0,h15,h1,h16,h2,allN_true] <;> rfl)
theorem r62n (h0:ilt (ofNat b) (ofNat n) = true) (h15:ile 0 (ofNat b) = true) (h1:ilt (ofNat b) (ofNat m) = true) (h16:smallN (ln b) = true) (h2:sameI (ln b) (co b) (ln' b) (co' b) = true):roundT (body62 L) (lp62 n ln co m ln' co') (st62 n ln co m ln' co' b j) = some (.nm,⟨(jsV 27 0 (fun _=>.und) [(0,(.sl 1 n (fun u=>(.sl 1 (ln u) (fun i=>(iV (co u i))))))),(1,(.sl 1 m (fun u=>(.sl 1 (ln' u) (fun i=>(iV (co' u i))))))),(4,(bV false)),(5,(iV (wr .i64 (iadd (ofNat b) 1))))]),[]⟩):=by
  exact sem_of_path (ds:=bbK 7 63) (cs:=[(ilt (ofNat b) (ofNat n)),(band (ile 0 (ofNat b)) (ilt (ofNat b) (ofNat n))),(band (ile 0 (ofNat b)) (ilt (ofNat b) (ofNat m))),(allN (ln b) (fun _=>true)),(allN (ln' b) (fun _=>true)),(smallN (ln b)),(bnot (sameI (ln b) (co b) (ln' b) (co' b)))]) (by kernel_rfl) (by simp only [h0,h15,h1,h16,h2,allN_true] <;> rfl)
end
def jk62 (n:Nat) (ln:Nat->Nat) (co:Nat->Nat->Int) (m:Nat) (ln':Nat->Nat) (co':Nat->Nat->Int) :Nat->V:=lkV undefV [(6,(.sl 1 n (fun u=>(.sl 1 (ln u) (fun i=>(iV (co u i))))))),(7,(nV n)),(8,(.sl 1 m (fun u=>(.sl 1 (ln' u) (fun i=>(iV (co' u i))))))),(9,(nV m)),(10,(bV (bnot (ieq (ofNat n) (ofNat m)))))]
theorem w62l (L:LT) (n:Nat) (ln:Nat->Nat) (co:Nat->Nat->Int) (m:Nat) (ln':Nat->Nat) (co':Nat->Nat->Int) (h0:ieq (ofNat n) (ofNat m) = false):(finF (evalF tab ⟨callT tb62,L,Gl⟩ Try.f62 [.sl 1 n (fun u=>.sl 1 (ln u) (fun i=>iV (co u i))),.sl 1 m (fun u=>.sl 1 (ln' u) (fun i=>iV (co' u i)))] [])).sem = some ((bV false),[]):=by
  exact sem_of_path (ds:=[true]) (cs:=[(bnot (ieq (ofNat n) (ofNat m)))]) (by kernel_rfl) (by simp only [h0] <;> rfl)
section
variable (L:LT) (p0:PT) (n:Nat) (ln:Nat->Nat) (co:Nat->Nat->Int) (m:Nat) (ln':Nat->Nat) (co':Nat->Nat->Int) (q:Nat)
include L p0 n ln co m ln' co' q
theorem w62f (h0:ieq (ofNat n) (ofNat m) = true) (hp0:p0 (body62 (onP 0 p0 (en62f n ln co m ln' co' q) L)) (st62 n ln co m ln' co' 0 (jk62 n ln co m ln' co' )) = true):(finF (evalF tab ⟨callT tb62,(onP 0 p0 (en62f n ln co m ln' co' q) L),Gl⟩ Try.f62 [.sl 1 n (fun u=>.sl 1 (ln u) (fun i=>iV (co u i))),.sl 1 m (fun u=>.sl 1 (ln' u) (fun i=>iV (co' u i)))] [])).sem = some ((bV false),[]):=by
  exact sem_of_path (ds:=[false,true]) (cs:=[(bnot (ieq (ofNat n) (ofNat m))),(p0 (body62 (onP 0 p0 (en62f n ln co m ln' co' q) L)) (st62 n ln co m ln' co' 0 (jk62 n ln co m ln' co' )))]) (by kernel_rfl) (by simp only [hp0] <;> simp only [h0] <;> rfl)
theorem w62e (h0:ieq (ofNat n) (ofNat m) = true) (hp0:p0 (body62 (onP 0 p0 (en62e n ln co m ln' co' q) L)) (st62 n ln co m ln' co' 0 (jk62 n ln co m ln' co' )) = true):(finF (evalF tab ⟨callT tb62,(onP 0 p0 (en62e n ln co m ln' co' q) L),Gl⟩ Try.f62 [.sl 1 n (fun u=>.sl 1 (ln u) (fun i=>iV (co u i))),.sl 1 m (fun u=>.sl 1 (ln' u) (fun i=>iV (co' u i)))] [])).sem = some ((bV true),[]):=by
  exact sem_of_path (ds:=[false,true]) (cs:=[(bnot (ieq (ofNat n) (ofNat m))),(p0 (body62 (onP 0 p0 (en62e n ln co m ln' co' q) L)) (st62 n ln co m ln' co' 0 (jk62 n ln co m ln' co' )))]) (by kernel_rfl) (by simp only [hp0] <;> simp only [h0] <;> rfl)
end
theorem run62 (L:LT) (n:Nat) (ln:Nat->Nat) (co:Nat->Nat->Int) (m:Nat) (ln':Nat->Nat) (co':Nat->Nat->Int) (hn:n <= 4611686018427387904) (hm:n = m) (hs:∀ k,k < n->smallN (ln k) = true):∀ (e b:Nat) (j:Nat->V) (q:Nat),n = b+e->e < q->(∀ k,k < b->sameI (ln k) (co k) (ln' k) (co' k) = true) ->
    ((iterT (body62 L) (lp62 n ln co m ln' co') q (st62 n ln co m ln' co' b j)).sem = some (en62f n ln co m ln' co' 0) ∧ (allN n fun k=>sameI (ln k) (co k) (ln' k) (co' k)) = false) ∨ ((iterT (body62 L) (lp62 n ln co m ln' co') q (st62 n ln co m ln' co' b j)).sem = some (en62e n ln co m ln' co' 0) ∧ (allN n fun k=>sameI (ln k) (co k) (ln' k) (co' k)) = true)
  | 0,b,j,q+1,h,_,hb=>by
    have:n = b:=by omega
    subst this
    exact .inr ⟨iter_round (r62e L n ln co m ln' co' n j (ofNat_ge (Nat.le_refl _))),allN_iff.2 hb⟩
  | e+1,b,j,q+1,h,h2,hb=>by
    have hl:b < n:=by omega
    cases hp:sameI (ln b) (co b) (ln' b) (co' b) with
    | false =>
      refine .inl ⟨?_,?_⟩
      · rw [iter_round (r62f L n ln co m ln' co' b j (ofNat_lt hl) (ofNat_0 b) (ofNat_lt (by omega)) (hs b hl) hp),goOn_rt]
        rfl
      · cases ha:(allN n fun k=>sameI (ln k) (co k) (ln' k) (co' k)) with
        | false=>rfl
        | true =>
          have:=allN_iff.1 ha b hl
          rw [hp] at this
          cases this
    | true =>
      have next:=run62 L n ln co m ln' co' hn hm hs e (b+1) (fun _=>.und) q (by omega) (by omega) fun k hk=>by
        by_cases hki:k = b
        · rw [hki]; exact hp
        · exact hb k (by omega)
      rw [iter_round (r62n L n ln co m ln' co' b j (ofNat_lt hl) (ofNat_0 b) (ofNat_lt (by omega)) (hs b hl) hp),goOn_nm,succ_wr hl hn]
      exact next
def sameJT:List V->T (V × List Blk)
  | [v,u]=>apG codJ v fun n C=>apG codJ u fun m D=>.br (smallN n) (.br (allN n fun i=>smallN (C i).1) (.leaf (bV (sameJ n (fun i=>(C i).1) (fun i=>(C i).2) m (fun i=>(D i).1) (fun i=>(D i).2)),[])) .fail) .fail
  | _=>.fail
theorem p62:PureC Try.prog Gl 62 sameJT:=by
  refine pureC_intro tabOK mixed Try.func62 (by kernel_rfl) (by kernel_rfl) fun vs v h' h=>?_
  unfold sameJT at h
  split at h
  · rename_i v1 u1
    obtain ⟨n,C,a1,h⟩:=apG_some h
    obtain ⟨m,D,a2,h⟩:=apG_some h
    obtain ⟨hn,h⟩:=sem_br_fail h
    obtain ⟨hs,h⟩:=sem_br_fail h
    have hs:=allN_iff.1 hs
    have:=sem_leaf h
    simp only [Prod.mk.injEq] at this
    obtain ⟨rfl,rfl⟩:=this
    have hA:ArgLE [v1,u1] [.sl 1 n (fun u=>.sl 1 (C u).1 (fun i=>iV ((C u).2 i))),.sl 1 m (fun u=>.sl 1 (D u).1 (fun i=>iV ((D u).2 i)))]:=fun S w cs hv=>by
      obtain ⟨c,l,rfl,q1,c',l',rfl,q2,q3⟩:=hv
      exact ⟨c,_,rfl,a1 S w c q1,c',l',rfl,a2 S w c' q2,q3⟩
    generalize hln:(fun i=>(C i).1) = ln
    generalize hco:(fun i=>(C i).2) = co
    generalize hln':(fun i=>(D i).1) = ln'
    generalize hco':(fun i=>(D i).2) = co'
    have hx:=cx_ok tb62_ok [(0,lp62 n ln co m ln' co')] (G:=Gl)
    have hL:=loopsBy_le [(0,lp62 n ln co m ln' co')]
    refine ⟨_,cxOf Gl tb62 [(0,lp62 n ln co m ln' co')],_,hA,rfl,hx.1,hx.2,?_,RowsLE.refl _⟩
    have hs:∀ k,k < n->smallN (ln k) = true:=fun k hk=>by rw [<- hln]; exact hs k hk
    have e1:∀ u,(C u).1 = ln u:=fun u=>by rw [<- hln]
    have e2:∀ u,(C u).2 = co u:=fun u=>by rw [<- hco]
    have e3:∀ u,(D u).1 = ln' u:=fun u=>by rw [<- hln']
    have e4:∀ u,(D u).2 = co' u:=fun u=>by rw [<- hco']
    simp only [e1,e2,e3,e4]
    cases hl:ieq (ofNat n) (ofNat m) with
    | false =>
      rw [show sameJ n ln co m ln' co' = false from band_f hl]
      exact w62l _ n ln co m ln' co' hl
    | true =>
      rw [show sameJ n ln co m ln' co' = _ from band_t hl]
      have h0:=fun L j=>run62 L n ln co m ln' co' (small_le hn) (of_nat_eq hl) hs n 0 j (n+1) (by omega) (by omega) (fun k hk=>absurd hk (Nat.not_lt_zero _))
      cases ha:(allN n fun k=>sameI (ln k) (co k) (ln' k) (co' k)) with
      | false=>exact told_le (onP_le hL hL) _ (w62f _ _ n ln co m ln' co' 0 hl (isP_true ((h0 _ _).elim (fun h=>h.1) fun h=>by have:=h.2; rw [ha] at this; cases this)))
      | true=>exact told_le (onP_le hL hL) _ (w62e _ _ n ln co m ln' co' 0 hl (isP_true ((h0 _ _).elim (fun h=>by have:=h.2; rw [ha] at this; cases this) fun h=>h.1)))
  · cases h
def sameX (e e':Ev5):Bool:=band (ieq e.th e'.th) (band (ieq e.pl e'.pl) (band (ieq e.dir e'.dir) (band (ieq e.loc e'.loc) (band (ieq e.val e'.val) true))))
noncomputable def tb16:List (Nat × (List V->T (V × List Blk))):=[(60,sameT),(61,sameIT),(62,sameJT)]
theorem tb16_ok:AllPure Try.prog Gl tb16:=.cons p42 <| .cons p61 <| .cons p62 .nil
section
variable (L:LT) (a:Int) (n:Nat) (g:Nat->E6) (m:Nat) (x:Nat->Ev5) (t k:Int) (p:Nat) (r:Nat->Int) (q:Nat) (ln:Nat->Nat) (co:Nat->Nat->Int) (a':Int) (n':Nat) (g':Nat->E6) (m':Nat) (x':Nat->Ev5) (t' k':Int) (p':Nat) (r':Nat->Int) (q':Nat) (ln':Nat->Nat) (co':Nat->Nat->Int)
include L a n g m x t k p r q ln co a' n' g' m' x' t' k' p' r' q' ln' co'
theorem w16_0 (h0:ieq a a' = false):(finF (evalF tab ⟨callT tb16,L,Gl⟩ Try.f16 [.agg [iV a,.sl 6 n (fun i=>eV (g i)),.sl 5 m (fun i=>evV (x i)),iV t,iV k,.sl 1 p (fun i=>iV (r i)),.sl 1 q (fun u=>.sl 1 (ln u) (fun i=>iV (co u i)))],.agg [iV a',.sl 6 n' (fun i=>eV (g' i)),.sl 5 m' (fun i=>evV (x' i)),iV t',iV k',.sl 1 p' (fun i=>iV (r' i)),.sl 1 q' (fun u=>.sl 1 (ln' u) (fun i=>iV (co' u i)))]] [])).sem = some ((bV false),[]):=by
  exact sem_of_path (ds:=bbK 42 4398046511103) (cs:=((fun c0 c1=>[c0,c0,c0,c0,c0,c0,c1,c1,c1,c1,c1,c1,c1,c1,c1,c1,c1,c1,c1,c1,c1,c1,c1,c1,c1,c1,c1,c1,c1,c1,c1,c1,c1,c1,c1,c1,c1,c1,c1,c1,c1,c1]) (bnot (ieq a a')) (true))) (by kernel_rfl) (by simp only [h0] <;> rfl)
theorem w16_1 (h0:ieq a a' = true) (h1:ieq t t' = false):(finF (evalF tab ⟨callT tb16,L,Gl⟩ Try.f16 [.agg [iV a,.sl 6 n (fun i=>eV (g i)),.sl 5 m (fun i=>evV (x i)),iV t,iV k,.sl 1 p (fun i=>iV (r i)),.sl 1 q (fun u=>.sl 1 (ln u) (fun i=>iV (co u i)))],.agg [iV a',.sl 6 n' (fun i=>eV (g' i)),.sl 5 m' (fun i=>evV (x' i)),iV t',iV k',.sl 1 p' (fun i=>iV (r' i)),.sl 1 q' (fun u=>.sl 1 (ln' u) (fun i=>iV (co' u i)))]] [])).sem = some ((bV false),[]):=by
  exact sem_of_path (ds:=bbK 42 4398046511040) (cs:=((fun c0 c1 c2=>[c0,c0,c0,c0,c0,c0,c1,c1,c1,c1,c1,c1,c2,c2,c2,c2,c2,c2,c2,c2,c2,c2,c2,c2,c2,c2,c2,c2,c2,c2,c2,c2,c2,c2,c2,c2,c2,c2,c2,c2,c2,c2]) (bnot (ieq a a')) (bnot (ieq t t')) (true))) (by kernel_rfl) (by simp only [h0,h1] <;> rfl)
theorem w16_2 (h0:ieq a a' = true) (h1:ieq t t' = true) (h2:ieq k k' = false):(finF (evalF tab ⟨callT tb16,L,Gl⟩ Try.f16 [.agg [iV a,.sl 6 n (fun i=>eV (g i)),.sl 5 m (fun i=>evV (x i)),iV t,iV k,.sl 1 p (fun i=>iV (r i)),.sl 1 q (fun u=>.sl 1 (ln u) (fun i=>iV (co u i)))],.agg [iV a',.sl 6 n' (fun i=>eV (g' i)),.sl 5 m' (fun i=>evV (x' i)),iV t',iV k',.sl 1 p' (fun i=>iV (r' i)),.sl 1 q' (fun u=>.sl 1 (ln' u) (fun i=>iV (co' u i)))]] [])).sem = some ((bV false),[]):=by
  exact sem_of_path (ds:=bbK 42 4398046507008) (cs:=((fun c0 c1 c2 c3=>[c0,c0,c0,c0,c0,c0,c1,c1,c1,c1,c1,c1,c2,c2,c2,c2,c2,c2,c2,c3,c3,c3,c3,c3,c3,c3,c3,c3,c3,c3,c3,c3,c3,c3,c3,c3,c3,c3,c3,c3,c3,c3]) (bnot (ieq a a')) (bnot (ieq t t')) (bnot (ieq k k')) (true))) (by kernel_rfl) (by simp only [h0,h1,h2] <;> rfl)
theorem w16_3 (h0:ieq a a' = true) (h1:ieq t t' = true) (h2:ieq k k' = true) (h16:smallN n = true) (h3:sameB n g n' g' = false):(finF (evalF tab ⟨callT tb16,L,Gl⟩ Try.f16 [.agg [iV a,.sl 6 n (fun i=>eV (g i)),.sl 5 m (fun i=>evV (x i)),iV t,iV k,.sl 1 p (fun i=>iV (r i)),.sl 1 q (fun u=>.sl 1 (ln u) (fun i=>iV (co u i)))],.agg [iV a',.sl 6 n' (fun i=>eV (g' i)),.sl 5 m' (fun i=>evV (x' i)),iV t',iV k',.sl 1 p' (fun i=>iV (r' i)),.sl 1 q' (fun u=>.sl 1 (ln' u) (fun i=>iV (co' u i)))]] [])).sem = some ((bV false),[]):=by
  exact sem_of_path (ds:=bbK 45 35184368812032) (cs:=((fun c0 c1 c2 c3 c4=>[c0,c0,c0,c0,c0,c0,c1,c1,c1,c1,c1,c1,c2,c2,c2,c2,c2,(allN n (fun _=>true)),(allN n' (fun _=>true)),(smallN n),c2,c2,c3,c3,c3,c3,c3,c3,c3,c3,c4,c4,c4,c4,c4,c4,c4,c4,c4,c4,c4,c4,c4,c4,c4]) (bnot (ieq a a')) (bnot (ieq t t')) (bnot (ieq k k')) (bnot (sameB n g n' g')) (true))) (by kernel_rfl) (by simp only [h0,h1,h2,h16,h3,allN_true] <;> rfl)
theorem w16_4 (h0:ieq a a' = true) (h1:ieq t t' = true) (h2:ieq k k' = true) (h17:smallN n = true) (h3:sameB n g n' g' = true) (h4:ieq (ofNat m) (ofNat m') = false):(finF (evalF tab ⟨callT tb16,L,Gl⟩ Try.f16 [.agg [iV a,.sl 6 n (fun i=>eV (g i)),.sl 5 m (fun i=>evV (x i)),iV t,iV k,.sl 1 p (fun i=>iV (r i)),.sl 1 q (fun u=>.sl 1 (ln u) (fun i=>iV (co u i)))],.agg [iV a',.sl 6 n' (fun i=>eV (g' i)),.sl 5 m' (fun i=>evV (x' i)),iV t',iV k',.sl 1 p' (fun i=>iV (r' i)),.sl 1 q' (fun u=>.sl 1 (ln' u) (fun i=>iV (co' u i)))]] [])).sem = some ((bV false),[]):=by
  exact sem_of_path (ds:=bbK 45 35183299264512) (cs:=((fun c0 c1 c2 c3 c4 c5=>[c0,c0,c0,c0,c0,c0,c1,c1,c1,c1,c1,c1,c2,c2,c2,c2,c2,(allN n (fun _=>true)),(allN n' (fun _=>true)),(smallN n),c2,c2,c3,c3,c3,c3,c3,c3,c3,c3,c4,c4,c4,c4,c4,c4,c4,c5,c5,c5,c5,c5,c5,c5,c5]) (bnot (ieq a a')) (bnot (ieq t t')) (bnot (ieq k k')) (bnot (sameB n g n' g')) (bnot (ieq (ofNat m) (ofNat m'))) (true))) (by kernel_rfl) (by simp only [h0,h1,h2,h17,h3,h4,allN_true] <;> rfl)
theorem w16_5 (h0:ieq a a' = true) (h1:ieq t t' = true) (h2:ieq k k' = true) (h18:smallN n = true) (h3:sameB n g n' g' = true) (h4:ieq (ofNat m) (ofNat m') = true) (h19:smallN p = true) (h5:sameI p r p' r' = false):(finF (evalF tab ⟨callT tb16,L,Gl⟩ Try.f16 [.agg [iV a,.sl 6 n (fun i=>eV (g i)),.sl 5 m (fun i=>evV (x i)),iV t,iV k,.sl 1 p (fun i=>iV (r i)),.sl 1 q (fun u=>.sl 1 (ln u) (fun i=>iV (co u i)))],.agg [iV a',.sl 6 n' (fun i=>eV (g' i)),.sl 5 m' (fun i=>evV (x' i)),iV t',iV k',.sl 1 p' (fun i=>iV (r' i)),.sl 1 q' (fun u=>.sl 1 (ln' u) (fun i=>iV (co' u i)))]] [])).sem = some ((bV false),[]):=by
  exact sem_of_path (ds:=bbK 48 280615984168960) (cs:=((fun c0 c1 c2 c3 c4 c5=>[c0,c0,c0,c0,c0,c0,c1,c1,c1,c1,c1,c1,c2,c2,c2,c2,c2,(allN n (fun _=>true)),(allN n' (fun _=>true)),(smallN n),c2,c2,c3,c3,c3,c3,c3,c3,c3,c3,c4,c4,c4,c4,c4,(allN p (fun _=>true)),(allN p' (fun _=>true)),(smallN p),c4,c4,c5,c5,c5,c5,c5,c5,c5,true]) (bnot (ieq a a')) (bnot (ieq t t')) (bnot (ieq k k')) (bnot (sameB n g n' g')) (bnot (ieq (ofNat m) (ofNat m'))) (bnot (sameI p r p' r')))) (by kernel_rfl) (by simp only [h0,h1,h2,h18,h3,h4,h19,h5,allN_true] <;> rfl)
theorem w16_6 (h0:ieq a a' = true) (h1:ieq t t' = true) (h2:ieq k k' = true) (h19:smallN n = true) (h3:sameB n g n' g' = true) (h4:ieq (ofNat m) (ofNat m') = true) (h20:smallN p = true) (h5:sameI p r p' r' = true) (h21:allN q (fun i=>(allN (ln i) (fun _=>true))) = true) (h22:allN q' (fun i=>(allN (ln' i) (fun _=>true))) = true) (h23:smallN q = true) (h24:allN q (fun i=>(smallN (ln i))) = true) (h6:sameJ q ln (fun i i_1=>(co i i_1)) q' ln' (fun i i_1=>(co' i i_1)) = false):(finF (evalF tab ⟨callT tb16,L,Gl⟩ Try.f16 [.agg [iV a,.sl 6 n (fun i=>eV (g i)),.sl 5 m (fun i=>evV (x i)),iV t,iV k,.sl 1 p (fun i=>iV (r i)),.sl 1 q (fun u=>.sl 1 (ln u) (fun i=>iV (co u i)))],.agg [iV a',.sl 6 n' (fun i=>eV (g' i)),.sl 5 m' (fun i=>evV (x' i)),iV t',iV k',.sl 1 p' (fun i=>iV (r' i)),.sl 1 q' (fun u=>.sl 1 (ln' u) (fun i=>iV (co' u i)))]] [])).sem = some ((bV false),[]):=by
  exact sem_of_path (ds:=bbK 52 2779805914103808) (cs:=((fun c0 c1 c2 c3 c4 c5=>[c0,c0,c0,c0,c0,c0,c1,c1,c1,c1,c1,c1,c2,c2,c2,c2,c2,(allN n (fun _=>true)),(allN n' (fun _=>true)),(smallN n),c2,c2,c3,c3,c3,c3,c3,c3,c3,c3,c4,c4,c4,c4,c4,(allN p (fun _=>true)),(allN p' (fun _=>true)),(smallN p),c4,c4,c5,c5,c5,c5,c5,(allN q (fun i=>(allN (ln i) (fun _=>true)))),(allN q' (fun i=>(allN (ln' i) (fun _=>true)))),(smallN q),(allN q (fun i=>(smallN (ln i)))),c5,c5,(bnot (sameJ q ln (fun i i_1=>(co i i_1)) q' ln' (fun i i_1=>(co' i i_1))))]) (bnot (ieq a a')) (bnot (ieq t t')) (bnot (ieq k k')) (bnot (sameB n g n' g')) (bnot (ieq (ofNat m) (ofNat m'))) (bnot (sameI p r p' r')))) (by kernel_rfl) (by simp only [h0,h1,h2,h19,h3,h4,h20,h5,h21,h22,h23,h24,h6,allN_true] <;> rfl)
end
def lp16 (_:Int) (_:Nat) (_:Nat->E6) (m:Nat) (_:Nat->Ev5) (_ _:Int) (_:Nat) (_:Nat->Int) (_:Nat) (_:Nat->Nat) (_:Nat->Nat->Int) (_:Int) (_:Nat) (_:Nat->E6) (_:Nat) (_:Nat->Ev5) (_ _:Int) (_:Nat) (_:Nat->Int) (_:Nat) (_:Nat->Nat) (_:Nat->Nat->Int):Lp:=⟨(bmK 76 0 [2,3,4,5]),2,(bmK 76 0 [4]),0,m+1⟩
def st16 (a:Int) (n:Nat) (g:Nat->E6) (m:Nat) (x:Nat->Ev5) (t k:Int) (p:Nat) (r:Nat->Int) (q:Nat) (ln:Nat->Nat) (co:Nat->Nat->Int) (a':Int) (n':Nat) (g':Nat->E6) (m':Nat) (x':Nat->Ev5) (t' k':Int) (p':Nat) (r':Nat->Int) (q':Nat) (ln':Nat->Nat) (co':Nat->Nat->Int) (b:Nat) (j:Nat->V):St:=⟨(jsV 76 0 j [(2,.ptr 0 0),(3,.ptr 1 0),(4,bV false),(5,nV b)]),[(.cells [iV a,.sl 6 n (fun i=>eV (g i)),.sl 5 m (fun i=>evV (x i)),iV t,iV k,.sl 1 p (fun i=>iV (r i)),.sl 1 q (fun u=>.sl 1 (ln u) (fun i=>iV (co u i)))]),(.cells [iV a',.sl 6 n' (fun i=>eV (g' i)),.sl 5 m' (fun i=>evV (x' i)),iV t',iV k',.sl 1 p' (fun i=>iV (r' i)),.sl 1 q' (fun u=>.sl 1 (ln' u) (fun i=>iV (co' u i)))])]⟩
def en16f (_:Int) (_:Nat) (_:Nat->E6) (_:Nat) (_:Nat->Ev5) (_ _:Int) (_:Nat) (_:Nat->Int) (_:Nat) (_:Nat->Nat) (_:Nat->Nat->Int) (_:Int) (_:Nat) (_:Nat->E6) (_:Nat) (_:Nat->Ev5) (_ _:Int) (_:Nat) (_:Nat->Int) (_:Nat) (_:Nat->Nat) (_:Nat->Nat->Int) (_:Nat):Ex × St:=(.rt,⟨(jsV 76 0 (fun _=>.und) [(4,bV false)]),[]⟩)
def en16e (_:Int) (_:Nat) (_:Nat->E6) (_:Nat) (_:Nat->Ev5) (_ _:Int) (_:Nat) (_:Nat->Int) (_:Nat) (_:Nat->Nat) (_:Nat->Nat->Int) (_:Int) (_:Nat) (_:Nat->E6) (_:Nat) (_:Nat->Ev5) (_ _:Int) (_:Nat) (_:Nat->Int) (_:Nat) (_:Nat->Nat) (_:Nat->Nat->Int) (_:Nat):Ex × St:=(.ex 0,⟨(jsV 76 0 (fun _=>.und) [(4,bV false)]),[]⟩)
noncomputable def body16 (L:LT):St->T (Ex × St):=fun st=>evalC tab ⟨callT tb16,L,Gl⟩ (loopBody Try.f16 0) 0 st
section
variable (L:LT) (a:Int) (n:Nat) (g:Nat->E6) (m:Nat) (x:Nat->Ev5) (t k:Int) (p:Nat) (r:Nat->Int) (q:Nat) (ln:Nat->Nat) (co:Nat->Nat->Int) (a':Int) (n':Nat) (g':Nat->E6) (m':Nat) (x':Nat->Ev5) (t' k':Int) (p':Nat) (r':Nat->Int) (q':Nat) (ln':Nat->Nat) (co':Nat->Nat->Int) (b:Nat)  (j:Nat->V)
include L a n g m x t k p r q ln co a' n' g' m' x' t' k' p' r' q' ln' co' b j
theorem r16e (h0:ilt (ofNat b) (ofNat m) = false):roundT (body16 L) (lp16 a n g m x t k p r q ln co a' n' g' m' x' t' k' p' r' q' ln' co') (st16 a n g m x t k p r q ln co a' n' g' m' x' t' k' p' r' q' ln' co' b j) = some ((.ex 0),⟨(jsV 76 0 (fun _=>.und) [(4,(bV false))]),[]⟩):=by
  exact sem_of_path (ds:=[false]) (cs:=[(ilt (ofNat b) (ofNat m))]) (by kernel_rfl) (by simp only [h0] <;> rfl)
theorem r16n (h0:ilt (ofNat b) (ofNat m) = true) (h15:ile 0 (ofNat b) = true) (h1:ilt (ofNat b) (ofNat m') = true) (h2:band (ieq ((x b)).th ((x' b)).th) (band (ieq ((x b)).pl ((x' b)).pl) (band (ieq ((x b)).dir ((x' b)).dir) (band (ieq ((x b)).loc ((x' b)).loc) (band (ieq ((x b)).val ((x' b)).val) true)))) = true):roundT (body16 L) (lp16 a n g m x t k p r q ln co a' n' g' m' x' t' k' p' r' q' ln' co') (st16 a n g m x t k p r q ln co a' n' g' m' x' t' k' p' r' q' ln' co' b j) = some (.nm,⟨(jsV 76 0 (fun _=>.und) [(2,(.ptr 0 0)),(3,(.ptr 1 0)),(4,(bV false)),(5,(iV (wr .i64 (iadd (ofNat b) 1))))]),[(.cells [(iV a),(.sl 6 n (fun i=>(eV (g i)))),(.sl 5 m (fun i=>(.agg [(iV ((x i)).th),(iV ((x i)).pl),(iV ((x i)).dir),(iV ((x i)).loc),(iV ((x i)).val)]))),(iV t),(iV k),(.sl 1 p (fun i=>(iV (r i)))),(.sl 1 q (fun u=>(.sl 1 (ln u) (fun i=>(iV (co u i))))))]),(.cells [(iV a'),(.sl 6 n' (fun i=>(eV (g' i)))),(.sl 5 m' (fun i=>(.agg [(iV ((x' i)).th),(iV ((x' i)).pl),(iV ((x' i)).dir),(iV ((x' i)).loc),(iV ((x' i)).val)]))),(iV t'),(iV k'),(.sl 1 p' (fun i=>(iV (r' i)))),(.sl 1 q' (fun u=>(.sl 1 (ln' u) (fun i=>(iV (co' u i))))))])]⟩):=by
  exact sem_of_path (ds:=[true,true,true,false]) (cs:=[(ilt (ofNat b) (ofNat m)),(band (ile 0 (ofNat b)) (ilt (ofNat b) (ofNat m))),(band (ile 0 (ofNat b)) (ilt (ofNat b) (ofNat m'))),(bnot (band (ieq ((x b)).th ((x' b)).th) (band (ieq ((x b)).pl ((x' b)).pl) (band (ieq ((x b)).dir ((x' b)).dir) (band (ieq ((x b)).loc ((x' b)).loc) (band (ieq ((x b)).val ((x' b)).val) true))))))]) (by kernel_rfl) (by simp only [h2] <;> simp only [h0,h15,h1] <;> rfl)
theorem r16f (h0:ilt (ofNat b) (ofNat m) = true) (h15:ile 0 (ofNat b) = true) (h1:ilt (ofNat b) (ofNat m') = true) (h2:band (ieq ((x b)).th ((x' b)).th) (band (ieq ((x b)).pl ((x' b)).pl) (band (ieq ((x b)).dir ((x' b)).dir) (band (ieq ((x b)).loc ((x' b)).loc) (band (ieq ((x b)).val ((x' b)).val) true)))) = false):roundT (body16 L) (lp16 a n g m x t k p r q ln co a' n' g' m' x' t' k' p' r' q' ln' co') (st16 a n g m x t k p r q ln co a' n' g' m' x' t' k' p' r' q' ln' co' b j) = some (.rt,⟨(jsV 76 0 (fun _=>.und) [(4,(bV false))]),[]⟩):=by
  exact sem_of_path (ds:=[true,true,true,true]) (cs:=[(ilt (ofNat b) (ofNat m)),(band (ile 0 (ofNat b)) (ilt (ofNat b) (ofNat m))),(band (ile 0 (ofNat b)) (ilt (ofNat b) (ofNat m'))),(bnot (band (ieq ((x b)).th ((x' b)).th) (band (ieq ((x b)).pl ((x' b)).pl) (band (ieq ((x b)).dir ((x' b)).dir) (band (ieq ((x b)).loc ((x' b)).loc) (band (ieq ((x b)).val ((x' b)).val) true))))))]) (by kernel_rfl) (by simp only [h2] <;> simp only [h0,h15,h1] <;> rfl)
end
def jk16 (a:Int) (n:Nat) (g:Nat->E6) (m:Nat) (x:Nat->Ev5) (t k:Int) (p:Nat) (r:Nat->Int) (q:Nat) (ln:Nat->Nat) (co:Nat->Nat->Int) (a':Int) (n':Nat) (g':Nat->E6) (m':Nat) (x':Nat->Ev5) (t' k':Int) (p':Nat) (r':Nat->Int) (q':Nat) (ln':Nat->Nat) (co':Nat->Nat->Int) :Nat->V:=lkV undefV [(0,(.agg [(iV a),(.sl 6 n (fun i=>(eV (g i)))),(.sl 5 m (fun i=>(.agg [(iV ((x i)).th),(iV ((x i)).pl),(iV ((x i)).dir),(iV ((x i)).loc),(iV ((x i)).val)]))),(iV t),(iV k),(.sl 1 p (fun i=>(iV (r i)))),(.sl 1 q (fun u=>(.sl 1 (ln u) (fun i=>(iV (co u i))))))])),(1,(.agg [(iV a'),(.sl 6 n' (fun i=>(eV (g' i)))),(.sl 5 m' (fun i=>(.agg [(iV ((x' i)).th),(iV ((x' i)).pl),(iV ((x' i)).dir),(iV ((x' i)).loc),(iV ((x' i)).val)]))),(iV t'),(iV k'),(.sl 1 p' (fun i=>(iV (r' i)))),(.sl 1 q' (fun u=>(.sl 1 (ln' u) (fun i=>(iV (co' u i))))))])),(6,(.ptr 0 0)),(7,(iV a)),(8,(.ptr 1 0)),(9,(iV a')),(10,(bV (bnot (ieq a a')))),(11,(bV (bnot (ieq a a')))),(12,(.ptr 0 3)),(13,(iV t)),(14,(.ptr 1 3)),(15,(iV t')),(16,(bV (bnot (ieq t t')))),(17,(bV (bnot (ieq t t')))),(18,(bV (bnot (ieq t t')))),(19,(.ptr 0 4)),(20,(iV k)),(21,(.ptr 1 4)),(22,(iV k')),(23,(bV (bnot (ieq k k')))),(24,(bV (bnot (ieq k k')))),(25,(bV (bnot (ieq k k')))),(26,(.ptr 0 1)),(27,(.sl 6 n (fun i=>(eV (g i))))),(28,(.ptr 1 1)),(29,(.sl 6 n' (fun i=>(eV (g' i))))),(30,(bV (sameB n g n' g'))),(31,(bV (bnot (sameB n g n' g')))),(32,(bV (bnot (sameB n g n' g')))),(33,(bV (bnot (sameB n g n' g')))),(34,(.ptr 0 2)),(35,(.sl 5 m (fun i=>(.agg [(iV ((x i)).th),(iV ((x i)).pl),(iV ((x i)).dir),(iV ((x i)).loc),(iV ((x i)).val)])))),(36,(nV m)),(37,(.ptr 1 2)),(38,(.sl 5 m' (fun i=>(.agg [(iV ((x' i)).th),(iV ((x' i)).pl),(iV ((x' i)).dir),(iV ((x' i)).loc),(iV ((x' i)).val)])))),(39,(iV (ofNat m'))),(40,(bV (bnot (ieq (ofNat m) (ofNat m'))))),(41,(bV (bnot (ieq (ofNat m) (ofNat m'))))),(42,(bV (bnot (ieq (ofNat m) (ofNat m'))))),(43,(.ptr 0 5)),(44,(.sl 1 p (fun i=>(iV (r i))))),(45,(.ptr 1 5)),(46,(.sl 1 p' (fun i=>(iV (r' i))))),(47,(bV (sameI p r p' r'))),(48,(bV (bnot (sameI p r p' r')))),(49,(bV (bnot (sameI p r p' r')))),(50,(bV (bnot (sameI p r p' r')))),(51,(.ptr 0 6)),(52,(.sl 1 q (fun u=>(.sl 1 (ln u) (fun i=>(iV (co u i))))))),(53,(.ptr 1 6)),(54,(.sl 1 q' (fun u=>(.sl 1 (ln' u) (fun i=>(iV (co' u i))))))),(55,(bV (sameJ q ln (fun i i_1=>(co i i_1)) q' ln' (fun i i_1=>(co' i i_1))))),(56,(bV (bnot (sameJ q ln (fun i i_1=>(co i i_1)) q' ln' (fun i i_1=>(co' i i_1)))))),(57,(bV (bnot (sameJ q ln (fun i i_1=>(co i i_1)) q' ln' (fun i i_1=>(co' i i_1))))))]
section
variable (L:LT) (p0:PT) (a:Int) (n:Nat) (g:Nat->E6) (m:Nat) (x:Nat->Ev5) (t k:Int) (p:Nat) (r:Nat->Int) (q:Nat) (ln:Nat->Nat) (co:Nat->Nat->Int) (a':Int) (n':Nat) (g':Nat->E6) (m':Nat) (x':Nat->Ev5) (t' k':Int) (p':Nat) (r':Nat->Int) (q':Nat) (ln':Nat->Nat) (co':Nat->Nat->Int) (z:Nat)
include L p0 a n g m x t k p r q ln co a' n' g' m' x' t' k' p' r' q' ln' co' z
theorem w16f (h0:ieq a a' = true) (h1:ieq t t' = true) (h2:ieq k k' = true) (h19:smallN n = true) (h3:sameB n g n' g' = true) (h4:ieq (ofNat m) (ofNat m') = true) (h20:smallN p = true) (h5:sameI p r p' r' = true) (h21:allN q (fun i=>(allN (ln i) (fun _=>true))) = true) (h22:allN q' (fun i=>(allN (ln' i) (fun _=>true))) = true) (h23:smallN q = true) (h24:allN q (fun i=>(smallN (ln i))) = true) (h6:sameJ q ln (fun i i_1=>(co i i_1)) q' ln' (fun i i_1=>(co' i i_1)) = true) (hp0:p0 (body16 (onP 0 p0 (en16f a n g m x t k p r q ln co a' n' g' m' x' t' k' p' r' q' ln' co' z) L)) (st16 a n g m x t k p r q ln co a' n' g' m' x' t' k' p' r' q' ln' co' 0 (jk16 a n g m x t k p r q ln co a' n' g' m' x' t' k' p' r' q' ln' co' )) = true):(finF (evalF tab ⟨callT tb16,(onP 0 p0 (en16f a n g m x t k p r q ln co a' n' g' m' x' t' k' p' r' q' ln' co' z) L),Gl⟩ Try.f16 [.agg [iV a,.sl 6 n (fun i=>eV (g i)),.sl 5 m (fun i=>evV (x i)),iV t,iV k,.sl 1 p (fun i=>iV (r i)),.sl 1 q (fun u=>.sl 1 (ln u) (fun i=>iV (co u i)))],.agg [iV a',.sl 6 n' (fun i=>eV (g' i)),.sl 5 m' (fun i=>evV (x' i)),iV t',iV k',.sl 1 p' (fun i=>iV (r' i)),.sl 1 q' (fun u=>.sl 1 (ln' u) (fun i=>iV (co' u i)))]] [])).sem = some ((bV false),[]):=by
  exact sem_of_path (ds:=bbK 53 5031605727789056) (cs:=((fun c0 c1 c2 c3 c4 c5=>[c0,c0,c0,c0,c0,c0,c1,c1,c1,c1,c1,c1,c2,c2,c2,c2,c2,(allN n (fun _=>true)),(allN n' (fun _=>true)),(smallN n),c2,c2,c3,c3,c3,c3,c3,c3,c3,c3,c4,c4,c4,c4,c4,(allN p (fun _=>true)),(allN p' (fun _=>true)),(smallN p),c4,c4,c5,c5,c5,c5,c5,(allN q (fun i=>(allN (ln i) (fun _=>true)))),(allN q' (fun i=>(allN (ln' i) (fun _=>true)))),(smallN q),(allN q (fun i=>(smallN (ln i)))),c5,c5,(bnot (sameJ q ln (fun i i_1=>(co i i_1)) q' ln' (fun i i_1=>(co' i i_1)))),(p0 (body16 (onP 0 p0 (en16f a n g m x t k p r q ln co a' n' g' m' x' t' k' p' r' q' ln' co' z) L)) (st16 a n g m x t k p r q ln co a' n' g' m' x' t' k' p' r' q' ln' co' 0 (jk16 a n g m x t k p r q ln co a' n' g' m' x' t' k' p' r' q' ln' co' )))]) (bnot (ieq a a')) (bnot (ieq t t')) (bnot (ieq k k')) (bnot (sameB n g n' g')) (bnot (ieq (ofNat m) (ofNat m'))) (bnot (sameI p r p' r')))) (by kernel_rfl) (by simp only [hp0] <;> simp only [h0,h1,h2,h19,h3,h4,h20,h5,h21,h22,h23,h24,h6,allN_true] <;> rfl)
theorem w16e (h0:ieq a a' = true) (h1:ieq t t' = true) (h2:ieq k k' = true) (h19:smallN n = true) (h3:sameB n g n' g' = true) (h4:ieq (ofNat m) (ofNat m') = true) (h20:smallN p = true) (h5:sameI p r p' r' = true) (h21:allN q (fun i=>(allN (ln i) (fun _=>true))) = true) (h22:allN q' (fun i=>(allN (ln' i) (fun _=>true))) = true) (h23:smallN q = true) (h24:allN q (fun i=>(smallN (ln i))) = true) (h6:sameJ q ln (fun i i_1=>(co i i_1)) q' ln' (fun i i_1=>(co' i i_1)) = true) (hp0:p0 (body16 (onP 0 p0 (en16e a n g m x t k p r q ln co a' n' g' m' x' t' k' p' r' q' ln' co' z) L)) (st16 a n g m x t k p r q ln co a' n' g' m' x' t' k' p' r' q' ln' co' 0 (jk16 a n g m x t k p r q ln co a' n' g' m' x' t' k' p' r' q' ln' co' )) = true):(finF (evalF tab ⟨callT tb16,(onP 0 p0 (en16e a n g m x t k p r q ln co a' n' g' m' x' t' k' p' r' q' ln' co' z) L),Gl⟩ Try.f16 [.agg [iV a,.sl 6 n (fun i=>eV (g i)),.sl 5 m (fun i=>evV (x i)),iV t,iV k,.sl 1 p (fun i=>iV (r i)),.sl 1 q (fun u=>.sl 1 (ln u) (fun i=>iV (co u i)))],.agg [iV a',.sl 6 n' (fun i=>eV (g' i)),.sl 5 m' (fun i=>evV (x' i)),iV t',iV k',.sl 1 p' (fun i=>iV (r' i)),.sl 1 q' (fun u=>.sl 1 (ln' u) (fun i=>iV (co' u i)))]] [])).sem = some ((bV true),[]):=by
  exact sem_of_path (ds:=bbK 53 5031605727789056) (cs:=((fun c0 c1 c2 c3 c4 c5=>[c0,c0,c0,c0,c0,c0,c1,c1,c1,c1,c1,c1,c2,c2,c2,c2,c2,(allN n (fun _=>true)),(allN n' (fun _=>true)),(smallN n),c2,c2,c3,c3,c3,c3,c3,c3,c3,c3,c4,c4,c4,c4,c4,(allN p (fun _=>true)),(allN p' (fun _=>true)),(smallN p),c4,c4,c5,c5,c5,c5,c5,(allN q (fun i=>(allN (ln i) (fun _=>true)))),(allN q' (fun i=>(allN (ln' i) (fun _=>true)))),(smallN q),(allN q (fun i=>(smallN (ln i)))),c5,c5,(bnot (sameJ q ln (fun i i_1=>(co i i_1)) q' ln' (fun i i_1=>(co' i i_1)))),(p0 (body16 (onP 0 p0 (en16e a n g m x t k p r q ln co a' n' g' m' x' t' k' p' r' q' ln' co' z) L)) (st16 a n g m x t k p r q ln co a' n' g' m' x' t' k' p' r' q' ln' co' 0 (jk16 a n g m x t k p r q ln co a' n' g' m' x' t' k' p' r' q' ln' co' )))]) (bnot (ieq a a')) (bnot (ieq t t')) (bnot (ieq k k')) (bnot (sameB n g n' g')) (bnot (ieq (ofNat m) (ofNat m'))) (bnot (sameI p r p' r')))) (by kernel_rfl) (by simp only [hp0] <;> simp only [h0,h1,h2,h19,h3,h4,h20,h5,h21,h22,h23,h24,h6,allN_true] <;> rfl)
end
theorem run16 (L:LT) (a:Int) (n:Nat) (g:Nat->E6) (m:Nat) (x:Nat->Ev5) (t k:Int) (p:Nat) (r:Nat->Int) (q:Nat) (ln:Nat->Nat) (co:Nat->Nat->Int) (a':Int) (n':Nat) (g':Nat->E6) (m':Nat) (x':Nat->Ev5) (t' k':Int) (p':Nat) (r':Nat->Int) (q':Nat) (ln':Nat->Nat) (co':Nat->Nat->Int) (hn:m <= 4611686018427387904) (hm:m = m'):∀ (e b:Nat) (j:Nat->V) (z:Nat),m = b+e->e < z->(∀ k,k < b->sameX (x k) (x' k) = true) ->
    ((iterT (body16 L) (lp16 a n g m x t k p r q ln co a' n' g' m' x' t' k' p' r' q' ln' co') z (st16 a n g m x t k p r q ln co a' n' g' m' x' t' k' p' r' q' ln' co' b j)).sem = some (en16f a n g m x t k p r q ln co a' n' g' m' x' t' k' p' r' q' ln' co' 0) ∧ (allN m fun k=>sameX (x k) (x' k)) = false) ∨ ((iterT (body16 L) (lp16 a n g m x t k p r q ln co a' n' g' m' x' t' k' p' r' q' ln' co') z (st16 a n g m x t k p r q ln co a' n' g' m' x' t' k' p' r' q' ln' co' b j)).sem = some (en16e a n g m x t k p r q ln co a' n' g' m' x' t' k' p' r' q' ln' co' 0) ∧ (allN m fun k=>sameX (x k) (x' k)) = true)
  | 0,b,j,z+1,h,_,hb=>by
    have:m = b:=by omega
    subst this
    exact .inr ⟨iter_round (r16e L a n g m x t k p r q ln co a' n' g' m' x' t' k' p' r' q' ln' co' m j (ofNat_ge (Nat.le_refl _))),allN_iff.2 hb⟩
  | e+1,b,j,z+1,h,h2,hb=>by
    have hl:b < m:=by omega
    cases hp:sameX (x b) (x' b) with
    | false =>
      refine .inl ⟨?_,?_⟩
      · rw [iter_round (r16f L a n g m x t k p r q ln co a' n' g' m' x' t' k' p' r' q' ln' co' b j (ofNat_lt hl) (ofNat_0 b) (ofNat_lt (by omega)) hp),goOn_rt]
        rfl
      · cases ha:(allN m fun k=>sameX (x k) (x' k)) with
        | false=>rfl
        | true =>
          have:=allN_iff.1 ha b hl
          rw [hp] at this
          cases this
    | true =>
      have next:=run16 L a n g m x t k p r q ln co a' n' g' m' x' t' k' p' r' q' ln' co' hn hm e (b+1) (fun _=>.und) z (by omega) (by omega) fun k hk=>by
        by_cases hki:k = b
        · rw [hki]; exact hp
        · exact hb k (by omega)
      rw [iter_round (r16n L a n g m x t k p r q ln co a' n' g' m' x' t' k' p' r' q' ln' co' b j (ofNat_lt hl) (ofNat_0 b) (ofNat_lt (by omega)) hp),goOn_nm,succ_wr hl hn]
      exact next
def sameS (s s':Sh7):Bool:=band (ieq s.arch s'.arch) (band (ieq s.tt s'.tt) (band (ieq s.kk s'.kk) (band (sameB s.ne s.E s'.ne s'.E) (band (ieq (ofNat s.nx) (ofNat s'.nx)) (band (sameI s.nr s.R s'.nr s'.R)
  (band (sameJ s.nc (fun i=>(s.C i).1) (fun i=>(s.C i).2) s'.nc (fun i=>(s'.C i).1) (fun i=>(s'.C i).2)) (allN s.nx fun k=>sameX (s.X k) (s'.X k))))))))
def smallS (s:Sh7):Bool:=band (smallN s.ne) (band (smallN s.nx) (band (smallN s.nr) (band (smallN s.nc) (allN s.nc fun i=>smallN (s.C i).1))))
def sameST:List V->T (V × List Blk)
  | [v,u]=>apS v fun s=>apS u fun s'=>.br (smallS s) (.leaf (bV (sameS s s'),[])) .fail
  | _=>.fail
theorem p16:PureC Try.prog Gl 16 sameST:=by
  refine pureC_intro tabOK mixed Try.func16 (by kernel_rfl) (by kernel_rfl) fun vs v h' h=>?_
  unfold sameST at h
  split at h
  · rename_i v1 u1
    obtain ⟨s,a1,h⟩:=apS_some h
    obtain ⟨s',a2,h⟩:=apS_some h
    obtain ⟨hn,h⟩:=sem_br_fail h
    have:=sem_leaf h
    simp only [Prod.mk.injEq] at this
    obtain ⟨rfl,rfl⟩:=this
    obtain ⟨a,n,g,m,x,t,k,p,r,q,C⟩:=s
    obtain ⟨a',n',g',m',x',t',k',p',r',q',D⟩:=s'
    have hA:ArgLE [v1,u1] [.agg [iV a,.sl 6 n (fun i=>eV (g i)),.sl 5 m (fun i=>evV (x i)),iV t,iV k,.sl 1 p (fun i=>iV (r i)),.sl 1 q (fun u=>.sl 1 (C u).1 (fun i=>iV ((C u).2 i)))],
        .agg [iV a',.sl 6 n' (fun i=>eV (g' i)),.sl 5 m' (fun i=>evV (x' i)),iV t',iV k',.sl 1 p' (fun i=>iV (r' i)),.sl 1 q' (fun u=>.sl 1 (D u).1 (fun i=>iV ((D u).2 i)))]]:=fun S w cs hv=>by
      obtain ⟨c,l,rfl,q1,c',l',rfl,q2,q3⟩:=hv
      exact ⟨c,_,rfl,a1 S w c q1,c',l',rfl,a2 S w c' q2,q3⟩
    have hn:smallN n = true ∧ smallN m = true ∧ smallN p = true ∧ smallN q = true ∧ (allN q fun i=>smallN (C i).1) = true:=by simpa [smallS,band] using hn
    obtain ⟨n1,n2,n3,n4,n5⟩:=hn
    unfold sameS
    dsimp only
    generalize hln:(fun i=>(C i).1) = ln
    generalize hco:(fun i=>(C i).2) = co
    generalize hln':(fun i=>(D i).1) = ln'
    generalize hco':(fun i=>(D i).2) = co'
    have hx:=cx_ok tb16_ok [(0,lp16 a n g m x t k p r q ln co a' n' g' m' x' t' k' p' r' q' ln' co')] (G:=Gl)
    have hL:=loopsBy_le [(0,lp16 a n g m x t k p r q ln co a' n' g' m' x' t' k' p' r' q' ln' co')]
    refine ⟨_,cxOf Gl tb16 [(0,lp16 a n g m x t k p r q ln co a' n' g' m' x' t' k' p' r' q' ln' co')],_,hA,rfl,hx.1,hx.2,?_,RowsLE.refl _⟩
    have e1:∀ u,(C u).1 = ln u:=fun u=>by rw [<- hln]
    have e2:∀ u,(C u).2 = co u:=fun u=>by rw [<- hco]
    have e3:∀ u,(D u).1 = ln' u:=fun u=>by rw [<- hln']
    have e4:∀ u,(D u).2 = co' u:=fun u=>by rw [<- hco']
    simp only [e1,e2,e3,e4] at n5 ⊢
    have all2:∀ (q:Nat) (ln:Nat->Nat),(allN q fun i=>allN (ln i) fun _=>true) = true:=fun _ _=>allN_iff.2 fun _ _=>allN_iff.2 fun _ _=>rfl
    cases c0:ieq a a' with
    | false=>rw [band_f rfl]; exact w16_0 _ a n g m x t k p r q ln co a' n' g' m' x' t' k' p' r' q' ln' co' c0
    | true =>
    rw [band_t rfl]
    cases c1:ieq t t' with
    | false=>rw [band_f rfl]; exact w16_1 _ a n g m x t k p r q ln co a' n' g' m' x' t' k' p' r' q' ln' co' c0 c1
    | true =>
    rw [band_t rfl]
    cases c2:ieq k k' with
    | false=>rw [band_f rfl]; exact w16_2 _ a n g m x t k p r q ln co a' n' g' m' x' t' k' p' r' q' ln' co' c0 c1 c2
    | true =>
    rw [band_t rfl]
    cases c3:sameB n g n' g' with
    | false=>rw [band_f rfl]; exact w16_3 _ a n g m x t k p r q ln co a' n' g' m' x' t' k' p' r' q' ln' co' c0 c1 c2 n1 c3
    | true =>
    rw [band_t rfl]
    cases c4:ieq (ofNat m) (ofNat m') with
    | false=>rw [band_f rfl]; exact w16_4 _ a n g m x t k p r q ln co a' n' g' m' x' t' k' p' r' q' ln' co' c0 c1 c2 n1 c3 c4
    | true =>
    rw [band_t rfl]
    cases c5:sameI p r p' r' with
    | false=>rw [band_f rfl]; exact w16_5 _ a n g m x t k p r q ln co a' n' g' m' x' t' k' p' r' q' ln' co' c0 c1 c2 n1 c3 c4 n3 c5
    | true =>
    rw [band_t rfl]
    cases c6:sameJ q ln co q' ln' co' with
    | false=>rw [band_f rfl]; exact w16_6 _ a n g m x t k p r q ln co a' n' g' m' x' t' k' p' r' q' ln' co' c0 c1 c2 n1 c3 c4 n3 c5 (all2 _ _) (all2 _ _) n4 n5 c6
    | true =>
    rw [band_t rfl]
    have h0:=fun L j=>run16 L a n g m x t k p r q ln co a' n' g' m' x' t' k' p' r' q' ln' co' (small_le n2) (of_nat_eq c4) m 0 j (m+1) (by omega) (by omega) (fun k hk=>absurd hk (Nat.not_lt_zero _))
    cases ha:(allN m fun k=>sameX (x k) (x' k)) with
    | false=>exact told_le (onP_le hL hL) _ (w16f _ _ a n g m x t k p r q ln co a' n' g' m' x' t' k' p' r' q' ln' co' 0 c0 c1 c2 n1 c3 c4 n3 c5 (all2 _ _) (all2 _ _) n4 n5 c6 (isP_true ((h0 _ _).elim (fun h=>h.1) fun h=>by have:=h.2; rw [ha] at this; cases this)))
    | true=>exact told_le (onP_le hL hL) _ (w16e _ _ a n g m x t k p r q ln co a' n' g' m' x' t' k' p' r' q' ln' co' 0 c0 c1 c2 n1 c3 c4 n3 c5 (all2 _ _) (all2 _ _) n4 n5 c6 (isP_true ((h0 _ _).elim (fun h=>by have:=h.2; rw [ha] at this; cases this) fun h=>h.1)))
  · cases h
end Go.Proofs.Ytjhnfomefcngfaa.Sh
