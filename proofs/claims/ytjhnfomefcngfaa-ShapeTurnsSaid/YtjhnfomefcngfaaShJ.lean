/-
  Layer 7: whether shapes are the same, the program's (by slices.Equal). No conditions.
-/
import Derived.Test.YtjhnfomefcngfaaShZ
namespace Go.Proofs.Ytjhnfomefcngfaa.Sh
open Go.Sy Ed
open Int (ofNat)
set_option maxHeartbeats 1000000
set_option maxRecDepth 4000
theorem sameB_f {n:Nat} {f:Nat->E6} {m:Nat} {g:Nat->E6} (h:ieq (ofNat n) (ofNat m) = false):sameB n f m g = false:=by
  unfold sameB
  rw [h]
  rfl
theorem eqE_eq {a b:E6}:eqE a b = true ↔ a = b:=by
  have h:=@sameB_at 1 (fun _=>a) 1 (fun _=>b)
  have e:sameB 1 (fun _=>a) 1 (fun _=>b) = eqE a b:=by
    show sel (eqE a b) true false = _
    cases eqE a b <;> rfl
  rw [e] at h
  exact ⟨fun hh=>(h.1 hh).2 0 (by omega),fun hh=>h.2 ⟨rfl,fun _ _=>hh⟩⟩
theorem sameB_t {n:Nat} {f:Nat->E6} {m:Nat} {g:Nat->E6} (h:ieq (ofNat n) (ofNat m) = true):sameB n f m g = allN n fun k=>eqE (f k) (g k):=by
  rw [Bool.eq_iff_iff,sameB_at,allN_iff]
  exact ⟨fun hh k hk=>eqE_eq.2 (hh.2 k hk),fun hh=>⟨of_nat_eq h,fun k hk=>eqE_eq.1 (hh k hk)⟩⟩
def sameE (n:Nat) (f:Nat->Ev5) (m:Nat) (g:Nat->Ev5):Bool:=band (ieq (ofNat n) (ofNat m)) (allN n fun k=>sameX (f k) (g k))
def sameBT:List V->T (V × List Blk)
  | [v,u]=>apG codE v fun n f=>apG codE u fun m g=>.br (smallN n) (.leaf (bV (sameB n f m g),[])) .fail
  | _=>.fail
def sameET:List V->T (V × List Blk)
  | [v,u]=>apG codX v fun n f=>apG codX u fun m g=>.br (smallN n) (.leaf (bV (sameE n f m g),[])) .fail
  | _=>.fail
def sameJFT:List V->T (V × List Blk)
  | [v,u,.fn 105 []]=>apG codJ v fun n C=>apG codJ u fun m D=>.br (smallN n) (.br (allN n fun i=>smallN (C i).1) (.leaf (bV (sameJ n (fun i=>(C i).1) (fun i=>(C i).2) m (fun i=>(D i).1) (fun i=>(D i).2)),[])) .fail) .fail
  | _=>.fail
def lp103 (n:Nat) (_:Nat->E6) (_:Nat) (_:Nat->E6):Lp:=⟨(bmK 26 0 [0,1,4,12,13]),0,(bmK 26 0 [4]),0,n+1⟩
def st103 (n:Nat) (f:Nat->E6) (m:Nat) (g:Nat->E6) (b:Nat) (j:Nat->V):St:=⟨(jsV 26 0 j [(0,.sl 6 n (fun i=>eV (f i))),(1,.sl 6 m (fun i=>eV (g i))),(4,bV false),(12,nV n),(13,nV b)]),[]⟩
def en103f (_:Nat) (_:Nat->E6) (_:Nat) (_:Nat->E6) (_:Nat):Ex × St:=(.rt,⟨(jsV 26 0 (fun _=>.und) [(4,bV false)]),[]⟩)
def en103e (_:Nat) (_:Nat->E6) (_:Nat) (_:Nat->E6) (_:Nat):Ex × St:=(.ex 0,⟨(jsV 26 0 (fun _=>.und) [(4,bV false)]),[]⟩)
noncomputable def body103 (L:LT):St->T (Ex × St):=fun st=>evalC tab ⟨callT tb0,L,Gl⟩ (loopBody Try.f103 0) 0 st
theorem r103e (L:LT) (n:Nat) (f:Nat->E6) (m:Nat) (g:Nat->E6) (b:Nat)  (j:Nat->V) (h0:ilt (ofNat b) (ofNat n) = false):roundT (body103 L) (lp103 n f m g) (st103 n f m g b j) = some ((.ex 0),⟨(jsV 26 0 (fun _=>.und) [(4,(bV false))]),[]⟩):=by
  exact sem_of_path (ds:=[false]) (cs:=[(ilt (ofNat b) (ofNat n))]) (by kernel_rfl) (by simp only [h0] <;> rfl)
section
variable (L:LT) (n:Nat) (f:Nat->E6) (m:Nat) (g:Nat->E6) (b:Nat) (j:Nat->V)
include L n f m g b j
theorem r103f (h0:ilt (ofNat b) (ofNat n) = true) (h17:ile 0 (ofNat b) = true) (h1:ilt (ofNat b) (ofNat m) = true) (h2:eqE (f b) (g b) = false):roundT (body103 L) (lp103 n f m g) (st103 n f m g b j) = some (.rt,⟨(jsV 26 0 (fun _=>.und) [(4,(bV false))]),[]⟩):=by
  exact sem_of_path (ds:=[true,true,true,true]) (cs:=[(ilt (ofNat b) (ofNat n)),(band (ile 0 (ofNat b)) (ilt (ofNat b) (ofNat n))),(band (ile 0 (ofNat b)) (ilt (ofNat b) (ofNat m))),(bnot (eqE (f b) (g b)))]) (by kernel_rfl) (by simp only [h0,h17,h1,h2] <;> rfl)
theorem r103n (h0:ilt (ofNat b) (ofNat n) = true) (h17:ile 0 (ofNat b) = true) (h1:ilt (ofNat b) (ofNat m) = true) (h2:eqE (f b) (g b) = true):roundT (body103 L) (lp103 n f m g) (st103 n f m g b j) = some (.nm,⟨(jsV 26 0 (fun _=>.und) [(0,(.sl 6 n (fun i=>(eV (f i))))),(1,(.sl 6 m (fun i=>(eV (g i))))),(4,(bV false)),(12,(nV n)),(13,(iV (wr .i64 (iadd (ofNat b) 1))))]),[]⟩):=by
  exact sem_of_path (ds:=[true,true,true,false]) (cs:=[(ilt (ofNat b) (ofNat n)),(band (ile 0 (ofNat b)) (ilt (ofNat b) (ofNat n))),(band (ile 0 (ofNat b)) (ilt (ofNat b) (ofNat m))),(bnot (eqE (f b) (g b)))]) (by kernel_rfl) (by simp only [h0,h17,h1,h2] <;> rfl)
end
def jk103 (n:Nat) (f:Nat->E6) (m:Nat) (g:Nat->E6) :Nat->V:=lkV undefV [(6,(.sl 6 n (fun i=>(eV (f i))))),(7,(nV n)),(8,(.sl 6 m (fun i=>(eV (g i))))),(9,(nV m)),(10,(bV (bnot (ieq (ofNat n) (ofNat m))))),(11,(.sl 6 n (fun i=>(eV (f i)))))]
theorem w103l (L:LT) (n:Nat) (f:Nat->E6) (m:Nat) (g:Nat->E6) (h0:ieq (ofNat n) (ofNat m) = false):(finF (evalF tab ⟨callT tb0,L,Gl⟩ Try.f103 [.sl 6 n (fun i=>eV (f i)),.sl 6 m (fun i=>eV (g i))] [])).sem = some ((bV false),[]):=by
  exact sem_of_path (ds:=[true]) (cs:=[(bnot (ieq (ofNat n) (ofNat m)))]) (by kernel_rfl) (by simp only [h0] <;> rfl)
section
variable (L:LT) (p0:PT) (n:Nat) (f:Nat->E6) (m:Nat) (g:Nat->E6) (q:Nat)
include L p0 n f m g q
theorem w103f (h0:ieq (ofNat n) (ofNat m) = true) (hp0:p0 (body103 (onP 0 p0 (en103f n f m g q) L)) (st103 n f m g 0 (jk103 n f m g )) = true):(finF (evalF tab ⟨callT tb0,(onP 0 p0 (en103f n f m g q) L),Gl⟩ Try.f103 [.sl 6 n (fun i=>eV (f i)),.sl 6 m (fun i=>eV (g i))] [])).sem = some ((bV false),[]):=by
  exact sem_of_path (ds:=[false,true]) (cs:=[(bnot (ieq (ofNat n) (ofNat m))),(p0 (body103 (onP 0 p0 (en103f n f m g q) L)) (st103 n f m g 0 (jk103 n f m g )))]) (by kernel_rfl) (by simp only [hp0] <;> simp only [h0] <;> rfl)
theorem w103e (h0:ieq (ofNat n) (ofNat m) = true) (hp0:p0 (body103 (onP 0 p0 (en103e n f m g q) L)) (st103 n f m g 0 (jk103 n f m g )) = true):(finF (evalF tab ⟨callT tb0,(onP 0 p0 (en103e n f m g q) L),Gl⟩ Try.f103 [.sl 6 n (fun i=>eV (f i)),.sl 6 m (fun i=>eV (g i))] [])).sem = some ((bV true),[]):=by
  exact sem_of_path (ds:=[false,true]) (cs:=[(bnot (ieq (ofNat n) (ofNat m))),(p0 (body103 (onP 0 p0 (en103e n f m g q) L)) (st103 n f m g 0 (jk103 n f m g )))]) (by kernel_rfl) (by simp only [hp0] <;> simp only [h0] <;> rfl)
end
theorem run103 (L:LT) (n:Nat) (f:Nat->E6) (m:Nat) (g:Nat->E6) (hn:n <= 4611686018427387904) (hm:n = m):∀ (e b:Nat) (j:Nat->V) (q:Nat),n = b+e->e < q->(∀ k,k < b->eqE (f k) (g k) = true) ->
    ((iterT (body103 L) (lp103 n f m g) q (st103 n f m g b j)).sem = some (en103f n f m g 0) ∧ (allN n fun k=>eqE (f k) (g k)) = false) ∨ ((iterT (body103 L) (lp103 n f m g) q (st103 n f m g b j)).sem = some (en103e n f m g 0) ∧ (allN n fun k=>eqE (f k) (g k)) = true)
  | 0,b,j,q+1,h,_,hb=>by
    have:n = b:=by omega
    subst this
    exact .inr ⟨iter_round (r103e L n f m g n j (ofNat_ge (Nat.le_refl _))),allN_iff.2 hb⟩
  | e+1,b,j,q+1,h,h2,hb=>by
    have hl:b < n:=by omega
    cases hp:eqE (f b) (g b) with
    | false =>
      refine .inl ⟨?_,?_⟩
      · rw [iter_round (r103f L n f m g b j (ofNat_lt hl) (ofNat_0 b) (ofNat_lt (by omega)) hp),goOn_rt]
        rfl
      · cases ha:(allN n fun k=>eqE (f k) (g k)) with
        | false=>rfl
        | true =>
          have:=allN_iff.1 ha b hl
          rw [hp] at this
          cases this
    | true =>
      have next:=run103 L n f m g hn hm e (b+1) (fun _=>.und) q (by omega) (by omega) fun k hk=>by
        by_cases hki:k = b
        · rw [hki]; exact hp
        · exact hb k (by omega)
      rw [iter_round (r103n L n f m g b j (ofNat_lt hl) (ofNat_0 b) (ofNat_lt (by omega)) hp),goOn_nm,succ_wr hl hn]
      exact next
theorem p103:PureC Try.prog Gl 103 sameBT:=by
  refine pureC_intro tabOK mixed Try.func103 (by kernel_rfl) (by kernel_rfl) fun vs v h' h=>?_
  unfold sameBT at h
  split at h
  · rename_i v1 u1
    obtain ⟨n,f,a1,h⟩:=apG_some h
    obtain ⟨m,g,a2,h⟩:=apG_some h
    obtain ⟨hn,h⟩:=sem_br_fail h
    have:=sem_leaf h
    simp only [Prod.mk.injEq] at this
    obtain ⟨rfl,rfl⟩:=this
    have hA:ArgLE [v1,u1] [lstV codE n f,lstV codE m g]:=fun S w cs hv=>by
      obtain ⟨c,l,rfl,q1,c',l',rfl,q2,q3⟩:=hv
      exact ⟨c,_,rfl,a1 S w c q1,c',l',rfl,a2 S w c' q2,q3⟩
    have hx:=cx_ok tb0_ok [(0,lp103 n f m g)] (G:=Gl)
    have hL:=loopsBy_le [(0,lp103 n f m g)]
    refine ⟨_,cxOf Gl tb0 [(0,lp103 n f m g)],_,hA,rfl,hx.1,hx.2,?_,RowsLE.refl _⟩
    cases hl:ieq (ofNat n) (ofNat m) with
    | false =>
      rw [show sameB n f m g = false from sameB_f hl]
      exact w103l _ n f m g hl
    | true =>
      rw [show sameB n f m g = _ from sameB_t hl]
      have h0:=fun L j=>run103 L n f m g (small_le hn) (of_nat_eq hl) n 0 j (n+1) (by omega) (by omega) (fun k hk=>absurd hk (Nat.not_lt_zero _))
      cases ha:(allN n fun k=>eqE (f k) (g k)) with
      | false=>exact told_le (onP_le hL hL) _ (w103f _ _ n f m g 0 hl (isP_true ((h0 _ _).elim (fun h=>h.1) fun h=>by have:=h.2; rw [ha] at this; cases this)))
      | true=>exact told_le (onP_le hL hL) _ (w103e _ _ n f m g 0 hl (isP_true ((h0 _ _).elim (fun h=>by have:=h.2; rw [ha] at this; cases this) fun h=>h.1)))
  · cases h
def lp104 (n:Nat) (_:Nat->Ev5) (_:Nat) (_:Nat->Ev5):Lp:=⟨(bmK 26 0 [0,1,4,12,13]),0,(bmK 26 0 [4]),0,n+1⟩
def st104 (n:Nat) (f:Nat->Ev5) (m:Nat) (g:Nat->Ev5) (b:Nat) (j:Nat->V):St:=⟨(jsV 26 0 j [(0,.sl 5 n (fun i=>evV (f i))),(1,.sl 5 m (fun i=>evV (g i))),(4,bV false),(12,nV n),(13,nV b)]),[]⟩
def en104f (_:Nat) (_:Nat->Ev5) (_:Nat) (_:Nat->Ev5) (_:Nat):Ex × St:=(.rt,⟨(jsV 26 0 (fun _=>.und) [(4,bV false)]),[]⟩)
def en104e (_:Nat) (_:Nat->Ev5) (_:Nat) (_:Nat->Ev5) (_:Nat):Ex × St:=(.ex 0,⟨(jsV 26 0 (fun _=>.und) [(4,bV false)]),[]⟩)
noncomputable def body104 (L:LT):St->T (Ex × St):=fun st=>evalC tab ⟨callT tb0,L,Gl⟩ (loopBody Try.f104 0) 0 st
theorem r104e (L:LT) (n:Nat) (f:Nat->Ev5) (m:Nat) (g:Nat->Ev5) (b:Nat)  (j:Nat->V) (h0:ilt (ofNat b) (ofNat n) = false):roundT (body104 L) (lp104 n f m g) (st104 n f m g b j) = some ((.ex 0),⟨(jsV 26 0 (fun _=>.und) [(4,(bV false))]),[]⟩):=by
  exact sem_of_path (ds:=[false]) (cs:=[(ilt (ofNat b) (ofNat n))]) (by kernel_rfl) (by simp only [h0] <;> rfl)
section
variable (L:LT) (n:Nat) (f:Nat->Ev5) (m:Nat) (g:Nat->Ev5) (b:Nat) (j:Nat->V)
include L n f m g b j
theorem r104f (h0:ilt (ofNat b) (ofNat n) = true) (h17:ile 0 (ofNat b) = true) (h1:ilt (ofNat b) (ofNat m) = true) (h2:band (ieq ((f b)).th ((g b)).th) (band (ieq ((f b)).pl ((g b)).pl) (band (ieq ((f b)).dir ((g b)).dir) (band (ieq ((f b)).loc ((g b)).loc) (band (ieq ((f b)).val ((g b)).val) true)))) = false):roundT (body104 L) (lp104 n f m g) (st104 n f m g b j) = some (.rt,⟨(jsV 26 0 (fun _=>.und) [(4,(bV false))]),[]⟩):=by
  exact sem_of_path (ds:=[true,true,true,true]) (cs:=[(ilt (ofNat b) (ofNat n)),(band (ile 0 (ofNat b)) (ilt (ofNat b) (ofNat n))),(band (ile 0 (ofNat b)) (ilt (ofNat b) (ofNat m))),(bnot (band (ieq ((f b)).th ((g b)).th) (band (ieq ((f b)).pl ((g b)).pl) (band (ieq ((f b)).dir ((g b)).dir) (band (ieq ((f b)).loc ((g b)).loc) (band (ieq ((f b)).val ((g b)).val) true))))))]) (by kernel_rfl) (by simp only [h2] <;> simp only [h0,h17,h1] <;> rfl)
theorem r104n (h0:ilt (ofNat b) (ofNat n) = true) (h17:ile 0 (ofNat b) = true) (h1:ilt (ofNat b) (ofNat m) = true) (h2:band (ieq ((f b)).th ((g b)).th) (band (ieq ((f b)).pl ((g b)).pl) (band (ieq ((f b)).dir ((g b)).dir) (band (ieq ((f b)).loc ((g b)).loc) (band (ieq ((f b)).val ((g b)).val) true)))) = true):roundT (body104 L) (lp104 n f m g) (st104 n f m g b j) = some (.nm,⟨(jsV 26 0 (fun _=>.und) [(0,(.sl 5 n (fun i=>(.agg [(iV ((f i)).th),(iV ((f i)).pl),(iV ((f i)).dir),(iV ((f i)).loc),(iV ((f i)).val)])))),(1,(.sl 5 m (fun i=>(.agg [(iV ((g i)).th),(iV ((g i)).pl),(iV ((g i)).dir),(iV ((g i)).loc),(iV ((g i)).val)])))),(4,(bV false)),(12,(nV n)),(13,(iV (wr .i64 (iadd (ofNat b) 1))))]),[]⟩):=by
  exact sem_of_path (ds:=[true,true,true,false]) (cs:=[(ilt (ofNat b) (ofNat n)),(band (ile 0 (ofNat b)) (ilt (ofNat b) (ofNat n))),(band (ile 0 (ofNat b)) (ilt (ofNat b) (ofNat m))),(bnot (band (ieq ((f b)).th ((g b)).th) (band (ieq ((f b)).pl ((g b)).pl) (band (ieq ((f b)).dir ((g b)).dir) (band (ieq ((f b)).loc ((g b)).loc) (band (ieq ((f b)).val ((g b)).val) true))))))]) (by kernel_rfl) (by simp only [h2] <;> simp only [h0,h17,h1] <;> rfl)
end
def jk104 (n:Nat) (f:Nat->Ev5) (m:Nat) (g:Nat->Ev5) :Nat->V:=lkV undefV [(6,(.sl 5 n (fun i=>(.agg [(iV ((f i)).th),(iV ((f i)).pl),(iV ((f i)).dir),(iV ((f i)).loc),(iV ((f i)).val)])))),(7,(nV n)),(8,(.sl 5 m (fun i=>(.agg [(iV ((g i)).th),(iV ((g i)).pl),(iV ((g i)).dir),(iV ((g i)).loc),(iV ((g i)).val)])))),(9,(nV m)),(10,(bV (bnot (ieq (ofNat n) (ofNat m))))),(11,(.sl 5 n (fun i=>(.agg [(iV ((f i)).th),(iV ((f i)).pl),(iV ((f i)).dir),(iV ((f i)).loc),(iV ((f i)).val)]))))]
theorem w104l (L:LT) (n:Nat) (f:Nat->Ev5) (m:Nat) (g:Nat->Ev5) (h0:ieq (ofNat n) (ofNat m) = false):(finF (evalF tab ⟨callT tb0,L,Gl⟩ Try.f104 [.sl 5 n (fun i=>evV (f i)),.sl 5 m (fun i=>evV (g i))] [])).sem = some ((bV false),[]):=by
  exact sem_of_path (ds:=[true]) (cs:=[(bnot (ieq (ofNat n) (ofNat m)))]) (by kernel_rfl) (by simp only [h0] <;> rfl)
section
variable (L:LT) (p0:PT) (n:Nat) (f:Nat->Ev5) (m:Nat) (g:Nat->Ev5) (q:Nat)
include L p0 n f m g q
theorem w104f (h0:ieq (ofNat n) (ofNat m) = true) (hp0:p0 (body104 (onP 0 p0 (en104f n f m g q) L)) (st104 n f m g 0 (jk104 n f m g )) = true):(finF (evalF tab ⟨callT tb0,(onP 0 p0 (en104f n f m g q) L),Gl⟩ Try.f104 [.sl 5 n (fun i=>evV (f i)),.sl 5 m (fun i=>evV (g i))] [])).sem = some ((bV false),[]):=by
  exact sem_of_path (ds:=[false,true]) (cs:=[(bnot (ieq (ofNat n) (ofNat m))),(p0 (body104 (onP 0 p0 (en104f n f m g q) L)) (st104 n f m g 0 (jk104 n f m g )))]) (by kernel_rfl) (by simp only [hp0] <;> simp only [h0] <;> rfl)
theorem w104e (h0:ieq (ofNat n) (ofNat m) = true) (hp0:p0 (body104 (onP 0 p0 (en104e n f m g q) L)) (st104 n f m g 0 (jk104 n f m g )) = true):(finF (evalF tab ⟨callT tb0,(onP 0 p0 (en104e n f m g q) L),Gl⟩ Try.f104 [.sl 5 n (fun i=>evV (f i)),.sl 5 m (fun i=>evV (g i))] [])).sem = some ((bV true),[]):=by
  exact sem_of_path (ds:=[false,true]) (cs:=[(bnot (ieq (ofNat n) (ofNat m))),(p0 (body104 (onP 0 p0 (en104e n f m g q) L)) (st104 n f m g 0 (jk104 n f m g )))]) (by kernel_rfl) (by simp only [hp0] <;> simp only [h0] <;> rfl)
end
theorem run104 (L:LT) (n:Nat) (f:Nat->Ev5) (m:Nat) (g:Nat->Ev5) (hn:n <= 4611686018427387904) (hm:n = m):∀ (e b:Nat) (j:Nat->V) (q:Nat),n = b+e->e < q->(∀ k,k < b->sameX (f k) (g k) = true) ->
    ((iterT (body104 L) (lp104 n f m g) q (st104 n f m g b j)).sem = some (en104f n f m g 0) ∧ (allN n fun k=>sameX (f k) (g k)) = false) ∨ ((iterT (body104 L) (lp104 n f m g) q (st104 n f m g b j)).sem = some (en104e n f m g 0) ∧ (allN n fun k=>sameX (f k) (g k)) = true)
  | 0,b,j,q+1,h,_,hb=>by
    have:n = b:=by omega
    subst this
    exact .inr ⟨iter_round (r104e L n f m g n j (ofNat_ge (Nat.le_refl _))),allN_iff.2 hb⟩
  | e+1,b,j,q+1,h,h2,hb=>by
    have hl:b < n:=by omega
    cases hp:sameX (f b) (g b) with
    | false =>
      refine .inl ⟨?_,?_⟩
      · rw [iter_round (r104f L n f m g b j (ofNat_lt hl) (ofNat_0 b) (ofNat_lt (by omega)) hp),goOn_rt]
        rfl
      · cases ha:(allN n fun k=>sameX (f k) (g k)) with
        | false=>rfl
        | true =>
          have:=allN_iff.1 ha b hl
          rw [hp] at this
          cases this
    | true =>
      have next:=run104 L n f m g hn hm e (b+1) (fun _=>.und) q (by omega) (by omega) fun k hk=>by
        by_cases hki:k = b
        · rw [hki]; exact hp
        · exact hb k (by omega)
      rw [iter_round (r104n L n f m g b j (ofNat_lt hl) (ofNat_0 b) (ofNat_lt (by omega)) hp),goOn_nm,succ_wr hl hn]
      exact next
theorem p104:PureC Try.prog Gl 104 sameET:=by
  refine pureC_intro tabOK mixed Try.func104 (by kernel_rfl) (by kernel_rfl) fun vs v h' h=>?_
  unfold sameET at h
  split at h
  · rename_i v1 u1
    obtain ⟨n,f,a1,h⟩:=apG_some h
    obtain ⟨m,g,a2,h⟩:=apG_some h
    obtain ⟨hn,h⟩:=sem_br_fail h
    have:=sem_leaf h
    simp only [Prod.mk.injEq] at this
    obtain ⟨rfl,rfl⟩:=this
    have hA:ArgLE [v1,u1] [lstV codX n f,lstV codX m g]:=fun S w cs hv=>by
      obtain ⟨c,l,rfl,q1,c',l',rfl,q2,q3⟩:=hv
      exact ⟨c,_,rfl,a1 S w c q1,c',l',rfl,a2 S w c' q2,q3⟩
    have hx:=cx_ok tb0_ok [(0,lp104 n f m g)] (G:=Gl)
    have hL:=loopsBy_le [(0,lp104 n f m g)]
    refine ⟨_,cxOf Gl tb0 [(0,lp104 n f m g)],_,hA,rfl,hx.1,hx.2,?_,RowsLE.refl _⟩
    cases hl:ieq (ofNat n) (ofNat m) with
    | false =>
      rw [show sameE n f m g = false from band_f hl]
      exact w104l _ n f m g hl
    | true =>
      rw [show sameE n f m g = _ from band_t hl]
      have h0:=fun L j=>run104 L n f m g (small_le hn) (of_nat_eq hl) n 0 j (n+1) (by omega) (by omega) (fun k hk=>absurd hk (Nat.not_lt_zero _))
      cases ha:(allN n fun k=>sameX (f k) (g k)) with
      | false=>exact told_le (onP_le hL hL) _ (w104f _ _ n f m g 0 hl (isP_true ((h0 _ _).elim (fun h=>h.1) fun h=>by have:=h.2; rw [ha] at this; cases this)))
      | true=>exact told_le (onP_le hL hL) _ (w104e _ _ n f m g 0 hl (isP_true ((h0 _ _).elim (fun h=>by have:=h.2; rw [ha] at this; cases this) fun h=>h.1)))
  · cases h
def lp105 (n:Nat) (_:Nat->Int) (_:Nat) (_:Nat->Int):Lp:=⟨(bmK 26 0 [0,1,4,12,13]),0,(bmK 26 0 [4]),0,n+1⟩
def st105 (n:Nat) (f:Nat->Int) (m:Nat) (g:Nat->Int) (b:Nat) (j:Nat->V):St:=⟨(jsV 26 0 j [(0,.sl 1 n (fun i=>iV (f i))),(1,.sl 1 m (fun i=>iV (g i))),(4,bV false),(12,nV n),(13,nV b)]),[]⟩
def en105f (_:Nat) (_:Nat->Int) (_:Nat) (_:Nat->Int) (_:Nat):Ex × St:=(.rt,⟨(jsV 26 0 (fun _=>.und) [(4,bV false)]),[]⟩)
def en105e (_:Nat) (_:Nat->Int) (_:Nat) (_:Nat->Int) (_:Nat):Ex × St:=(.ex 0,⟨(jsV 26 0 (fun _=>.und) [(4,bV false)]),[]⟩)
noncomputable def body105 (L:LT):St->T (Ex × St):=fun st=>evalC tab ⟨callT tb0,L,Gl⟩ (loopBody Try.f105 0) 0 st
theorem r105e (L:LT) (n:Nat) (f:Nat->Int) (m:Nat) (g:Nat->Int) (b:Nat)  (j:Nat->V) (h0:ilt (ofNat b) (ofNat n) = false):roundT (body105 L) (lp105 n f m g) (st105 n f m g b j) = some ((.ex 0),⟨(jsV 26 0 (fun _=>.und) [(4,(bV false))]),[]⟩):=by
  exact sem_of_path (ds:=[false]) (cs:=[(ilt (ofNat b) (ofNat n))]) (by kernel_rfl) (by simp only [h0] <;> rfl)
section
variable (L:LT) (n:Nat) (f:Nat->Int) (m:Nat) (g:Nat->Int) (b:Nat) (j:Nat->V)
include L n f m g b j
theorem r105f (h0:ilt (ofNat b) (ofNat n) = true) (h17:ile 0 (ofNat b) = true) (h1:ilt (ofNat b) (ofNat m) = true) (h2:ieq (f b) (g b) = false):roundT (body105 L) (lp105 n f m g) (st105 n f m g b j) = some (.rt,⟨(jsV 26 0 (fun _=>.und) [(4,(bV false))]),[]⟩):=by
  exact sem_of_path (ds:=[true,true,true,true]) (cs:=[(ilt (ofNat b) (ofNat n)),(band (ile 0 (ofNat b)) (ilt (ofNat b) (ofNat n))),(band (ile 0 (ofNat b)) (ilt (ofNat b) (ofNat m))),(bnot (ieq (f b) (g b)))]) (by kernel_rfl) (by simp only [h0,h17,h1,h2] <;> rfl)
theorem r105n (h0:ilt (ofNat b) (ofNat n) = true) (h17:ile 0 (ofNat b) = true) (h1:ilt (ofNat b) (ofNat m) = true) (h2:ieq (f b) (g b) = true):roundT (body105 L) (lp105 n f m g) (st105 n f m g b j) = some (.nm,⟨(jsV 26 0 (fun _=>.und) [(0,(.sl 1 n (fun i=>(iV (f i))))),(1,(.sl 1 m (fun i=>(iV (g i))))),(4,(bV false)),(12,(nV n)),(13,(iV (wr .i64 (iadd (ofNat b) 1))))]),[]⟩):=by
  exact sem_of_path (ds:=[true,true,true,false]) (cs:=[(ilt (ofNat b) (ofNat n)),(band (ile 0 (ofNat b)) (ilt (ofNat b) (ofNat n))),(band (ile 0 (ofNat b)) (ilt (ofNat b) (ofNat m))),(bnot (ieq (f b) (g b)))]) (by kernel_rfl) (by simp only [h0,h17,h1,h2] <;> rfl)
end
def jk105 (n:Nat) (f:Nat->Int) (m:Nat) (g:Nat->Int) :Nat->V:=lkV undefV [(6,(.sl 1 n (fun i=>(iV (f i))))),(7,(nV n)),(8,(.sl 1 m (fun i=>(iV (g i))))),(9,(nV m)),(10,(bV (bnot (ieq (ofNat n) (ofNat m))))),(11,(.sl 1 n (fun i=>(iV (f i)))))]
theorem w105l (L:LT) (n:Nat) (f:Nat->Int) (m:Nat) (g:Nat->Int) (h0:ieq (ofNat n) (ofNat m) = false):(finF (evalF tab ⟨callT tb0,L,Gl⟩ Try.f105 [.sl 1 n (fun i=>iV (f i)),.sl 1 m (fun i=>iV (g i))] [])).sem = some ((bV false),[]):=by
  exact sem_of_path (ds:=[true]) (cs:=[(bnot (ieq (ofNat n) (ofNat m)))]) (by kernel_rfl) (by simp only [h0] <;> rfl)
section
variable (L:LT) (p0:PT) (n:Nat) (f:Nat->Int) (m:Nat) (g:Nat->Int) (q:Nat)
include L p0 n f m g q
theorem w105f (h0:ieq (ofNat n) (ofNat m) = true) (hp0:p0 (body105 (onP 0 p0 (en105f n f m g q) L)) (st105 n f m g 0 (jk105 n f m g )) = true):(finF (evalF tab ⟨callT tb0,(onP 0 p0 (en105f n f m g q) L),Gl⟩ Try.f105 [.sl 1 n (fun i=>iV (f i)),.sl 1 m (fun i=>iV (g i))] [])).sem = some ((bV false),[]):=by
  exact sem_of_path (ds:=[false,true]) (cs:=[(bnot (ieq (ofNat n) (ofNat m))),(p0 (body105 (onP 0 p0 (en105f n f m g q) L)) (st105 n f m g 0 (jk105 n f m g )))]) (by kernel_rfl) (by simp only [hp0] <;> simp only [h0] <;> rfl)
theorem w105e (h0:ieq (ofNat n) (ofNat m) = true) (hp0:p0 (body105 (onP 0 p0 (en105e n f m g q) L)) (st105 n f m g 0 (jk105 n f m g )) = true):(finF (evalF tab ⟨callT tb0,(onP 0 p0 (en105e n f m g q) L),Gl⟩ Try.f105 [.sl 1 n (fun i=>iV (f i)),.sl 1 m (fun i=>iV (g i))] [])).sem = some ((bV true),[]):=by
  exact sem_of_path (ds:=[false,true]) (cs:=[(bnot (ieq (ofNat n) (ofNat m))),(p0 (body105 (onP 0 p0 (en105e n f m g q) L)) (st105 n f m g 0 (jk105 n f m g )))]) (by kernel_rfl) (by simp only [hp0] <;> simp only [h0] <;> rfl)
end
theorem run105 (L:LT) (n:Nat) (f:Nat->Int) (m:Nat) (g:Nat->Int) (hn:n <= 4611686018427387904) (hm:n = m):∀ (e b:Nat) (j:Nat->V) (q:Nat),n = b+e->e < q->(∀ k,k < b->ieq (f k) (g k) = true) ->
    ((iterT (body105 L) (lp105 n f m g) q (st105 n f m g b j)).sem = some (en105f n f m g 0) ∧ (allN n fun k=>ieq (f k) (g k)) = false) ∨ ((iterT (body105 L) (lp105 n f m g) q (st105 n f m g b j)).sem = some (en105e n f m g 0) ∧ (allN n fun k=>ieq (f k) (g k)) = true)
  | 0,b,j,q+1,h,_,hb=>by
    have:n = b:=by omega
    subst this
    exact .inr ⟨iter_round (r105e L n f m g n j (ofNat_ge (Nat.le_refl _))),allN_iff.2 hb⟩
  | e+1,b,j,q+1,h,h2,hb=>by
    have hl:b < n:=by omega
    cases hp:ieq (f b) (g b) with
    | false =>
      refine .inl ⟨?_,?_⟩
      · rw [iter_round (r105f L n f m g b j (ofNat_lt hl) (ofNat_0 b) (ofNat_lt (by omega)) hp),goOn_rt]
        rfl
      · cases ha:(allN n fun k=>ieq (f k) (g k)) with
        | false=>rfl
        | true =>
          have:=allN_iff.1 ha b hl
          rw [hp] at this
          cases this
    | true =>
      have next:=run105 L n f m g hn hm e (b+1) (fun _=>.und) q (by omega) (by omega) fun k hk=>by
        by_cases hki:k = b
        · rw [hki]; exact hp
        · exact hb k (by omega)
      rw [iter_round (r105n L n f m g b j (ofNat_lt hl) (ofNat_0 b) (ofNat_lt (by omega)) hp),goOn_nm,succ_wr hl hn]
      exact next
theorem p105:PureC Try.prog Gl 105 sameIT:=by
  refine pureC_intro tabOK mixed Try.func105 (by kernel_rfl) (by kernel_rfl) fun vs v h' h=>?_
  unfold sameIT at h
  split at h
  · rename_i v1 u1
    obtain ⟨n,f,a1,h⟩:=apG_some h
    obtain ⟨m,g,a2,h⟩:=apG_some h
    obtain ⟨hn,h⟩:=sem_br_fail h
    have:=sem_leaf h
    simp only [Prod.mk.injEq] at this
    obtain ⟨rfl,rfl⟩:=this
    have hA:ArgLE [v1,u1] [lstV codI n f,lstV codI m g]:=fun S w cs hv=>by
      obtain ⟨c,l,rfl,q1,c',l',rfl,q2,q3⟩:=hv
      exact ⟨c,_,rfl,a1 S w c q1,c',l',rfl,a2 S w c' q2,q3⟩
    have hx:=cx_ok tb0_ok [(0,lp105 n f m g)] (G:=Gl)
    have hL:=loopsBy_le [(0,lp105 n f m g)]
    refine ⟨_,cxOf Gl tb0 [(0,lp105 n f m g)],_,hA,rfl,hx.1,hx.2,?_,RowsLE.refl _⟩
    cases hl:ieq (ofNat n) (ofNat m) with
    | false =>
      rw [show sameI n f m g = false from band_f hl]
      exact w105l _ n f m g hl
    | true =>
      rw [show sameI n f m g = _ from band_t hl]
      have h0:=fun L j=>run105 L n f m g (small_le hn) (of_nat_eq hl) n 0 j (n+1) (by omega) (by omega) (fun k hk=>absurd hk (Nat.not_lt_zero _))
      cases ha:(allN n fun k=>ieq (f k) (g k)) with
      | false=>exact told_le (onP_le hL hL) _ (w105f _ _ n f m g 0 hl (isP_true ((h0 _ _).elim (fun h=>h.1) fun h=>by have:=h.2; rw [ha] at this; cases this)))
      | true=>exact told_le (onP_le hL hL) _ (w105e _ _ n f m g 0 hl (isP_true ((h0 _ _).elim (fun h=>by have:=h.2; rw [ha] at this; cases this) fun h=>h.1)))
  · cases h
noncomputable def tb106:List (Nat × (List V->T (V × List Blk))):=[(105,sameIT)]
theorem tb106_ok:AllPure Try.prog Gl tb106:=.cons p105 .nil
def lp106 (n:Nat) (_:Nat->Nat) (_:Nat->Nat->Int) (_:Nat) (_:Nat->Nat) (_:Nat->Nat->Int):Lp:=⟨(bmK 32 0 [0,1,2,6,15,16,17]),0,(bmK 32 0 [6]),0,n+1⟩
def st106 (n:Nat) (ln:Nat->Nat) (co:Nat->Nat->Int) (m:Nat) (ln':Nat->Nat) (co':Nat->Nat->Int) (b:Nat) (j:Nat->V):St:=⟨(jsV 32 0 j [(0,.sl 1 n (fun u=>.sl 1 (ln u) (fun i=>iV (co u i)))),(1,.sl 1 m (fun u=>.sl 1 (ln' u) (fun i=>iV (co' u i)))),(2,.fn 105 []),(6,bV false),(15,.sl 1 n (fun u=>.sl 1 (ln u) (fun i=>iV (co u i)))),(16,nV n),(17,nV b)]),[]⟩
def en106f (_:Nat) (_:Nat->Nat) (_:Nat->Nat->Int) (_:Nat) (_:Nat->Nat) (_:Nat->Nat->Int) (_:Nat):Ex × St:=(.rt,⟨(jsV 32 0 (fun _=>.und) [(6,bV false)]),[]⟩)
def en106e (_:Nat) (_:Nat->Nat) (_:Nat->Nat->Int) (_:Nat) (_:Nat->Nat) (_:Nat->Nat->Int) (_:Nat):Ex × St:=(.ex 0,⟨(jsV 32 0 (fun _=>.und) [(6,bV false)]),[]⟩)
noncomputable def body106 (L:LT):St->T (Ex × St):=fun st=>evalC tab ⟨callT tb106,L,Gl⟩ (loopBody Try.f106 0) 0 st
section
variable (L:LT) (n:Nat) (ln:Nat->Nat) (co:Nat->Nat->Int) (m:Nat) (ln':Nat->Nat) (co':Nat->Nat->Int) (b:Nat)  (j:Nat->V)
include L n ln co m ln' co' b j
theorem r106e (h0:ilt (ofNat b) (ofNat n) = false):roundT (body106 L) (lp106 n ln co m ln' co') (st106 n ln co m ln' co' b j) = some ((.ex 0),⟨(jsV 32 0 (fun _=>.und) [(6,(bV false))]),[]⟩):=by
  exact sem_of_path (ds:=[false]) (cs:=[(ilt (ofNat b) (ofNat n))]) (by kernel_rfl) (by simp only [h0] <;> rfl)
theorem r106f (h0:ilt (ofNat b) (ofNat n) = true) (h17:ile 0 (ofNat b) = true) (h1:ilt (ofNat b) (ofNat m) = true) (h18:smallN (ln b) = true) (h2:sameI (ln b) (co b) (ln' b) (co' b) = false):roundT (body106 L) (lp106 n ln co m ln' co') (st106 n ln co m ln' co' b j) = some (.rt,⟨(jsV 32 0 (fun _=>.und) [(6,(bV false))]),[]⟩):=by
  exact sem_of_path (ds:=bbK 7 127) (cs:=[(ilt (ofNat b) (ofNat n)),(band (ile 0 (ofNat b)) (ilt (ofNat b) (ofNat n))),(band (ile 0 (ofNat b)) (ilt (ofNat b) (ofNat m))),(allN (ln b) (fun _=>true)),(allN (ln' b) (fun _=>true)),(smallN (ln b)),(bnot (sameI (ln b) (co b) (ln' b) (co' b)))]) (by kernel_rfl) (by simp only [h0,h17,h1,h18,h2,allN_true] <;> rfl)
theorem r106n (h0:ilt (ofNat b) (ofNat n) = true) (h17:ile 0 (ofNat b) = true) (h1:ilt (ofNat b) (ofNat m) = true) (h18:smallN (ln b) = true) (h2:sameI (ln b) (co b) (ln' b) (co' b) = true):roundT (body106 L) (lp106 n ln co m ln' co') (st106 n ln co m ln' co' b j) = some (.nm,⟨(jsV 32 0 (fun _=>.und) [(0,(.sl 1 n (fun u=>(.sl 1 (ln u) (fun i=>(iV (co u i))))))),(1,(.sl 1 m (fun u=>(.sl 1 (ln' u) (fun i=>(iV (co' u i))))))),(2,(.fn 105 [])),(6,(bV false)),(15,(.sl 1 n (fun u=>(.sl 1 (ln u) (fun i=>(iV (co u i))))))),(16,(nV n)),(17,(iV (wr .i64 (iadd (ofNat b) 1))))]),[]⟩):=by
  exact sem_of_path (ds:=bbK 7 63) (cs:=[(ilt (ofNat b) (ofNat n)),(band (ile 0 (ofNat b)) (ilt (ofNat b) (ofNat n))),(band (ile 0 (ofNat b)) (ilt (ofNat b) (ofNat m))),(allN (ln b) (fun _=>true)),(allN (ln' b) (fun _=>true)),(smallN (ln b)),(bnot (sameI (ln b) (co b) (ln' b) (co' b)))]) (by kernel_rfl) (by simp only [h0,h17,h1,h18,h2,allN_true] <;> rfl)
end
def jk106 (n:Nat) (ln:Nat->Nat) (co:Nat->Nat->Int) (m:Nat) (ln':Nat->Nat) (co':Nat->Nat->Int) :Nat->V:=lkV undefV [(10,(.sl 1 n (fun u=>(.sl 1 (ln u) (fun i=>(iV (co u i))))))),(11,(nV n)),(12,(.sl 1 m (fun u=>(.sl 1 (ln' u) (fun i=>(iV (co' u i))))))),(13,(nV m)),(14,(bV (bnot (ieq (ofNat n) (ofNat m)))))]
theorem w106l (L:LT) (n:Nat) (ln:Nat->Nat) (co:Nat->Nat->Int) (m:Nat) (ln':Nat->Nat) (co':Nat->Nat->Int) (h0:ieq (ofNat n) (ofNat m) = false):(finF (evalF tab ⟨callT tb106,L,Gl⟩ Try.f106 [.sl 1 n (fun u=>.sl 1 (ln u) (fun i=>iV (co u i))),.sl 1 m (fun u=>.sl 1 (ln' u) (fun i=>iV (co' u i))),.fn 105 []] [])).sem = some ((bV false),[]):=by
  exact sem_of_path (ds:=[true]) (cs:=[(bnot (ieq (ofNat n) (ofNat m)))]) (by kernel_rfl) (by simp only [h0] <;> rfl)
section
variable (L:LT) (p0:PT) (n:Nat) (ln:Nat->Nat) (co:Nat->Nat->Int) (m:Nat) (ln':Nat->Nat) (co':Nat->Nat->Int) (q:Nat)
include L p0 n ln co m ln' co' q
theorem w106f (h0:ieq (ofNat n) (ofNat m) = true) (hp0:p0 (body106 (onP 0 p0 (en106f n ln co m ln' co' q) L)) (st106 n ln co m ln' co' 0 (jk106 n ln co m ln' co' )) = true):(finF (evalF tab ⟨callT tb106,(onP 0 p0 (en106f n ln co m ln' co' q) L),Gl⟩ Try.f106 [.sl 1 n (fun u=>.sl 1 (ln u) (fun i=>iV (co u i))),.sl 1 m (fun u=>.sl 1 (ln' u) (fun i=>iV (co' u i))),.fn 105 []] [])).sem = some ((bV false),[]):=by
  exact sem_of_path (ds:=[false,true]) (cs:=[(bnot (ieq (ofNat n) (ofNat m))),(p0 (body106 (onP 0 p0 (en106f n ln co m ln' co' q) L)) (st106 n ln co m ln' co' 0 (jk106 n ln co m ln' co' )))]) (by kernel_rfl) (by simp only [hp0] <;> simp only [h0] <;> rfl)
theorem w106e (h0:ieq (ofNat n) (ofNat m) = true) (hp0:p0 (body106 (onP 0 p0 (en106e n ln co m ln' co' q) L)) (st106 n ln co m ln' co' 0 (jk106 n ln co m ln' co' )) = true):(finF (evalF tab ⟨callT tb106,(onP 0 p0 (en106e n ln co m ln' co' q) L),Gl⟩ Try.f106 [.sl 1 n (fun u=>.sl 1 (ln u) (fun i=>iV (co u i))),.sl 1 m (fun u=>.sl 1 (ln' u) (fun i=>iV (co' u i))),.fn 105 []] [])).sem = some ((bV true),[]):=by
  exact sem_of_path (ds:=[false,true]) (cs:=[(bnot (ieq (ofNat n) (ofNat m))),(p0 (body106 (onP 0 p0 (en106e n ln co m ln' co' q) L)) (st106 n ln co m ln' co' 0 (jk106 n ln co m ln' co' )))]) (by kernel_rfl) (by simp only [hp0] <;> simp only [h0] <;> rfl)
end
theorem run106 (L:LT) (n:Nat) (ln:Nat->Nat) (co:Nat->Nat->Int) (m:Nat) (ln':Nat->Nat) (co':Nat->Nat->Int) (hn:n <= 4611686018427387904) (hm:n = m) (hs:∀ k,k < n->smallN (ln k) = true):∀ (e b:Nat) (j:Nat->V) (q:Nat),n = b+e->e < q->(∀ k,k < b->sameI (ln k) (co k) (ln' k) (co' k) = true) ->
    ((iterT (body106 L) (lp106 n ln co m ln' co') q (st106 n ln co m ln' co' b j)).sem = some (en106f n ln co m ln' co' 0) ∧ (allN n fun k=>sameI (ln k) (co k) (ln' k) (co' k)) = false) ∨ ((iterT (body106 L) (lp106 n ln co m ln' co') q (st106 n ln co m ln' co' b j)).sem = some (en106e n ln co m ln' co' 0) ∧ (allN n fun k=>sameI (ln k) (co k) (ln' k) (co' k)) = true)
  | 0,b,j,q+1,h,_,hb=>by
    have:n = b:=by omega
    subst this
    exact .inr ⟨iter_round (r106e L n ln co m ln' co' n j (ofNat_ge (Nat.le_refl _))),allN_iff.2 hb⟩
  | e+1,b,j,q+1,h,h2,hb=>by
    have hl:b < n:=by omega
    cases hp:sameI (ln b) (co b) (ln' b) (co' b) with
    | false =>
      refine .inl ⟨?_,?_⟩
      · rw [iter_round (r106f L n ln co m ln' co' b j (ofNat_lt hl) (ofNat_0 b) (ofNat_lt (by omega)) (hs b hl) hp),goOn_rt]
        rfl
      · cases ha:(allN n fun k=>sameI (ln k) (co k) (ln' k) (co' k)) with
        | false=>rfl
        | true =>
          have:=allN_iff.1 ha b hl
          rw [hp] at this
          cases this
    | true =>
      have next:=run106 L n ln co m ln' co' hn hm hs e (b+1) (fun _=>.und) q (by omega) (by omega) fun k hk=>by
        by_cases hki:k = b
        · rw [hki]; exact hp
        · exact hb k (by omega)
      rw [iter_round (r106n L n ln co m ln' co' b j (ofNat_lt hl) (ofNat_0 b) (ofNat_lt (by omega)) (hs b hl) hp),goOn_nm,succ_wr hl hn]
      exact next
theorem p106:PureC Try.prog Gl 106 sameJFT:=by
  refine pureC_intro tabOK mixed Try.func106 (by kernel_rfl) (by kernel_rfl) fun vs v h' h=>?_
  unfold sameJFT at h
  split at h
  · rename_i v1 u1
    obtain ⟨n,C,a1,h⟩:=apG_some h
    obtain ⟨m,D,a2,h⟩:=apG_some h
    obtain ⟨hn,h⟩:=sem_br_fail h
    obtain ⟨hs,h⟩:=sem_br_fail h
    have hs:=allN_iff.1 hs
    have:=sem_leaf h
    simp only [Prod.mk.injEq] at this
    obtain ⟨rfl,rfl⟩:=this
    have hA:ArgLE [v1,u1,.fn 105 []] [.sl 1 n (fun u=>.sl 1 (C u).1 (fun i=>iV ((C u).2 i))),.sl 1 m (fun u=>.sl 1 (D u).1 (fun i=>iV ((D u).2 i))),.fn 105 []]:=fun S w cs hv=>by
      obtain ⟨c,l,rfl,q1,c',l',rfl,q2,q3⟩:=hv
      exact ⟨c,_,rfl,a1 S w c q1,c',l',rfl,a2 S w c' q2,q3⟩
    generalize hln:(fun i=>(C i).1) = ln
    generalize hco:(fun i=>(C i).2) = co
    generalize hln':(fun i=>(D i).1) = ln'
    generalize hco':(fun i=>(D i).2) = co'
    have hx:=cx_ok tb106_ok [(0,lp106 n ln co m ln' co')] (G:=Gl)
    have hL:=loopsBy_le [(0,lp106 n ln co m ln' co')]
    refine ⟨_,cxOf Gl tb106 [(0,lp106 n ln co m ln' co')],_,hA,rfl,hx.1,hx.2,?_,RowsLE.refl _⟩
    have hs:∀ k,k < n->smallN (ln k) = true:=fun k hk=>by rw [<- hln]; exact hs k hk
    have e1:∀ u,(C u).1 = ln u:=fun u=>by rw [<- hln]
    have e2:∀ u,(C u).2 = co u:=fun u=>by rw [<- hco]
    have e3:∀ u,(D u).1 = ln' u:=fun u=>by rw [<- hln']
    have e4:∀ u,(D u).2 = co' u:=fun u=>by rw [<- hco']
    simp only [e1,e2,e3,e4]
    cases hl:ieq (ofNat n) (ofNat m) with
    | false =>
      rw [show sameJ n ln co m ln' co' = false from band_f hl]
      exact w106l _ n ln co m ln' co' hl
    | true =>
      rw [show sameJ n ln co m ln' co' = _ from band_t hl]
      have h0:=fun L j=>run106 L n ln co m ln' co' (small_le hn) (of_nat_eq hl) hs n 0 j (n+1) (by omega) (by omega) (fun k hk=>absurd hk (Nat.not_lt_zero _))
      cases ha:(allN n fun k=>sameI (ln k) (co k) (ln' k) (co' k)) with
      | false=>exact told_le (onP_le hL hL) _ (w106f _ _ n ln co m ln' co' 0 hl (isP_true ((h0 _ _).elim (fun h=>h.1) fun h=>by have:=h.2; rw [ha] at this; cases this)))
      | true=>exact told_le (onP_le hL hL) _ (w106e _ _ n ln co m ln' co' 0 hl (isP_true ((h0 _ _).elim (fun h=>by have:=h.2; rw [ha] at this; cases this) fun h=>h.1)))
  · cases h
noncomputable def tb72:List (Nat × (List V->T (V × List Blk))):=[(103,sameBT),(104,sameET),(105,sameIT),(106,sameJFT)]
theorem tb72_ok:AllPure Try.prog Gl tb72:=.cons p103 <| .cons p104 <| .cons p105 <| .cons p106 .nil
theorem sameS_E (a b c d e i j k:Bool):band a (band b (band c (band d (band e (band i (band j k)))))) = band a (band b (band c (band d (band (band e k) (band i (band j true)))))):=by
  cases a <;> cases b <;> cases c <;> cases d <;> cases e <;> cases i <;> cases j <;> cases k <;> rfl
section
variable (L:LT) (a:Int) (n:Nat) (g:Nat->E6) (m:Nat) (x:Nat->Ev5) (t k:Int) (p:Nat) (r:Nat->Int) (q:Nat) (ln:Nat->Nat) (co:Nat->Nat->Int) (a':Int) (n':Nat) (g':Nat->E6) (m':Nat) (x':Nat->Ev5) (t' k':Int) (p':Nat) (r':Nat->Int) (q':Nat) (ln':Nat->Nat) (co':Nat->Nat->Int)
include L a n g m x t k p r q ln co a' n' g' m' x' t' k' p' r' q' ln' co'
theorem w72_0 (h0:ieq a a' = false):(finF (evalF tab ⟨callT tb72,L,Gl⟩ Try.f72 [.agg [iV a,.sl 6 n (fun i=>eV (g i)),.sl 5 m (fun i=>evV (x i)),iV t,iV k,.sl 1 p (fun i=>iV (r i)),.sl 1 q (fun u=>.sl 1 (ln u) (fun i=>iV (co u i)))],.agg [iV a',.sl 6 n' (fun i=>eV (g' i)),.sl 5 m' (fun i=>evV (x' i)),iV t',iV k',.sl 1 p' (fun i=>iV (r' i)),.sl 1 q' (fun u=>.sl 1 (ln' u) (fun i=>iV (co' u i)))]] [])).sem = some ((bV false),[]):=by
  exact sem_of_path (ds:=bbK 36 0) (cs:=((fun c0 c1=>[c0,c0,c0,c0,c0,c0,c1,c1,c1,c1,c1,c1,c1,c1,c1,c1,c1,c1,c1,c1,c1,c1,c1,c1,c1,c1,c1,c1,c1,c1,c1,c1,c1,c1,c1,c1]) (ieq a a') (false))) (by kernel_rfl) (by simp only [h0] <;> rfl)
theorem w72_1 (h0:ieq a a' = true) (h1:ieq t t' = false):(finF (evalF tab ⟨callT tb72,L,Gl⟩ Try.f72 [.agg [iV a,.sl 6 n (fun i=>eV (g i)),.sl 5 m (fun i=>evV (x i)),iV t,iV k,.sl 1 p (fun i=>iV (r i)),.sl 1 q (fun u=>.sl 1 (ln u) (fun i=>iV (co u i)))],.agg [iV a',.sl 6 n' (fun i=>eV (g' i)),.sl 5 m' (fun i=>evV (x' i)),iV t',iV k',.sl 1 p' (fun i=>iV (r' i)),.sl 1 q' (fun u=>.sl 1 (ln' u) (fun i=>iV (co' u i)))]] [])).sem = some ((bV false),[]):=by
  exact sem_of_path (ds:=bbK 36 63) (cs:=((fun c0 c1 c2=>[c0,c0,c0,c0,c0,c0,c1,c1,c1,c1,c1,c1,c2,c2,c2,c2,c2,c2,c2,c2,c2,c2,c2,c2,c2,c2,c2,c2,c2,c2,c2,c2,c2,c2,c2,c2]) (ieq a a') (ieq t t') (false))) (by kernel_rfl) (by simp only [h0,h1] <;> rfl)
theorem w72_2 (h0:ieq a a' = true) (h1:ieq t t' = true) (h2:ieq k k' = false):(finF (evalF tab ⟨callT tb72,L,Gl⟩ Try.f72 [.agg [iV a,.sl 6 n (fun i=>eV (g i)),.sl 5 m (fun i=>evV (x i)),iV t,iV k,.sl 1 p (fun i=>iV (r i)),.sl 1 q (fun u=>.sl 1 (ln u) (fun i=>iV (co u i)))],.agg [iV a',.sl 6 n' (fun i=>eV (g' i)),.sl 5 m' (fun i=>evV (x' i)),iV t',iV k',.sl 1 p' (fun i=>iV (r' i)),.sl 1 q' (fun u=>.sl 1 (ln' u) (fun i=>iV (co' u i)))]] [])).sem = some ((bV false),[]):=by
  exact sem_of_path (ds:=bbK 36 4095) (cs:=((fun c0 c1 c2 c3=>[c0,c0,c0,c0,c0,c0,c1,c1,c1,c1,c1,c1,c2,c2,c2,c2,c2,c2,c3,c3,c3,c3,c3,c3,c3,c3,c3,c3,c3,c3,c3,c3,c3,c3,c3,c3]) (ieq a a') (ieq t t') (ieq k k') (false))) (by kernel_rfl) (by simp only [h0,h1,h2] <;> rfl)
theorem w72_3 (h0:ieq a a' = true) (h1:ieq t t' = true) (h2:ieq k k' = true) (h18:smallN n = true) (h3:sameB n g n' g' = false):(finF (evalF tab ⟨callT tb72,L,Gl⟩ Try.f72 [.agg [iV a,.sl 6 n (fun i=>eV (g i)),.sl 5 m (fun i=>evV (x i)),iV t,iV k,.sl 1 p (fun i=>iV (r i)),.sl 1 q (fun u=>.sl 1 (ln u) (fun i=>iV (co u i)))],.agg [iV a',.sl 6 n' (fun i=>eV (g' i)),.sl 5 m' (fun i=>evV (x' i)),iV t',iV k',.sl 1 p' (fun i=>iV (r' i)),.sl 1 q' (fun u=>.sl 1 (ln' u) (fun i=>iV (co' u i)))]] [])).sem = some ((bV false),[]):=by
  exact sem_of_path (ds:=bbK 39 2097151) (cs:=((fun c0 c1 c2 c3 c4=>[c0,c0,c0,c0,c0,c0,c1,c1,c1,c1,c1,c1,c2,c2,c2,c2,c2,(allN n (fun _=>true)),(allN n' (fun _=>true)),(smallN n),c2,c3,c3,c3,c3,c3,c3,c4,c4,c4,c4,c4,c4,c4,c4,c4,c4,c4,c4]) (ieq a a') (ieq t t') (ieq k k') (sameB n g n' g') (false))) (by kernel_rfl) (by simp only [h0,h1,h2,h18,h3,allN_true] <;> rfl)
theorem w72_4 (h0:ieq a a' = true) (h1:ieq t t' = true) (h2:ieq k k' = true) (h19:smallN n = true) (h3:sameB n g n' g' = true) (h20:smallN m = true) (h4:sameE m x m' x' = false):(finF (evalF tab ⟨callT tb72,L,Gl⟩ Try.f72 [.agg [iV a,.sl 6 n (fun i=>eV (g i)),.sl 5 m (fun i=>evV (x i)),iV t,iV k,.sl 1 p (fun i=>iV (r i)),.sl 1 q (fun u=>.sl 1 (ln u) (fun i=>iV (co u i)))],.agg [iV a',.sl 6 n' (fun i=>eV (g' i)),.sl 5 m' (fun i=>evV (x' i)),iV t',iV k',.sl 1 p' (fun i=>iV (r' i)),.sl 1 q' (fun u=>.sl 1 (ln' u) (fun i=>iV (co' u i)))]] [])).sem = some ((bV false),[]):=by
  exact sem_of_path (ds:=bbK 42 1073741823) (cs:=((fun c0 c1 c2 c3 c4 c5=>[c0,c0,c0,c0,c0,c0,c1,c1,c1,c1,c1,c1,c2,c2,c2,c2,c2,(allN n (fun _=>true)),(allN n' (fun _=>true)),(smallN n),c2,c3,c3,c3,c3,c3,(allN m (fun _=>true)),(allN m' (fun _=>true)),(smallN m),c3,c4,c4,c4,c4,c4,c4,c5,c5,c5,c5,c5,c5]) (ieq a a') (ieq t t') (ieq k k') (sameB n g n' g') (sameE m x m' x') (false))) (by kernel_rfl) (by simp only [h0,h1,h2,h19,h3,h20,h4,allN_true] <;> rfl)
theorem w72_5 (h0:ieq a a' = true) (h1:ieq t t' = true) (h2:ieq k k' = true) (h20:smallN n = true) (h3:sameB n g n' g' = true) (h21:smallN m = true) (h4:sameE m x m' x' = true) (h22:smallN p = true) (h5:sameI p r p' r' = false):(finF (evalF tab ⟨callT tb72,L,Gl⟩ Try.f72 [.agg [iV a,.sl 6 n (fun i=>eV (g i)),.sl 5 m (fun i=>evV (x i)),iV t,iV k,.sl 1 p (fun i=>iV (r i)),.sl 1 q (fun u=>.sl 1 (ln u) (fun i=>iV (co u i)))],.agg [iV a',.sl 6 n' (fun i=>eV (g' i)),.sl 5 m' (fun i=>evV (x' i)),iV t',iV k',.sl 1 p' (fun i=>iV (r' i)),.sl 1 q' (fun u=>.sl 1 (ln' u) (fun i=>iV (co' u i)))]] [])).sem = some ((bV false),[]):=by
  exact sem_of_path (ds:=bbK 45 549755813887) (cs:=((fun c0 c1 c2 c3 c4 c5=>[c0,c0,c0,c0,c0,c0,c1,c1,c1,c1,c1,c1,c2,c2,c2,c2,c2,(allN n (fun _=>true)),(allN n' (fun _=>true)),(smallN n),c2,c3,c3,c3,c3,c3,(allN m (fun _=>true)),(allN m' (fun _=>true)),(smallN m),c3,c4,c4,c4,c4,c4,(allN p (fun _=>true)),(allN p' (fun _=>true)),(smallN p),c4,c5,c5,c5,c5,c5,c5]) (ieq a a') (ieq t t') (ieq k k') (sameB n g n' g') (sameE m x m' x') (sameI p r p' r'))) (by kernel_rfl) (by simp only [h0,h1,h2,h20,h3,h21,h4,h22,h5,allN_true] <;> rfl)
theorem w72t (h0:ieq a a' = true) (h1:ieq t t' = true) (h2:ieq k k' = true) (h21:smallN n = true) (h3:sameB n g n' g' = true) (h22:smallN m = true) (h4:sameE m x m' x' = true) (h23:smallN p = true) (h5:sameI p r p' r' = true) (h24:allN q (fun i=>(allN (ln i) (fun _=>true))) = true) (h25:allN q' (fun i=>(allN (ln' i) (fun _=>true))) = true) (h26:smallN q = true) (h27:allN q (fun i=>(smallN (ln i))) = true):(finF (evalF tab ⟨callT tb72,L,Gl⟩ Try.f72 [.agg [iV a,.sl 6 n (fun i=>eV (g i)),.sl 5 m (fun i=>evV (x i)),iV t,iV k,.sl 1 p (fun i=>iV (r i)),.sl 1 q (fun u=>.sl 1 (ln u) (fun i=>iV (co u i)))],.agg [iV a',.sl 6 n' (fun i=>eV (g' i)),.sl 5 m' (fun i=>evV (x' i)),iV t',iV k',.sl 1 p' (fun i=>iV (r' i)),.sl 1 q' (fun u=>.sl 1 (ln' u) (fun i=>iV (co' u i)))]] [])).sem = some ((bV (sameJ q ln (fun i i_1=>(co i i_1)) q' ln' (fun i i_1=>(co' i i_1)))),[]):=by
  exact sem_of_path (ds:=bbK 49 562949953421311) (cs:=((fun c0 c1 c2 c3 c4 c5=>[c0,c0,c0,c0,c0,c0,c1,c1,c1,c1,c1,c1,c2,c2,c2,c2,c2,(allN n (fun _=>true)),(allN n' (fun _=>true)),(smallN n),c2,c3,c3,c3,c3,c3,(allN m (fun _=>true)),(allN m' (fun _=>true)),(smallN m),c3,c4,c4,c4,c4,c4,(allN p (fun _=>true)),(allN p' (fun _=>true)),(smallN p),c4,c5,c5,c5,c5,c5,(allN q (fun i=>(allN (ln i) (fun _=>true)))),(allN q' (fun i=>(allN (ln' i) (fun _=>true)))),(smallN q),(allN q (fun i=>(smallN (ln i)))),c5]) (ieq a a') (ieq t t') (ieq k k') (sameB n g n' g') (sameE m x m' x') (sameI p r p' r'))) (by kernel_rfl) (by simp only [h0,h1,h2,h21,h3,h22,h4,h23,h5,h24,h25,h26,h27,allN_true] <;> rfl)
end
theorem p72:PureC Try.prog Gl 72 sameST:=by
  refine pureC_intro tabOK mixed Try.func72 (by kernel_rfl) (by kernel_rfl) fun vs v h' h=>?_
  unfold sameST at h
  split at h
  · rename_i v1 u1
    obtain ⟨s,a1,h⟩:=apS_some h
    obtain ⟨s',a2,h⟩:=apS_some h
    obtain ⟨hn,h⟩:=sem_br_fail h
    have:=sem_leaf h
    simp only [Prod.mk.injEq] at this
    obtain ⟨rfl,rfl⟩:=this
    obtain ⟨a,n,g,m,x,t,k,p,r,q,C⟩:=s
    obtain ⟨a',n',g',m',x',t',k',p',r',q',D⟩:=s'
    have hA:ArgLE [v1,u1] [.agg [iV a,.sl 6 n (fun i=>eV (g i)),.sl 5 m (fun i=>evV (x i)),iV t,iV k,.sl 1 p (fun i=>iV (r i)),.sl 1 q (fun u=>.sl 1 (C u).1 (fun i=>iV ((C u).2 i)))],
        .agg [iV a',.sl 6 n' (fun i=>eV (g' i)),.sl 5 m' (fun i=>evV (x' i)),iV t',iV k',.sl 1 p' (fun i=>iV (r' i)),.sl 1 q' (fun u=>.sl 1 (D u).1 (fun i=>iV ((D u).2 i)))]]:=fun S w cs hv=>by
      obtain ⟨c,l,rfl,q1,c',l',rfl,q2,q3⟩:=hv
      exact ⟨c,_,rfl,a1 S w c q1,c',l',rfl,a2 S w c' q2,q3⟩
    have hn:smallN n = true ∧ smallN m = true ∧ smallN p = true ∧ smallN q = true ∧ (allN q fun i=>smallN (C i).1) = true:=by simpa [smallS,band] using hn
    obtain ⟨n1,n2,n3,n4,n5⟩:=hn
    unfold sameS
    dsimp only
    generalize hln:(fun i=>(C i).1) = ln
    generalize hco:(fun i=>(C i).2) = co
    generalize hln':(fun i=>(D i).1) = ln'
    generalize hco':(fun i=>(D i).2) = co'
    have hx:=cx_ok tb72_ok [] (G:=Gl)
    refine ⟨_,cxOf Gl tb72 [],_,hA,rfl,hx.1,hx.2,?_,RowsLE.refl _⟩
    have e1:∀ u,(C u).1 = ln u:=fun u=>by rw [<- hln]
    have e2:∀ u,(C u).2 = co u:=fun u=>by rw [<- hco]
    have e3:∀ u,(D u).1 = ln' u:=fun u=>by rw [<- hln']
    have e4:∀ u,(D u).2 = co' u:=fun u=>by rw [<- hco']
    simp only [e1,e2,e3,e4] at n5 ⊢
    have all2:∀ (q:Nat) (ln:Nat->Nat),(allN q fun i=>allN (ln i) fun _=>true) = true:=fun _ _=>allN_iff.2 fun _ _=>allN_iff.2 fun _ _=>rfl
    rw [sameS_E,show (band (ieq (ofNat m) (ofNat m')) (allN m fun k=>sameX (x k) (x' k))) = sameE m x m' x' from rfl]
    cases c0:ieq a a' with
    | false=>rw [band_f rfl]; exact w72_0 _ a n g m x t k p r q ln co a' n' g' m' x' t' k' p' r' q' ln' co' c0
    | true =>
    rw [band_t rfl]
    cases c1:ieq t t' with
    | false=>rw [band_f rfl]; exact w72_1 _ a n g m x t k p r q ln co a' n' g' m' x' t' k' p' r' q' ln' co' c0 c1
    | true =>
    rw [band_t rfl]
    cases c2:ieq k k' with
    | false=>rw [band_f rfl]; exact w72_2 _ a n g m x t k p r q ln co a' n' g' m' x' t' k' p' r' q' ln' co' c0 c1 c2
    | true =>
    rw [band_t rfl]
    cases c3:sameB n g n' g' with
    | false=>rw [band_f rfl]; exact w72_3 _ a n g m x t k p r q ln co a' n' g' m' x' t' k' p' r' q' ln' co' c0 c1 c2 n1 c3
    | true =>
    rw [band_t rfl]
    cases c4:sameE m x m' x' with
    | false=>rw [band_f rfl]; exact w72_4 _ a n g m x t k p r q ln co a' n' g' m' x' t' k' p' r' q' ln' co' c0 c1 c2 n1 c3 n2 c4
    | true =>
    rw [band_t rfl]
    cases c5:sameI p r p' r' with
    | false=>rw [band_f rfl]; exact w72_5 _ a n g m x t k p r q ln co a' n' g' m' x' t' k' p' r' q' ln' co' c0 c1 c2 n1 c3 n2 c4 n3 c5
    | true =>
    rw [band_t rfl]
    rw [show band (sameJ q ln co q' ln' co') true = sameJ q ln co q' ln' co' by cases sameJ q ln co q' ln' co' <;> rfl]
    exact w72t _ a n g m x t k p r q ln co a' n' g' m' x' t' k' p' r' q' ln' co' c0 c1 c2 n1 c3 n2 c4 n3 c5 (all2 _ _) (all2 _ _) n4 n5
  · cases h
end Go.Proofs.Ytjhnfomefcngfaa.Sh
