/-
  Layer 7: the document's cycle turned, where a location's segment begins, its walk through it. No conditions.
-/
import Derived.Test.YthlojajaenfidaaGreatDoorShW
namespace Go.Proofs.YthlojajaenfidaaGreatDoor.Sh
open Go.Sy Ed
open Int (ofNat)
set_option maxHeartbeats 1000000
set_option maxRecDepth 4000
noncomputable def AdQ (n:Nat) (f:Nat->E6):Bool:=@decide (∃ a,IsCycle a n f) (Classical.propDecidable _)
theorem T8 {n:Nat} {f:Nat->E6}:AdQ n f = true ↔ ∃ a,IsCycle a n f:=by
 unfold AdQ
 exact @decide_eq_true_iff _ (Classical.propDecidable _)
noncomputable def Ac0:List (Nat × (List V->T (V × List Blk))):=(72,LX) :: (67,BE λe=>bV (Ax e)) :: (5,JT) :: []
theorem Acz:A8 Tryz.prog Gl Ac0:=.cons p93 <| .cons p60 <| .cons p69 .nil
def Yd (n:Nat) (_:Nat->E6):Lp:=⟨(bmK 27 0 [3,5]),2,bmK 27 0 [2],3,n+1⟩
def AcB (n:Nat) (f:Nat->E6) (b:Nat) (j:Nat->V):St:=⟨(jsV 27 0 j [(3,.ref 1),(5,nV b)]),[.row 57 6 0 (λ_=>.und),.row 57 6 n (λi=>eV (Bc n f i))]⟩
def Abt (n:Nat) (f:Nat->E6) (b:Nat):Ex × St:=(.rt,⟨(jsV 27 0 (λ_=>.und) [(2,.ref 2)]),[.row 57 6 0 (λ_=>.und),.row 57 6 n (λi=>eV (Bc n f i)),.row 57 6 n (λi=>eV (D5 n (Bc n f) (ofNat b) i))]⟩)
noncomputable def RF (L:LT):St->T (Ex × St):=λst=>AD tab ⟨Ak Ac0,L,Gl⟩ (As Tryz.f48 0) 0 st
section
variable (L:LT) (n:Nat) (f:Nat->E6) (b:Nat)  (j:Nat->V)
include L n f b j
theorem Am4 (h0:ilt (ofNat b) (ofNat n) = true) (h13:ile 0 (ofNat b) = true) (h1:nlt b n = true) (h2:Ax (Bc n f b) = false):Ag (RF L) (Yd n f) (AcB n f b j) = some (.nm,⟨(jsV 27 0 (λ_=>.und) [(3,(.ref 1)),(5,(iV (wr .i64 (Af (ofNat b) 1))))]),[(.row 57 6 0 (λ_=>.und)),(.row 57 6 n (λi=>(eV (Bc n f i))))]⟩):=by
 exact Aa (ks:=[kn h0,kA (kn h13) (kn h0),kn h1,kn h2]) (by kernel_rfl)
theorem Am3 (h0:ilt (ofNat b) (ofNat n) = true) (h14:ile 0 (ofNat b) = true) (h1:nlt b n = true) (h2:Ax (Bc n f b) = true) (h3:Be n = true) (h15:Bk [.row 3 1 n (λ_=>iV 0)] = true):Ag (RF L) (Yd n f) (AcB n f b j) = some (.rt,⟨(jsV 27 0 (λ_=>.und) [(2,(.ref 2))]),[(.row 57 6 0 (λ_=>.und)),(.row 57 6 n (λi=>(eV (Bc n f i)))),(.row 57 6 n (λi=>(eV (D5 n (λi=>(Bc n f i)) (wr .i64 (Af (ofNat b) 1)) i))))]⟩):=by
 exact Aa (ks:=[kn h0,kA (kn h14) (kn h0),kn h1,kn h2,kL n,kn h3,kn h15]) (by kernel_rfl)
end
def Ang (n:Nat) (f:Nat->E6) :Nat->V:=lkV A7 [(0,(.sl 6 n (λi=>eV (f i)))),(2,(.ref 0)),(4,(iV 0)),(6,(.tup [.ref 1,iV 0])),(7,(.sl 6 n (λi=>eV (f i)))),(8,(.tup [.ref 1,iV 0])),(9,(.ref 1)),(10,(iV 0))]
theorem w56 (L:LT) (p0:PT) (n:Nat) (f:Nat->E6) (q:Nat) (h0:Be n = true) (h1:BR n f = true) (hp0:p0 (RF (onP 0 p0 (Abt n f q) L)) (AcB n f 0 (Ang n f )) = true):(Au (Ah tab ⟨Ak Ac0,(onP 0 p0 (Abt n f q) L),Gl⟩ Tryz.f48 [.sl 6 n λi=>eV (f i)] [])).sem = some ((.ref 0),[(.row 57 6 n (λi=>(eV (D5 n (Bc n f) (ofNat q) i))))]):=by
 exact Aa (ks:=[kL n,kn h0,kn h1,kn hp0]) (by kernel_rfl)
theorem Aeu (L:LT) (n:Nat) (f:Nat->E6) (hf:Be n = true) (hn:n <= 4611686018427387903) (k:Nat) (hk:k < n) (ht:Ax (Bc n f k) = true) (hb:∀ i,i < k->Ax (Bc n f i) = false):∀ (e b:Nat) (j:Nat->V) (q:Nat),k = b+e->e < q ->
  (AA (RF L) (Yd n f) q (AcB n f b j)).sem = some (Abt n f (k+1))
 | 0,b,j,q+1,h,_=>by
  have:k = b:=by omega
  subst this
  rw [Ab (Am3 L n f k j (ofNat_lt hk) (AE k) (decide_eq_true hk) ht hf E0),Er,An hk (by omega)]
  rfl
 | e+1,b,j,q+1,h,h2=>by
  have hl:b < n:=by omega
  rw [Ab (Am4 L n f b j (ofNat_lt hl) (AE b) (decide_eq_true hl) (hb b (by omega))),Aq,An hl (by omega)]
  exact Aeu L n f hf hn k hk ht hb e (b+1) (λ_=>.und) q (by omega) (by omega)
theorem X2 {n k:Nat}:Dj n (ofNat k) = k % n:=by
 unfold Dj
 rw [Cu]
 have:ilt (ofNat (k % n)) 0 = false:=by simp [ilt]; omega
 rw [this]
 rfl
noncomputable def Ab6:List V->T (V × List Blk):=Gt λn f=>.br (Be n) (.br (AdQ n f) (.leaf (.ref 0,[.row 57 6 n λi=>eV (shG n f i)])) .fail) .fail
theorem p56:A6 Tryz.prog Gl 48 Ab6:=by
 refine Av AI mixed Tryz.func48 (by kernel_rfl) (by kernel_rfl) λvs v h' h=>?_
 obtain ⟨n,f,ha,h⟩:=C2 h
 obtain ⟨hn,h⟩:=Ad h
 obtain ⟨hc,h⟩:=Ad h
 have:=Ac h
 simp only [Prod.mk.injEq] at this
 obtain ⟨rfl,rfl⟩:=this
 obtain ⟨a,hy⟩:=T8.1 hc
 have hhi:=hy.hi
 obtain ⟨z1,z2,z3,z4⟩:=Uy hy
 have hx:=AK Acz [(0,Yd n f)] (G:=Gl)
 have hL:=AF [(0,Yd n f)]
 refine ⟨_,AN Gl Ac0 [(0,Yd n f)],_,ha,rfl,hx.1,hx.2,A1 (Ar hL hL) _ (w56 _ _ n f (Fb (λi=>Ax (Bc n f i)) n+1) hn hy.may (Ai (Aeu _ n f hn (by omega) _ z1 z2 z3 _ 0 _ (n+1) (Nat.zero_add _).symm (by omega)))),A0.one λi hi=>?_⟩
 rw [Kd hi]
 unfold D5 shQ
 rw [X2]
def K1 (n:Nat) (g:Nat->E6) (x:Nat->Ev5) (lc:Int) (i:Nat):Bool:=Al (ieq (x i).loc lc) (Aw (g ((i+(n - 1)) % n)))
def Gm (n:Nat) (g:Nat->E6) (x:Nat->Ev5) (lc:Int):Int:=bif decide (Fb (K1 n g x lc) n < n) then ofNat (Fb (K1 n g x lc) n) else -1
noncomputable def Zb:List (Nat × (List V->T (V × List Blk))):=(68,BE λe=>bV (Aw e)) :: []
theorem Acs:A8 Tryz.prog Gl Zb:=.cons p61 .nil
def lp95 (_:Int) (n:Nat) (_:Nat->E6) (_:Nat->Ev5) (_ _:Int) (_:Nat) (_:Nat->Int) (_:Nat) (_:Nat->Nat) (_:Nat->Nat->Int) (_:Int):Lp:=⟨(bmK 37 0 [1,2,4,5,6]),1,bmK 37 0 [4],0,n+1⟩
def st95 (a:Int) (n:Nat) (g:Nat->E6) (x:Nat->Ev5) (tt k0:Int) (nr:Nat) (r:Nat->Int) (nc:Nat) (ln:Nat->Nat) (co:Nat->Nat->Int) (lc:Int) (b:Nat) (j:Nat->V):St:=⟨(jsV 37 0 j [(1,iV lc),(2,.ptr 0 0),(4,iV 0),(5,nV n),(6,nV b)]),[.cells [iV a,.sl 6 n (λi=>eV (g i)),.sl 5 n (λi=>evV (x i)),iV tt,iV k0,.sl 1 nr (λi=>iV (r i)),.sl 1 nc (λk=>.sl 1 (ln k) (λi=>iV (co k i)))]]⟩
def Xe (_:Int) (_:Nat) (_:Nat->E6) (_:Nat->Ev5) (_ _:Int) (_:Nat) (_:Nat->Int) (_:Nat) (_:Nat->Nat) (_:Nat->Nat->Int) (_:Int) (b:Nat):Ex × St:=(.rt,⟨(jsV 37 0 (λ_=>.und) [(4,nV b)]),[]⟩)
def Xf (_:Int) (_:Nat) (_:Nat->E6) (_:Nat->Ev5) (_ _:Int) (_:Nat) (_:Nat->Int) (_:Nat) (_:Nat->Nat) (_:Nat->Nat->Int) (_:Int) (_:Nat):Ex × St:=(.ex 0,⟨(jsV 37 0 (λ_=>.und) [(4,iV 0)]),[]⟩)
noncomputable def body95 (L:LT):St->T (Ex × St):=λst=>AD tab ⟨Ak Zb,L,Gl⟩ (As Tryz.f74 0) 0 st
section
variable (L:LT) (a:Int) (n:Nat) (g:Nat->E6) (x:Nat->Ev5) (tt k0:Int) (nr:Nat) (r:Nat->Int) (nc:Nat) (ln:Nat->Nat) (co:Nat->Nat->Int) (lc:Int) (b:Nat)  (j:Nat->V)
include L a n g x tt k0 nr r nc ln co lc b j
theorem Am0 (h0:ilt (ofNat b) (ofNat n) = false):Ag (body95 L) (lp95 a n g x tt k0 nr r nc ln co lc) (st95 a n g x tt k0 nr r nc ln co lc b j) = some ((.ex 0),⟨(jsV 37 0 (λ_=>.und) [(4,(iV 0))]),[]⟩):=by
 exact Aa (ks:=[kn h0]) (by kernel_rfl)
theorem Am2 (h0:ilt (ofNat b) (ofNat n) = true) (h14:ile 0 (ofNat b) = true) (h3:ieq ((x b)).loc lc = false):Ag (body95 L) (lp95 a n g x tt k0 nr r nc ln co lc) (st95 a n g x tt k0 nr r nc ln co lc b j) = some (.nm,⟨(jsV 37 0 (λ_=>.und) [(1,(iV lc)),(2,(.ptr 0 0)),(4,(iV 0)),(5,(nV n)),(6,(iV (wr .i64 (Af (ofNat b) 1))))]),[(.cells [(iV a),(.sl 6 n (λi=>(eV (g i)))),(.sl 5 n (λi=>(evV (x i)))),(iV tt),(iV k0),(.sl 1 nr (λi=>(iV (r i)))),(.sl 1 nc (λk=>(.sl 1 (ln k) (λi=>(iV (co k i))))))])]⟩):=by
 exact Aa (ks:=[kn h0,kA (kn h14) (kn h0),kn h3,kn h3,kn h3,kn h3,kn h3,kn h3,kn h3,kn h3,kn h3,kn h3,kn h3,kn h3,kF]) (by kernel_rfl)
theorem Am1 (h0:ilt (ofNat b) (ofNat n) = true) (h15:ile 0 (ofNat b) = true) (h3:ieq ((x b)).loc lc = true) (h1:ieq (ofNat n) 0 = false) (h17:Al (ile 0 (Ae (wr .i64 (Az (wr .i64 (Af (ofNat b) (ofNat n))) 1)) (ofNat n))) (ilt (Ae (wr .i64 (Az (wr .i64 (Af (ofNat b) (ofNat n))) 1)) (ofNat n)) (ofNat n)) = true) (h4:Aw (g (toN (Ae (wr .i64 (Az (wr .i64 (Af (ofNat b) (ofNat n))) 1)) (ofNat n)))) = false):Ag (body95 L) (lp95 a n g x tt k0 nr r nc ln co lc) (st95 a n g x tt k0 nr r nc ln co lc b j) = some (.nm,⟨(jsV 37 0 (λ_=>.und) [(1,(iV lc)),(2,(.ptr 0 0)),(4,(iV 0)),(5,(nV n)),(6,(iV (wr .i64 (Af (ofNat b) 1))))]),[(.cells [(iV a),(.sl 6 n (λi=>(eV (g i)))),(.sl 5 n (λi=>(evV (x i)))),(iV tt),(iV k0),(.sl 1 nr (λi=>(iV (r i)))),(.sl 1 nc (λk=>(.sl 1 (ln k) (λi=>(iV (co k i))))))])]⟩):=by
 exact Aa (ks:=[kn h0,kA (kn h15) (kn h0),kn h3,kn h3,kn h3,kn h3,kn h3,kn h3,kn h3,kn h3,kn h1,kn h3,kn h17,kn h3,kn h3,kn h3,kn h4]) (by kernel_rfl)
theorem Amz (h0:ilt (ofNat b) (ofNat n) = true) (h15:ile 0 (ofNat b) = true) (h3:ieq ((x b)).loc lc = true) (h1:ieq (ofNat n) 0 = false) (h17:Al (ile 0 (Ae (wr .i64 (Az (wr .i64 (Af (ofNat b) (ofNat n))) 1)) (ofNat n))) (ilt (Ae (wr .i64 (Az (wr .i64 (Af (ofNat b) (ofNat n))) 1)) (ofNat n)) (ofNat n)) = true) (h4:Aw (g (toN (Ae (wr .i64 (Az (wr .i64 (Af (ofNat b) (ofNat n))) 1)) (ofNat n)))) = true):Ag (body95 L) (lp95 a n g x tt k0 nr r nc ln co lc) (st95 a n g x tt k0 nr r nc ln co lc b j) = some (.rt,⟨(jsV 37 0 (λ_=>.und) [(4,(nV b))]),[]⟩):=by
 exact Aa (ks:=[kn h0,kA (kn h15) (kn h0),kn h3,kn h3,kn h3,kn h3,kn h3,kn h3,kn h3,kn h3,kn h1,kn h3,kn h17,kn h3,kn h3,kn h3,kn h4]) (by kernel_rfl)
end
def Alk (a:Int) (n:Nat) (g:Nat->E6) (x:Nat->Ev5) (tt k0:Int) (nr:Nat) (r:Nat->Int) (nc:Nat) (ln:Nat->Nat) (co:Nat->Nat->Int) (_:Int) :Nat->V:=lkV A7 [(0,(.agg [iV a,.sl 6 n (λi=>eV (g i)),.sl 5 n (λi=>evV (x i)),iV tt,iV k0,.sl 1 nr (λi=>iV (r i)),.sl 1 nc (λk=>.sl 1 (ln k) (λi=>iV (co k i)))])),(7,(.ptr 0 1)),(8,(.sl 6 n (λi=>eV (g i)))),(9,(nV n))]
section
variable (L:LT) (p0:PT) (a:Int) (n:Nat) (g:Nat->E6) (x:Nat->Ev5) (tt k0:Int) (nr:Nat) (r:Nat->Int) (nc:Nat) (ln:Nat->Nat) (co:Nat->Nat->Int) (lc:Int) (q:Nat)
include L p0 a n g x tt k0 nr r nc ln co lc q
theorem AlN  (hp0:p0 (body95 (onP 0 p0 (Xe a n g x tt k0 nr r nc ln co lc q) L)) (st95 a n g x tt k0 nr r nc ln co lc 0 (Alk a n g x tt k0 nr r nc ln co lc )) = true):(Au (Ah tab ⟨Ak Zb,(onP 0 p0 (Xe a n g x tt k0 nr r nc ln co lc q) L),Gl⟩ Tryz.f74 [.agg [iV a,.sl 6 n (λi=>eV (g i)),.sl 5 n (λi=>evV (x i)),iV tt,iV k0,.sl 1 nr (λi=>iV (r i)),.sl 1 nc (λk=>.sl 1 (ln k) (λi=>iV (co k i)))],iV lc] [])).sem = some ((nV q),[]):=by
 exact Aa (ks:=[kn hp0]) (by kernel_rfl)
theorem AlO  (hp0:p0 (body95 (onP 0 p0 (Xf a n g x tt k0 nr r nc ln co lc q) L)) (st95 a n g x tt k0 nr r nc ln co lc 0 (Alk a n g x tt k0 nr r nc ln co lc )) = true):(Au (Ah tab ⟨Ak Zb,(onP 0 p0 (Xf a n g x tt k0 nr r nc ln co lc q) L),Gl⟩ Tryz.f74 [.agg [iV a,.sl 6 n (λi=>eV (g i)),.sl 5 n (λi=>evV (x i)),iV tt,iV k0,.sl 1 nr (λi=>iV (r i)),.sl 1 nc (λk=>.sl 1 (ln k) (λi=>iV (co k i)))],iV lc] [])).sem = some ((iV (-1)),[]):=by
 exact Aa (ks:=[kn hp0]) (by kernel_rfl)
end
theorem run95 (L:LT) (a:Int) (n:Nat) (g:Nat->E6) (x:Nat->Ev5) (tt k0:Int) (nr:Nat) (r:Nat->Int) (nc:Nat) (ln:Nat->Nat) (co:Nat->Nat->Int) (lc:Int) (hn:n <= 4611686018427387904):∀ (e b:Nat) (j:Nat->V) (q:Nat),n = b+e->e < q->(∀ k,k < b->K1 n g x lc k = false) ->
  ((AA (body95 L) (lp95 a n g x tt k0 nr r nc ln co lc) q (st95 a n g x tt k0 nr r nc ln co lc b j)).sem = some (Xf a n g x tt k0 nr r nc ln co lc 0) ∧ Gm n g x lc = -1) ∨ ∃ i,(AA (body95 L) (lp95 a n g x tt k0 nr r nc ln co lc) q (st95 a n g x tt k0 nr r nc ln co lc b j)).sem = some (Xe a n g x tt k0 nr r nc ln co lc i) ∧ Gm n g x lc = ofNat i
 | 0,b,j,q+1,h,_,hb=>by
  have:n = b:=by omega
  subst this
  refine .inl ⟨Ab (Am0 L a n g x tt k0 nr r nc ln co lc n j (A9 (Nat.le_refl _))),?_⟩
  unfold Gm
  rw [IE hb]
  simp
 | e+1,b,j,q+1,h,h2,hb=>by
  have hl:b < n:=by omega
  have hx:=Ja (a:=b) (n:=n) (by omega) (by omega)
  have hlt:(b+(n - 1)) % n < n:=Nat.mod_lt _ (by omega)
  have hin:Al (ile 0 (Ae (wr .i64 (Az (wr .i64 (Af (ofNat b) (ofNat n))) 1)) (ofNat n))) (ilt (Ae (wr .i64 (Az (wr .i64 (Af (ofNat b) (ofNat n))) 1)) (ofNat n)) (ofNat n)) = true:=by rw [hx]; exact Ap hlt
  have next:K1 n g x lc b = false->_:=λhf=>run95 L a n g x tt k0 nr r nc ln co lc hn e (b+1) (λ_=>.und) q (by omega) (by omega) λk hk=>by
   by_cases hki:k = b
   ·rw [hki]; exact hf
   ·exact hb k (by omega)
  cases h1:ieq (x b).loc lc with
  | false =>
   rw [Ab (Am2 L a n g x tt k0 nr r nc ln co lc b j (ofNat_lt hl) (AE b) h1),Aq,An hl (by omega)]
   exact next (by unfold K1; rw [h1]; rfl)
  | true =>
   cases hm:Aw (g ((b+(n - 1)) % n)) with
   | false =>
    rw [Ab (Am1 L a n g x tt k0 nr r nc ln co lc b j (ofNat_lt hl) (AE b) h1 (F3 (by omega)) hin (by rw [hx]; exact hm)),Aq,An hl (by omega)]
    exact next (by unfold K1; rw [h1,hm]; rfl)
   | true =>
    refine .inr ⟨b,Ab (Amz L a n g x tt k0 nr r nc ln co lc b j (ofNat_lt hl) (AE b) h1 (F3 (by omega)) hin (by rw [hx]; exact hm)),?_⟩
    unfold Gm
    rw [Km hl (by unfold K1; rw [h1,hm]; rfl) hb,decide_eq_true hl]
    rfl
def Vp:List V->T (V × List Blk)
 | [v,.val (.int .i64 lc)]=>apS v λs=>.br (AB s.nx s.ne) (.br (Ao s.ne) (.leaf (iV (Gm s.ne s.E s.X lc),[])) .fail) .fail
 | _=>.fail
theorem p95:A6 Tryz.prog Gl 74 Vp:=by
 refine Av AI mixed Tryz.func74 (by kernel_rfl) (by kernel_rfl) λvs v h' h=>?_
 unfold Vp at h
 split at h
 ·rename_i u lc
  obtain ⟨s,ha,h⟩:=apS_some h
  obtain ⟨h1,h⟩:=Ad h
  obtain ⟨h2,h⟩:=Ad h
  have:=Ac h
  simp only [Prod.mk.injEq] at this
  obtain ⟨rfl,rfl⟩:=this
  obtain ⟨a,n,g,nx,x,tt,k0,nr,r,nc,C⟩:=s
  have h1:nx = n:=Nat.eq_of_beq_eq_true h1
  subst h1
  have h2:nx <= 4611686018427387904:=of_decide_eq_true h2
  have hA:Bm [u,iV lc] [.agg [iV a,.sl 6 nx (λi=>eV (g i)),.sl 5 nx (λi=>evV (x i)),iV tt,iV k0,.sl 1 nr (λi=>iV (r i)),.sl 1 nc (λk=>.sl 1 (C k).1 (λi=>iV ((C k).2 i)))],iV lc]:=λS w cs hv=>by
   obtain ⟨c,l,rfl,q1,q2⟩:=hv
   exact ⟨c,l,rfl,ha S w c q1,q2⟩
  have hx:=AK Acs [(0,lp95 a nx g x tt k0 nr r nc (λk=>(C k).1) (λk=>(C k).2) lc)] (G:=Gl)
  have hL:=AF [(0,lp95 a nx g x tt k0 nr r nc (λk=>(C k).1) (λk=>(C k).2) lc)]
  refine ⟨_,AN Gl Zb [(0,lp95 a nx g x tt k0 nr r nc (λk=>(C k).1) (λk=>(C k).2) lc)],_,hA,rfl,hx.1,hx.2,?_,A0.refl _⟩
  have h0:=λL j=>run95 L a nx g x tt k0 nr r nc (λk=>(C k).1) (λk=>(C k).2) lc h2 nx 0 j (nx+1) (by omega) (by omega) (λk hk=>absurd hk (Nat.not_lt_zero _))
  rcases h0 Adf (λ_=>.und) with ⟨_,h5⟩ | ⟨i,_,h5⟩
  ·have h6:∀ L j,(AA (body95 L) (lp95 a nx g x tt k0 nr r nc (λk=>(C k).1) (λk=>(C k).2) lc) (nx+1) (st95 a nx g x tt k0 nr r nc (λk=>(C k).1) (λk=>(C k).2) lc 0 j)).sem = some (Xf a nx g x tt k0 nr r nc (λk=>(C k).1) (λk=>(C k).2) lc 0):=λL j=>by
    rcases h0 L j with ⟨h,_⟩ | ⟨i,_,h⟩
    ·exact h
    ·rw [h5] at h
     cases h
   rw [h5]
   exact A1 (Ar hL hL) _ (AlO _ _ a nx g x tt k0 nr r nc (λk=>(C k).1) (λk=>(C k).2) lc 0 (Ai (h6 _ _)))
  ·have h6:∀ L j,(AA (body95 L) (lp95 a nx g x tt k0 nr r nc (λk=>(C k).1) (λk=>(C k).2) lc) (nx+1) (st95 a nx g x tt k0 nr r nc (λk=>(C k).1) (λk=>(C k).2) lc 0 j)).sem = some (Xe a nx g x tt k0 nr r nc (λk=>(C k).1) (λk=>(C k).2) lc i):=λL j=>by
    rcases h0 L j with ⟨_,h⟩ | ⟨i',h,h'⟩
    ·rw [h5] at h
     cases h
    ·rw [h5] at h'
     cases h'
     exact h
   rw [h5]
   exact A1 (Ar hL hL) _ (AlN _ _ a nx g x tt k0 nr r nc (λk=>(C k).1) (λk=>(C k).2) lc i (Ai (h6 _ _)))
 ·cases h
noncomputable def Ui:List (Nat × (List V->T (V × List Blk))):=(74,Vp) :: []
theorem Wd:A8 Tryz.prog Gl Ui:=.cons p95 .nil
def PV (a:Int) (n k kk:Nat) (g:Nat->E6) (th lo:Nat->Int) (tt:Int) (c0:Nat->V) (x0:Nat->Ev5) (r0:Nat->Int) (ln:Nat->Nat) (co:Nat->Nat->Int) (ts:List V) :St:=⟨(jsV 79 0 (λ_=>A7) [(0,(.agg [iV a,.ref 1,.ref 5,iV tt,nV kk,.ref 6,.jref 7])),(1,(nV k)),(2,(.ptr 9 0)),(4,(.ptr 10 0)),(5,(.ref 11)),(6,(nV n)),(7,(iV (Gm n g x0 (ofNat k)))),(8,(iV (-1))),(9,(iV 0)),(11,(.ptr 9 1)),(12,(.ref 1)),(13,(nV n)),(14,(.agg [iV a,.ref 1,.ref 5,iV tt,nV kk,.ref 6,.jref 7])),(15,(nV k)),(16,(iV (Gm n g x0 (ofNat k))))]),[c7Z,.row 57 6 n (λi=>eV (g i)),.row 3 1 n (λi=>iV (th i)),.row 3 1 n (λi=>iV (lo i)),.cells [iV a,.ref 1,.ref 5,iV tt,nV kk,.ref 6,.jref 7],.row 61 5 n (λi=>evV (x0 i)),.row 3 1 n (λi=>iV (r0 i)),.jag (Jag.mk 24 1 k c0 0 3 1 (λ_=>true) ln (λi q=>iV (co i q))),.saved ts,.cells [iV a,.ref 1,.ref 5,iV tt,nV kk,.ref 6,.jref 7],c7Z,r3Z]⟩
def NX (_:Int) (_ _ _:Nat) (_:Nat->E6) (_ _:Nat->Int) (_:Int) (_:Nat->V) (_:Nat->Ev5) (_:Nat->Int) (_:Nat->Nat) (_:Nat->Nat->Int) (_:List V):Lp:=⟨(bmK 79 0 [1,2,4,5,6,7,8,9]),12,bmK 79 0 [2,4,5],12,17⟩
def X9 (a:Int) (n k kk:Nat) (g:Nat->E6) (th lo:Nat->Int) (tt:Int) (c0:Nat->V) (_:Nat->Ev5) (_:Nat->Int) (ln:Nat->Nat) (co:Nat->Nat->Int) (ts:List V) (b m:Nat) (z la:Int) (x:Nat->Ev5) (r w:Nat->Int) (j:Nat->V):St:=⟨(jsV 79 0 j [(1,nV k),(2,.ptr 9 0),(4,.ptr 10 0),(5,.ref 11),(6,nV n),(7,iV z),(8,iV la),(9,nV b)]),[c7Z,.row 57 6 n (λi=>eV (g i)),.row 3 1 n (λi=>iV (th i)),.row 3 1 n (λi=>iV (lo i)),.cells [iV a,.ref 1,.ref 5,iV tt,nV kk,.ref 6,.jref 7],.row 61 5 n (λi=>evV (x i)),.row 3 1 n (λi=>iV (r i)),.jag (Jag.mk 24 1 k c0 0 3 1 (λ_=>true) ln (λi q=>iV (co i q))),.saved ts,.cells [iV a,.ref 1,.ref 5,iV tt,nV kk,.ref 6,.jref 7],c7Z,.row 3 1 m (λi=>iV (w i))]⟩
def KJ (a:Int) (n k kk:Nat) (g:Nat->E6) (th lo:Nat->Int) (tt:Int) (c0:Nat->V) (_:Nat->Ev5) (_:Nat->Int) (ln:Nat->Nat) (co:Nat->Nat->Int) (ts:List V) (_ m:Nat) (_ _:Int) (x:Nat->Ev5) (r w:Nat->Int):Ex × St:=(.ex 0,⟨(jsV 79 0 (λ_=>.und) [(2,.ptr 9 0),(4,.ptr 10 0),(5,.ref 11)]),[c7Z,.row 57 6 n (λi=>eV (g i)),.row 3 1 n (λi=>iV (th i)),.row 3 1 n (λi=>iV (lo i)),.cells [iV a,.ref 1,.ref 5,iV tt,nV kk,.ref 6,.jref 7],.row 61 5 n (λi=>evV (x i)),.row 3 1 n (λi=>iV (r i)),.jag (Jag.mk 24 1 k c0 0 3 1 (λ_=>true) ln (λi q=>iV (co i q))),.saved ts,.cells [iV a,.ref 1,.ref 5,iV tt,nV kk,.ref 6,.jref 7],c7Z,.row 3 1 m (λi=>iV (w i))]⟩)
noncomputable def JK (L:LT):St->T (Ex × St):=λst=>AD tab ⟨Ak Ui,L,Gl⟩ (As Tryz.f51 0) 0 st
section
variable (L:LT) (a:Int) (n k kk:Nat) (g:Nat->E6) (th lo:Nat->Int) (tt:Int) (c0:Nat->V) (x0:Nat->Ev5) (r0:Nat->Int) (ln:Nat->Nat) (co:Nat->Nat->Int) (ts:List V) (b m:Nat) (z la:Int) (x:Nat->Ev5) (r w:Nat->Int)  (j:Nat->V)
include L a n k kk g th lo tt c0 x0 r0 ln co ts b m z la x r w j
theorem AjJ (h0:ilt (ofNat b) (ofNat n) = false):Ag (JK L) (NX a n k kk g th lo tt c0 x0 r0 ln co ts) (X9 a n k kk g th lo tt c0 x0 r0 ln co ts b m z la x r w j) = some ((.ex 0),⟨(jsV 79 0 (λ_=>.und) [(2,(.ptr 9 0)),(4,(.ptr 10 0)),(5,(.ref 11))]),[c7Z,(.row 57 6 n (λi=>(eV (g i)))),(.row 3 1 n (λi=>(iV (th i)))),(.row 3 1 n (λi=>(iV (lo i)))),(.cells [(iV a),(.ref 1),(.ref 5),(iV tt),(nV kk),(.ref 6),(.jref 7)]),(.row 61 5 n (λi=>(evV (x i)))),(.row 3 1 n (λi=>(iV (r i)))),(.jag (Jag.mk 24 1 k c0 0 3 1 (λ_=>true) ln (λi q=>(iV (co i q))))),(.saved (BT 12 ts)),(.cells [(iV a),(.ref 1),(.ref 5),(iV tt),(nV kk),(.ref 6),(.jref 7)]),c7Z,(.row 3 1 m (λi=>(iV (w i))))]⟩):=by
 exact Aa (ks:=[kn h0,kn h0,kn h0,kn h0,kn h0,kn h0,kn h0,kn h0,kn h0,kn h0,kn h0,kn h0,kn h0,kF]) (by kernel_rfl)
theorem AjG (h0:ilt (ofNat b) (ofNat n) = true) (h1:ieq (ofNat n) 0 = false) (h19:Al (ile 0 (Ae (wr .i64 (Af z (ofNat b))) (ofNat n))) (ilt (Ae (wr .i64 (Af z (ofNat b))) (ofNat n)) (ofNat n)) = true) (h2:nlt (toN (Ae (wr .i64 (Af z (ofNat b))) (ofNat n))) n = true) (h3:ieq ((x (toN (Ae (wr .i64 (Af z (ofNat b))) (ofNat n))))).loc (ofNat k) = false):Ag (JK L) (NX a n k kk g th lo tt c0 x0 r0 ln co ts) (X9 a n k kk g th lo tt c0 x0 r0 ln co ts b m z la x r w j) = some ((.ex 0),⟨(jsV 79 0 (λ_=>.und) [(2,(.ptr 9 0)),(4,(.ptr 10 0)),(5,(.ref 11))]),[c7Z,(.row 57 6 n (λi=>(eV (g i)))),(.row 3 1 n (λi=>(iV (th i)))),(.row 3 1 n (λi=>(iV (lo i)))),(.cells [(iV a),(.ref 1),(.ref 5),(iV tt),(nV kk),(.ref 6),(.jref 7)]),(.row 61 5 n (λi=>(evV (x i)))),(.row 3 1 n (λi=>(iV (r i)))),(.jag (Jag.mk 24 1 k c0 0 3 1 (λ_=>true) ln (λi q=>(iV (co i q))))),(.saved (BT 12 ts)),(.cells [(iV a),(.ref 1),(.ref 5),(iV tt),(nV kk),(.ref 6),(.jref 7)]),c7Z,(.row 3 1 m (λi=>(iV (w i))))]⟩):=by
 exact Aa (ks:=[kn h0,kn h0,kn h0,kn h0,kn h0,kn h0,kn h0,kn h1,kn h0,kn h19,kn h0,kn h0,kn h2,kn h0,kn h0,kn h0,kn h3]) (by kernel_rfl)
theorem AjI (h0:ilt (ofNat b) (ofNat n) = true) (h1:ieq (ofNat n) 0 = false) (h20:Al (ile 0 (Ae (wr .i64 (Af z (ofNat b))) (ofNat n))) (ilt (Ae (wr .i64 (Af z (ofNat b))) (ofNat n)) (ofNat n)) = true) (h2:nlt (toN (Ae (wr .i64 (Af z (ofNat b))) (ofNat n))) n = true) (h3:ieq ((x (toN (Ae (wr .i64 (Af z (ofNat b))) (ofNat n))))).loc (ofNat k) = true) (h4:ieq ((x (toN (Ae (wr .i64 (Af z (ofNat b))) (ofNat n))))).dir 2 = false):Ag (JK L) (NX a n k kk g th lo tt c0 x0 r0 ln co ts) (X9 a n k kk g th lo tt c0 x0 r0 ln co ts b m z la x r w j) = some (.nm,⟨(jsV 79 0 (λ_=>.und) [(1,(nV k)),(2,(.ptr 9 0)),(4,(.ptr 10 0)),(5,(.ref 11)),(6,(nV n)),(7,(iV z)),(8,(iV la)),(9,(iV (wr .i64 (Af (ofNat b) 1))))]),[c7Z,(.row 57 6 n (λi=>(eV (g i)))),(.row 3 1 n (λi=>(iV (th i)))),(.row 3 1 n (λi=>(iV (lo i)))),(.cells [(iV a),(.ref 1),(.ref 5),(iV tt),(nV kk),(.ref 6),(.jref 7)]),(.row 61 5 n (λi=>(.agg [(iV (sel (AB i (toN (Ae (wr .i64 (Af z (ofNat b))) (ofNat n)))) ((x (toN (Ae (wr .i64 (Af z (ofNat b))) (ofNat n))))).th ((x i)).th)),(iV (sel (AB i (toN (Ae (wr .i64 (Af z (ofNat b))) (ofNat n)))) ((x (toN (Ae (wr .i64 (Af z (ofNat b))) (ofNat n))))).pl ((x i)).pl)),(iV (sel (AB i (toN (Ae (wr .i64 (Af z (ofNat b))) (ofNat n)))) ((x (toN (Ae (wr .i64 (Af z (ofNat b))) (ofNat n))))).dir ((x i)).dir)),(iV (sel (AB i (toN (Ae (wr .i64 (Af z (ofNat b))) (ofNat n)))) ((x (toN (Ae (wr .i64 (Af z (ofNat b))) (ofNat n))))).loc ((x i)).loc)),(iV (sel (AB i (toN (Ae (wr .i64 (Af z (ofNat b))) (ofNat n)))) (ofNat m) ((x i)).val))]))),(.row 3 1 n (Br (λi=>(iV (r i))) (toN (Ae (wr .i64 (Af z (ofNat b))) (ofNat n))) (iV la))),(.jag (Jag.mk 24 1 k c0 0 3 1 (λ_=>true) ln (λi q=>(iV (co i q))))),(.saved (BT 12 ts)),(.cells [(iV a),(.ref 1),(.ref 5),(iV tt),(nV kk),(.ref 6),(.jref 7)]),c7Z,(.row 3 1 m (λi=>(iV (w i))))]⟩):=by
 exact Aa (ks:=[kn h0,kn h0,kn h0,kn h0,kn h0,kn h0,kn h0,kn h1,kn h0,kn h20,kn h0,kn h0,kn h2,kn h0,kn h0,kn h0,kn h3,kn h1,kn h20,kn h2,kn h4,kn h20,kn h2,kn h20,kn h2]) (by kernel_rfl)
theorem AjH (h0:ilt (ofNat b) (ofNat n) = true) (h1:ieq (ofNat n) 0 = false) (h20:Al (ile 0 (Ae (wr .i64 (Af z (ofNat b))) (ofNat n))) (ilt (Ae (wr .i64 (Af z (ofNat b))) (ofNat n)) (ofNat n)) = true) (h2:nlt (toN (Ae (wr .i64 (Af z (ofNat b))) (ofNat n))) n = true) (h3:ieq ((x (toN (Ae (wr .i64 (Af z (ofNat b))) (ofNat n))))).loc (ofNat k) = true) (h4:ieq ((x (toN (Ae (wr .i64 (Af z (ofNat b))) (ofNat n))))).dir 2 = true) (h21:Bx m 1 8 = true):Ag (JK L) (NX a n k kk g th lo tt c0 x0 r0 ln co ts) (X9 a n k kk g th lo tt c0 x0 r0 ln co ts b m z la x r w j) = some (.nm,⟨(jsV 79 0 (λ_=>.und) [(1,(nV k)),(2,(.ptr 9 0)),(4,(.ptr 10 0)),(5,(.ref 11)),(6,(nV n)),(7,(iV z)),(8,(iV (Ae (wr .i64 (Af z (ofNat b))) (ofNat n)))),(9,(iV (wr .i64 (Af (ofNat b) 1))))]),[c7Z,(.row 57 6 n (λi=>(eV (g i)))),(.row 3 1 n (λi=>(iV (th i)))),(.row 3 1 n (λi=>(iV (lo i)))),(.cells [(iV a),(.ref 1),(.ref 5),(iV tt),(nV kk),(.ref 6),(.jref 7)]),(.row 61 5 n (λi=>(.agg [(iV (sel (AB i (toN (Ae (wr .i64 (Af z (ofNat b))) (ofNat n)))) ((x (toN (Ae (wr .i64 (Af z (ofNat b))) (ofNat n))))).th ((x i)).th)),(iV (sel (AB i (toN (Ae (wr .i64 (Af z (ofNat b))) (ofNat n)))) ((x (toN (Ae (wr .i64 (Af z (ofNat b))) (ofNat n))))).pl ((x i)).pl)),(iV (sel (AB i (toN (Ae (wr .i64 (Af z (ofNat b))) (ofNat n)))) ((x (toN (Ae (wr .i64 (Af z (ofNat b))) (ofNat n))))).dir ((x i)).dir)),(iV (sel (AB i (toN (Ae (wr .i64 (Af z (ofNat b))) (ofNat n)))) ((x (toN (Ae (wr .i64 (Af z (ofNat b))) (ofNat n))))).loc ((x i)).loc)),(iV (sel (AB i (toN (Ae (wr .i64 (Af z (ofNat b))) (ofNat n)))) (ofNat (Bd m 1)) ((x i)).val))]))),(.row 3 1 n (λi=>(iV (r i)))),(.jag (Jag.mk 24 1 k c0 0 3 1 (λ_=>true) ln (λi q=>(iV (co i q))))),(.saved (BT 12 (kill.kills 11 ts))),(.cells [(iV a),(.ref 1),(.ref 5),(iV tt),(nV kk),(.ref 6),(.jref 7)]),c7Z,(.row 3 1 (Bd m 1) (A2 m (λi=>(iV (w i))) (iV (Ae (wr .i64 (Af z (ofNat b))) (ofNat n)))))]⟩):=by
 exact Aa (ks:=[kn h0,kn h0,kn h0,kn h0,kn h0,kn h0,kn h0,kn h1,kn h0,kn h20,kn h0,kn h0,kn h2,kn h0,kn h0,kn h0,kn h3,kn h1,kn h20,kn h2,kn h4,kn h21,kn h20,kn h2]) (by kernel_rfl)
end
theorem AlG (L:LT) (p0:PT) (a:Int) (n k kk:Nat) (g:Nat->E6) (th lo:Nat->Int) (tt:Int) (c0:Nat->V) (x0:Nat->Ev5) (r0:Nat->Int) (ln:Nat->Nat) (co:Nat->Nat->Int) (ts:List V) (us:List V) (b m:Nat) (z la:Int) (x:Nat->Ev5) (r w:Nat->Int) (h14:AR [.jag (Jag.mk 24 1 k (λ_=>.und) 0 3 1 (λ_=>true) (λ_=>0) (λ_ _=>.und))] = true) (h15:AJ k (λi=>(AJ (ln i) (λ_=>true))) = true) (h16:Ao n = true) (h17:Bx k 1 24 = true) (hp0:p0 (JK (onP 0 p0 (KJ a n k kk g th lo tt c0 x0 r0 ln co us b m z la x r w) L)) (PV a n k kk g th lo tt c0 x0 r0 ln co ts) = true):(Ah tab ⟨Ak Ui,(onP 0 p0 (KJ a n k kk g th lo tt c0 x0 r0 ln co us b m z la x r w) L),Gl⟩ Tryz.f51 [.agg [iV a,.ref 1,.ref 5,iV tt,nV kk,.ref 6,.jref 7],nV k] [c7Z,(.row 57 6 n (λi=>eV (g i))),(.row 3 1 n (λi=>iV (th i))),(.row 3 1 n (λi=>iV (lo i))),(.cells [(iV a),(.ref 1),(.ref 5),(iV tt),(nV kk),(.ref 6),(.jref 7)]),(.row 61 5 n (λi=>evV (x0 i))),(.row 3 1 n (λi=>iV (r0 i))),(.jag (Jag.mk 24 1 k c0 0 3 1 (λ_=>true) ln (λi q=>iV (co i q)))),.saved ts]).sem = some ((.agg [(iV a),(.ref 1),(.ref 5),(iV tt),(nV kk),(.ref 6),(.jref 7)]),[c7Z,(.row 57 6 n (λi=>(eV (g i)))),(.row 3 1 n (λi=>(iV (th i)))),(.row 3 1 n (λi=>(iV (lo i)))),(.cells [(iV a),(.ref 1),(.ref 5),(iV tt),(nV kk),(.ref 6),.und]),(.row 61 5 n (λi=>(evV (x i)))),(.row 3 1 n (λi=>(iV (r i)))),(.jag (Jag.mk 24 1 (Bd k 1) (A2 k c0 .und) 0 3 1 (λi=>(sel (AB i k) true true)) (λi=>(sel (AB i k) m (ln i))) (λi i_1=>(C4 (λi_2 i_3=>(iV (co i_2 i_3))) k (λi_2=>(iV (w i_2))) i i_1)))),(.saved (kill.kills 7 (kill.kills 12 (kill.kills 11 us)))),(.cells [(iV a),(.ref 1),(.ref 5),(iV tt),(nV kk),(.ref 6),(.jref 7)]),(.cells [(iV a),(.ref 1),(.ref 5),(iV tt),(nV kk),(.ref 6),(.jref 7)]),.dead,.dead]):=by
 exact Aa (ks:=[kn h14,kL n,kL n,kL n,kn h15,kJ n,kn h16,kn hp0,kT,kn h17]) (by kernel_rfl)
theorem J3 {p q:Nat->Bool} {n:Nat} (h:∀ i,i < n->p i = q i):Fb p n = Fb q n:=by
 by_cases hp:∃ k,k < n ∧ p k = true
 ·obtain ⟨k,hk,hpk⟩:=hp
  obtain ⟨h1,h2,h3⟩:=Eb hk hpk
  exact (Km (p:=q) (by omega) (by rw [<- h _ (by omega)]; exact h2) (λi hi=>by rw [<- h i (by omega)]; exact h3 i hi)).symm
 ·have h1:∀ i,i < n->p i = false:=λi hi=>by
   cases hpi:p i with
   | false=>rfl
   | true=>exact absurd ⟨i,hi,hpi⟩ hp
  rw [IE h1,IE λi hi=>by rw [<- h i hi]; exact h1 i hi]
theorem Yo {n:Nat} {g:Nat->E6} {d:Nat->Bool} {k:Nat} (hk:k < kkN n g):Gm n g (evF n g d) (ofNat k) = ofNat (stN (mbF g) n k):=by
 have:Fb (K1 n g (evF n g d) (ofNat k)) n = stN (mbF g) n k:=J3 λi hi=>by
  unfold K1
  rw [CF hi,Ad2 hi,Df,Bool.and_comm]
  rfl
 unfold Gm
 rw [this,decide_eq_true (Gw hk).1]
 rfl
def wvF (n:Nat) (g:Nat->E6) (z b q:Nat):Int:=if q < wcN (wrF g) n z b then ofNat (coN (mbF g) (wrF g) n (loN n g z) q) else 0
theorem YH {n:Nat} {g:Nat->E6} {z b:Nat} (hz:z < n) (hst:CB (mbF g) n z = true) (hb:b < n) (hw:wrF g (rnd n z b) = true) :
  A2 (wcN (wrF g) n z b) (λi=>iV (wvF n g z b i)) (iV (ofNat (rnd n z b))) = λi=>iV (wvF n g z (b+1) i):=by
 funext q
 rw [Bl]
 have h2:stN (mbF g) n (loN n g z) = z:=Zs hz hst
 unfold wvF
 rw [TW hw]
 by_cases hq:q = wcN (wrF g) n z b
 ·subst hq
  rw [Nat.beq_refl,if_pos (Nat.lt_succ_self _)]
  unfold coN
  rw [h2,VX hb hw]
  rfl
 ·rw [nbeq_ne hq]
  by_cases h3:q < wcN (wrF g) n z b
  ·rw [if_pos h3,if_pos (by omega)]; rfl
  ·rw [if_neg h3,if_neg (by omega)]; rfl
theorem YG {n:Nat} {g:Nat->E6} {z b:Nat} (hw:wrF g (rnd n z b) = false):wvF n g z (b+1) = wvF n g z b:=by
 funext q
 unfold wvF
 rw [TX hw]
def EA (F:V->V):Prop:=(∀ k x,F (.val (.int k x)) = .val (.int k x)) ∧ ∀ i o,i < 7->F (.ptr i o) = .ptr i o
theorem EA.comp {F G:V->V} (hF:EA F) (hG:EA G):EA (λv=>G (F v)):=⟨λk x=>by show G (F _) = _; rw [hF.1,hG.1],λi o h=>by show G (F _) = _; rw [hF.2 i o h,hG.2 i o h]⟩
theorem EG:EA (FU 12):=⟨λ_ _=>rfl,λi o h=>by
 unfold FU M7
 rw [show Nat.blt i 12 = true from Nat.ble_eq_true_of_le (by omega)]⟩
theorem Ep (id:Nat):EA (kill id):=⟨λ_ _=>rfl,λ_ _ _=>rfl⟩
theorem AjP (a:Int) (n z:Nat) (g:Nat->E6) (th lo:Nat->Int) (tt:Int) (c0:Nat->V) (x0:Nat->Ev5) (r0:Nat->Int) (ln:Nat->Nat) (co:Nat->Nat->Int) (hz:z < n) (hst:CB (mbF g) n z = true) (h8:n <= 16) :
  ∀ (e b:Nat) (q:Nat),Cj (mbF g) n z = b+e->e < q->∃ F,EA F ∧ ∀ (L:LT) (ts0 ts:List V) (j:Nat->V),
  (AA (JK L) (NX a n (loN n g z) (kkN n g) g th lo tt c0 x0 r0 ln co ts0) q (X9 a n (loN n g z) (kkN n g) g th lo tt c0 x0 r0 ln co ts b (wcN (wrF g) n z b) (ofNat z) (wlN (wrF g) n z b) (evF n g (dnF n g (loN n g) (loN n g z) b)) (rfF n g (dnF n g (loN n g) (loN n g z) b)) (wvF n g z b) j)).sem
   = some (KJ a n (loN n g z) (kkN n g) g th lo tt c0 x0 r0 ln co (ts.map F) 0 (wcN (wrF g) n z (Cj (mbF g) n z)) 0 0 (evF n g (dnF n g (loN n g) (loN n g z+1) 0)) (rfF n g (dnF n g (loN n g) (loN n g z+1) 0)) (wvF n g z (Cj (mbF g) n z))):=by
 intro e
 have hrk:Rank (mbF g) n (loN n g):=L9 (mbF g) n
 obtain ⟨l1,l2,l3,l4⟩:=E2 hz hst
 have hkk:=HZ hz hst
 have hwc:∀ b,b <= n->wcN (wrF g) n z b <= n:=λb hb=>Nat.le_trans (AV _ _) hb
 induction e with
 | zero =>
  intro b q hb hq
  obtain ⟨q,rfl⟩:∃ q',q = q'+1:=⟨q - 1,by omega⟩
  have hbl:Cj (mbF g) n z = b:=by omega
  have hde:=Xm hrk hz hst
  rw [hbl] at hde
  refine ⟨_,EG,λL ts0 ts j=>?_⟩
  rw [<- hde,hbl,show NX a n (loN n g z) (kkN n g) g th lo tt c0 x0 r0 ln co ts0 = NX a n (loN n g z) (kkN n g) g th lo tt c0 x0 r0 ln co ts from rfl]
  by_cases hbn:b = n
  ·rw [Ab (AjJ L a n (loN n g z) (kkN n g) g th lo tt c0 x0 r0 ln co ts b (wcN (wrF g) n z b) (ofNat z) (wlN (wrF g) n z b) (evF n g (dnF n g (loN n g) (loN n g z) b)) (rfF n g (dnF n g (loN n g) (loN n g z) b)) (wvF n g z b) j (A9 (by omega))),Ry,BB]
   rfl
  ·have hbn:b < n:=by omega
   have hX:(Ae (wr .i64 (Af (ofNat z) (ofNat b))) (ofNat n)) = ofNat (rnd n z b):=by rw [Dm (by omega),Cu]; rfl
   have hlt:rnd n z b < n:=Gd (by omega)
   have hin:Al (ile 0 (Ae (wr .i64 (Af (ofNat z) (ofNat b))) (ofNat n))) (ilt (Ae (wr .i64 (Af (ofNat z) (ofNat b))) (ofNat n)) (ofNat n)) = true:=by rw [hX]; exact Ap hlt
   have hnl:nlt (toN (Ae (wr .i64 (Af (ofNat z) (ofNat b))) (ofNat n))) n = true:=by rw [hX]; exact decide_eq_true hlt
   have hlc:ieq (evF n g (dnF n g (loN n g) (loN n g z) b) (toN (Ae (wr .i64 (Af (ofNat z) (ofNat b))) (ofNat n)))).loc (ofNat (loN n g z)) = false:=by
    rw [hX,show toN (ofNat (rnd n z b)) = rnd n z b from rfl,CF hlt]
    show ieq (loF n g (rnd n z b)) _ = false
    rw [Ad2 hlt,Df]
    apply decide_eq_false
    have hs:CB (mbF g) n (rnd n z b) = true:=by
     unfold CB
     rw [Ha,show b+(n - 1) = (b - 1)+n by omega,S3,<- hbl]
     exact l3
    intro he
    have h2:=(L9 (mbF g) n).apart hlt hz hs hst he
    have h3:rnd n z b = rnd n z 0:=by rw [h2,S4 hz]
    have:=AcJ hz hbn (by omega) h3
    omega
   rw [Ab (AjG L a n (loN n g z) (kkN n g) g th lo tt c0 x0 r0 ln co ts b (wcN (wrF g) n z b) (ofNat z) (wlN (wrF g) n z b) (evF n g (dnF n g (loN n g) (loN n g z) b)) (rfF n g (dnF n g (loN n g) (loN n g z) b)) (wvF n g z b) j (ofNat_lt hbn) (F3 (by omega)) hin hnl hlc),Ry,BB]
   rfl
 | succ e ih =>
  intro b q hb hq
  obtain ⟨q,rfl⟩:∃ q',q = q'+1:=⟨q - 1,by omega⟩
  have hbn:b < n:=by omega
  have hbl:b < Cj (mbF g) n z:=by omega
  have hX:(Ae (wr .i64 (Af (ofNat z) (ofNat b))) (ofNat n)) = ofNat (rnd n z b):=by rw [Dm (by omega),Cu]; rfl
  have hlt:rnd n z b < n:=Gd (by omega)
  have hin:Al (ile 0 (Ae (wr .i64 (Af (ofNat z) (ofNat b))) (ofNat n))) (ilt (Ae (wr .i64 (Af (ofNat z) (ofNat b))) (ofNat n)) (ofNat n)) = true:=by rw [hX]; exact Ap hlt
  have hnl:nlt (toN (Ae (wr .i64 (Af (ofNat z) (ofNat b))) (ofNat n))) n = true:=by rw [hX]; exact decide_eq_true hlt
  have hap:Bx (wcN (wrF g) n z b) 1 8 = true:=by
   have:=hwc b (by omega)
   exact BM (by omega)
  have hdn:=O7 hrk hz hst hbl
  have hin':=GB hz hst hbl
  have hv:=TZ (w:=wrF g) hin'
  have hlc:ieq (evF n g (dnF n g (loN n g) (loN n g z) b) (toN (Ae (wr .i64 (Af (ofNat z) (ofNat b))) (ofNat n)))).loc (ofNat (loN n g z)) = true:=by
   rw [hX,show toN (ofNat (rnd n z b)) = rnd n z b from rfl,CF hlt]
   show ieq (loF n g (rnd n z b)) _ = true
   rw [Ad2 hlt,hrk.same hin',Df]
   exact decide_eq_true rfl
  cases hw:wrF g (rnd n z b) with
  | true =>
   have hW:ieq (evF n g (dnF n g (loN n g) (loN n g z) b) (toN (Ae (wr .i64 (Af (ofNat z) (ofNat b))) (ofNat n)))).dir 2 = true:=by rw [hX,show toN (ofNat (rnd n z b)) = rnd n z b from rfl,CF hlt]; exact hw
   obtain ⟨F,hF,h⟩:=ih (b+1) q (by omega) (by omega)
   refine ⟨_,(((Ep 11).comp EG).comp hF),λL ts0 ts j=>?_⟩
   have h:=h L ts (BT 12 (kill.kills 11 ts)) (λ_=>.und)
   rw [show NX a n (loN n g z) (kkN n g) g th lo tt c0 x0 r0 ln co ts0 = NX a n (loN n g z) (kkN n g) g th lo tt c0 x0 r0 ln co ts from rfl,Ab (AjH L a n (loN n g z) (kkN n g) g th lo tt c0 x0 r0 ln co ts b (wcN (wrF g) n z b) (ofNat z) (wlN (wrF g) n z b) (evF n g (dnF n g (loN n g) (loN n g z) b)) (rfF n g (dnF n g (loN n g) (loN n g z) b)) (wvF n g z b) j (ofNat_lt hbn) (F3 (by omega)) hin hnl hlc hW hap),Aq]
   rw [hX,An hbn (by omega),show toN (ofNat (rnd n z b)) = rnd n z b from rfl,show Bd (wcN (wrF g) n z b) 1 = wcN (wrF g) n z b+1 from rfl,LR hlt hdn (by rw [hv,TW hw]),YH hz hst hbn hw,<- QO hdn hw]
   rw [AiN hw,TW hw,BB,Cg,List.map_map,List.map_map] at h
   rw [BB,Cg,List.map_map]
   exact h
  | false =>
   have hW:ieq (evF n g (dnF n g (loN n g) (loN n g z) b) (toN (Ae (wr .i64 (Af (ofNat z) (ofNat b))) (ofNat n)))).dir 2 = false:=by rw [hX,show toN (ofNat (rnd n z b)) = rnd n z b from rfl,CF hlt]; exact hw
   obtain ⟨F,hF,h⟩:=ih (b+1) q (by omega) (by omega)
   refine ⟨_,(EG.comp hF),λL ts0 ts j=>?_⟩
   have h:=h L ts (BT 12 ts) (λ_=>.und)
   rw [show NX a n (loN n g z) (kkN n g) g th lo tt c0 x0 r0 ln co ts0 = NX a n (loN n g z) (kkN n g) g th lo tt c0 x0 r0 ln co ts from rfl,Ab (AjI L a n (loN n g z) (kkN n g) g th lo tt c0 x0 r0 ln co ts b (wcN (wrF g) n z b) (ofNat z) (wlN (wrF g) n z b) (evF n g (dnF n g (loN n g) (loN n g z) b)) (rfF n g (dnF n g (loN n g) (loN n g z) b)) (wvF n g z b) j (ofNat_lt hbn) (F3 (by omega)) hin hnl hlc hW),Aq]
   rw [hX,An hbn (by omega),show toN (ofNat (rnd n z b)) = rnd n z b from rfl,LR hlt hdn (by rw [hv,TX hw]),UF hdn (ZM hin' hw).symm]
   rw [AiO hw,TX hw,YG hw,BB,List.map_map] at h
   rw [BB]
   exact h
end Go.Proofs.YthlojajaenfidaaGreatDoor.Sh
