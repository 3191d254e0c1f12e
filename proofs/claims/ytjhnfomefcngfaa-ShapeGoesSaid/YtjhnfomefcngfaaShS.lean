/-
  Layer 7: is an edge in the witness (functions 69, 20), and the law ShapeGoes as far as the plain law says that each is. No conditions.
-/
import Derived.Test.YtjhnfomefcngfaaShM
namespace Go.Proofs.Ytjhnfomefcngfaa.Sh
open Go.Sy Ed
open Int (ofNat)
set_option maxHeartbeats 1000000
set_option maxRecDepth 4000
structure Behind (n:Nat) (f:Nat->Int) (v w:Int) (k:Nat):Prop where
  lt:k < n
  no:∀ i,i < k->ieq (f i) w = false
  at':ieq (f k) w = true
  how:(ieq v (-1) = true ∧ k = 0) ∨ (ieq v (-1) = false ∧ ile 0 v = true ∧ 0 < k ∧ ieq (f (k - 1)) v = true)
noncomputable def behB (n:Nat) (f:Nat->Int) (v w:Int):Bool:=@decide (∃ k,Behind n f v w k) (Classical.propDecidable _)
theorem behB_iff {n:Nat} {f:Nat->Int} {v w:Int}:behB n f v w = true ↔ ∃ k,Behind n f v w k:=@decide_eq_true_iff _ (Classical.propDecidable _)
noncomputable def behT:List V->T (V × List Blk)
  | [l,.val (.int .i64 v),.val (.int .i64 w)]=>apG codI l fun n f=>.br (smallN n) (.br (behB n f v w) (.leaf (bV true,[])) .fail) .fail
  | _=>.fail
structure Goes (s:Sh7) (z:Nat):Prop where
  hz:z < s.ne
  hx:z < s.nx
  src:ieq (s.X z).dir (s.E z).src = true
  dst:ieq (s.X ((z+1) % s.nx)).dir (s.E z).dst = true
  lo:ilt (s.X z).loc 0 = false
  hi:ile (ofNat s.nc) (s.X z).loc = false
  rf:ieq (s.E z).kind 1 = true->(z+1) % s.nx < s.nr ∧ ieq (s.R ((z+1) % s.nx)) (ofNat z) = true ∧ ieq (s.X z).loc (s.X ((z+1) % s.nx)).loc = true ∧ beqB (s.E z).ext (bnot (ieq (s.X z).th (s.X ((z+1) % s.nx)).th)) = true
  fr:ieq (s.E z).kind 1 = false->ieq (s.E z).kind 2 = true->z < s.nr ∧ behB (s.C (toN (s.X z).loc)).1 (s.C (toN (s.X z).loc)).2 (s.R z) (ofNat ((z+1) % s.nx)) = true ∧ ieq (s.X z).loc (s.X ((z+1) % s.nx)).loc = true ∧ beqB (s.E z).ext (bnot (ieq (s.X z).th (s.X ((z+1) % s.nx)).th)) = true
  co:ieq (s.E z).kind 1 = false->ieq (s.E z).kind 2 = false->ieq (s.E z).kind 3 = true->behB (s.C (toN (s.X z).loc)).1 (s.C (toN (s.X z).loc)).2 (ofNat z) (ofNat ((z+1) % s.nx)) = true ∧ ieq (s.X z).loc (s.X ((z+1) % s.nx)).loc = true ∧ beqB (s.E z).ext (bnot (ieq (s.X z).th (s.X ((z+1) % s.nx)).th)) = true
  po:ieq (s.E z).kind 1 = false->ieq (s.E z).kind 2 = false->ieq (s.E z).kind 3 = false->ieq (s.X z).th (s.X ((z+1) % s.nx)).th = true ∧ ieq (s.X ((z+1) % s.nx)).pl (wr .i64 (iadd (s.X z).pl 1)) = true ∧ beqB (s.E z).same (ieq (s.X z).loc (s.X ((z+1) % s.nx)).loc) = true
noncomputable def goesB (s:Sh7) (z:Nat):Bool:=@decide (Goes s z) (Classical.propDecidable _)
theorem goesB_iff {s:Sh7} {z:Nat}:goesB s z = true ↔ Goes s z:=@decide_eq_true_iff _ (Classical.propDecidable _)
noncomputable def goesT:List V->T (V × List Blk)
  | [v,.val (.int .i64 y)]=>apS v fun s=>.br (smallS s) (.br (ile 0 y) (.br (goesB s (toN y)) (.leaf (bV true,[])) .fail) .fail) .fail
  | _=>.fail
theorem pred_wr {k:Nat} (hk:k < 4611686018427387904):wr .i64 (isub (ofNat (k+1)) 1) = ofNat k:=by
  have h:=succ_wr (i:=k) (n:=k+1) (by omega) (by omega)
  have e:isub (ofNat (k+1)) 1 = ofNat k:=by
    show (ofNat (k+1):Int) - 1 = ofNat k
    have:(ofNat (k+1):Int) = (k:Int)+1:=rfl
    rw [this]
    show (k:Int)+1 - 1 = (k:Int)
    omega
  rw [e]
  by_cases h0:k = 0
  · subst h0
    rfl
  · have h:=succ_wr (i:=k - 1) (n:=k) (by omega) (by omega)
    have e2:iadd (ofNat (k - 1)) 1 = ofNat k:=by
      show (ofNat (k - 1):Int)+1 = ofNat k
      have:((k - 1:Nat):Int)+1 = (k:Int):=by omega
      exact this
    rw [e2,show k - 1+1 = k by omega] at h
    exact h
theorem in_both {i:Int} {n:Nat} (h1:ilt i 0 = false) (h2:ile (ofNat n) i = false):band (ile 0 i) (ilt i (ofNat n)) = true:=by
  have h1:¬ i < 0:=of_decide_eq_false h1
  have h2:¬ (n:Int) <= i:=of_decide_eq_false h2
  rw [band_t (show ile 0 i = true from decide_eq_true (by omega))]
  exact decide_eq_true (by show i < (n:Int); omega)
theorem in_lt {i:Int} {n:Nat} (h1:ilt i 0 = false) (h2:ile (ofNat n) i = false):toN i < n:=by
  have h1:¬ i < 0:=of_decide_eq_false h1
  have h2:¬ (n:Int) <= i:=of_decide_eq_false h2
  show i.toNat < n
  omega
theorem toN_ofNat {y:Int} (h:ile 0 y = true):y = ofNat (toN y):=by
  have h:0 <= y:=of_decide_eq_true h
  show y = ((y.toNat:Nat):Int)
  omega
noncomputable def tb20:List (Nat × (List V->T (V × List Blk))):=[(69,behT)]
def lp69 (n:Nat) (f:Nat->Int) (v w:Int):Lp:=⟨(bmK 43 0 [0,1,2,6,7]),0,(bmK 43 0 [6]),0,n+1⟩
def st69 (n:Nat) (f:Nat->Int) (v w:Int) (b:Nat) (j:Nat->V):St:=⟨(jsV 43 0 j [(0,.sl 1 n (fun i=>iV (f i))),(1,iV v),(2,iV w),(6,bV false),(7,nV b)]),[]⟩
def en69t (n:Nat) (f:Nat->Int) (v w:Int) (b:Nat):Ex × St:=(.rt,⟨(jsV 43 0 (fun _=>.und) [(6,bV true)]),[]⟩)
noncomputable def body69 (L:LT):St->T (Ex × St):=fun st=>evalC tab ⟨callT tb0,L,Gl⟩ (loopBody Try.f69 0) 0 st
section
variable (L:LT) (n:Nat) (f:Nat->Int) (v w:Int) (b:Nat)  (j:Nat->V)
include L n f v w b j
theorem r69n (h0:ilt (ofNat b) (ofNat n) = true) (h16:ile 0 (ofNat b) = true) (h1:ieq (f b) w = false):roundT (body69 L) (lp69 n f v w) (st69 n f v w b j) = some (.nm,⟨(jsV 43 0 (fun _=>.und) [(0,(.sl 1 n (fun i=>(iV (f i))))),(1,(iV v)),(2,(iV w)),(6,(bV false)),(7,(iV (wr .i64 (iadd (ofNat b) 1))))]),[]⟩):=by
  exact sem_of_path (ds:=[true,true,false]) (cs:=[(ilt (ofNat b) (ofNat n)),(band (ile 0 (ofNat b)) (ilt (ofNat b) (ofNat n))),(ieq (f b) w)]) (by kernel_rfl) (by simp only [h0,h16,h1] <;> rfl)
theorem r69z (h0:ilt (ofNat b) (ofNat n) = true) (h18:ile 0 (ofNat b) = true) (h1:ieq (f b) w = true) (h2:ieq v (-1) = true) (h3:ieq (ofNat b) 0 = true):roundT (body69 L) (lp69 n f v w) (st69 n f v w b j) = some (.rt,⟨(jsV 43 0 (fun _=>.und) [(6,(bV true))]),[]⟩):=by
  exact sem_of_path (ds:=bbK 13 8191) (cs:=((fun c0 c1=>[(ilt (ofNat b) (ofNat n)),(band (ile 0 (ofNat b)) (ilt (ofNat b) (ofNat n))),(ieq (f b) w),c0,c0,c0,c1,c1,c1,c1,c1,c1,c1]) (ieq v (-1)) (ieq (ofNat b) 0))) (by kernel_rfl) (by simp only [h0,h18,h1,h2,h3] <;> rfl)
theorem r69p (h0:ilt (ofNat b) (ofNat n) = true) (h20:ile 0 (ofNat b) = true) (h1:ieq (f b) w = true) (h2:ieq v (-1) = false) (h3:ile 0 v = true) (h4:ilt 0 (ofNat b) = true) (h22:band (ile 0 (wr .i64 (isub (ofNat b) 1))) (ilt (wr .i64 (isub (ofNat b) 1)) (ofNat n)) = true):roundT (body69 L) (lp69 n f v w) (st69 n f v w b j) = some (.rt,⟨(jsV 43 0 (fun _=>.und) [(6,(bV (ieq (f (toN (wr .i64 (isub (ofNat b) 1)))) v)))]),[]⟩):=by
  exact sem_of_path (ds:=bbK 25 12572167) (cs:=((fun c0 c1 c2 c3=>[(ilt (ofNat b) (ofNat n)),(band (ile 0 (ofNat b)) (ilt (ofNat b) (ofNat n))),(ieq (f b) w),c0,c0,c0,c1,c1,c1,c2,c2,c1,c2,c1,c3,c3,c3,c3,(band (ile 0 (wr .i64 (isub (ofNat b) 1))) (ilt (wr .i64 (isub (ofNat b) 1)) (ofNat n))),c3,c3,c3,c1,c3,c1]) (ieq v (-1)) (false) (ile 0 v) (ilt 0 (ofNat b)))) (by kernel_rfl) (by simp only [h22] <;> simp only [h0,h20,h1,h2,h3,h4] <;> rfl)
end
def jk69 (n:Nat) (f:Nat->Int) (v w:Int) :Nat->V:=lkV undefV []
theorem w69 (L:LT) (p0:PT) (n:Nat) (f:Nat->Int) (v w:Int) (q:Nat)  (hp0:p0 (body69 (onP 0 p0 (en69t n f v w q) L)) (st69 n f v w 0 (jk69 n f v w )) = true):(finF (evalF tab ⟨callT tb0,(onP 0 p0 (en69t n f v w q) L),Gl⟩ Try.f69 [.sl 1 n (fun i=>iV (f i)),iV v,iV w] [])).sem = some ((bV true),[]):=by
  exact sem_of_path (ds:=[true]) (cs:=[(p0 (body69 (onP 0 p0 (en69t n f v w q) L)) (st69 n f v w 0 (jk69 n f v w )))]) (by kernel_rfl) (by simp only [hp0] <;> rfl)
section
variable (L:LT) (a:Int) (n:Nat) (g:Nat->E6) (m:Nat) (x:Nat->Ev5) (tt k0:Int) (p:Nat) (r:Nat->Int) (nc:Nat) (ln:Nat->Nat) (co:Nat->Nat->Int) (z:Nat)
include L a n g m x tt k0 p r nc ln co z
theorem w20r (h29:band (ile 0 (ofNat z)) (ilt (ofNat z) (ofNat n)) = true) (h0:ieq (ofNat m) 0 = false) (h30:band (ile 0 (ofNat z)) (ilt (ofNat z) (ofNat m)) = true) (h32:band (ile 0 (itmod (wr .i64 (iadd (ofNat z) 1)) (ofNat m))) (ilt (itmod (wr .i64 (iadd (ofNat z) 1)) (ofNat m)) (ofNat m)) = true) (h1:ieq ((x z)).dir ((g z)).src = true) (h2:ieq ((x (toN (itmod (wr .i64 (iadd (ofNat z) 1)) (ofNat m))))).dir ((g z)).dst = true) (h3:ilt ((x z)).loc 0 = false) (h4:ile (ofNat nc) ((x z)).loc = false) (h5:ieq ((g z)).kind 1 = true) (h33:band (ile 0 (itmod (wr .i64 (iadd (ofNat z) 1)) (ofNat m))) (ilt (itmod (wr .i64 (iadd (ofNat z) 1)) (ofNat m)) (ofNat p)) = true) (h8:ieq (r (toN (itmod (wr .i64 (iadd (ofNat z) 1)) (ofNat m)))) (ofNat z) = true) (h9:ieq ((x z)).loc ((x (toN (itmod (wr .i64 (iadd (ofNat z) 1)) (ofNat m))))).loc = true):(finF (evalF tab ⟨callT tb20,L,Gl⟩ Try.f20 [.agg [iV a,.sl 6 n (fun i=>eV (g i)),.sl 5 m (fun i=>evV (x i)),iV tt,iV k0,.sl 1 p (fun i=>iV (r i)),.sl 1 nc (fun k=>.sl 1 (ln k) (fun i=>iV (co k i)))],nV z] [])).sem = some ((bV (beqB ((g z)).ext (bnot (ieq ((x z)).th ((x (toN (itmod (wr .i64 (iadd (ofNat z) 1)) (ofNat m))))).th)))),[]):=by
  exact sem_of_path (ds:=bbK 93 9903444756707546661021286397) (cs:=((fun c0 c1 c2 c3 c4 c5 c6 c7 c8 c9 c10 c11 c12 c13 c14 c15 c16=>[(band (ile 0 (ofNat z)) (ilt (ofNat z) (ofNat n))),(ieq (ofNat m) 0),(band (ile 0 (ofNat z)) (ilt (ofNat z) (ofNat m))),(band (ile 0 (itmod (wr .i64 (iadd (ofNat z) 1)) (ofNat m))) (ilt (itmod (wr .i64 (iadd (ofNat z) 1)) (ofNat m)) (ofNat m))),c0,c1,c2,c3,c4,c5,c6,c7,c8,c9,c10,c11,c0,c1,c2,c3,c4,c5,c6,c7,c8,c9,c10,c11,c0,c1,c2,c3,c4,c5,c6,c7,c8,c9,c10,c11,c0,c1,c2,c3,c4,c5,c6,c7,c8,c9,c10,c11,c6,c7,c8,c9,c10,c11,c12,c12,c12,c12,c12,c12,c13,c13,c13,c13,c14,c14,c14,c14,c14,c14,c14,(ile (ofNat nc) ((x z)).loc),(ieq ((g z)).kind 1),(band (ile 0 (itmod (wr .i64 (iadd (ofNat z) 1)) (ofNat m))) (ilt (itmod (wr .i64 (iadd (ofNat z) 1)) (ofNat m)) (ofNat p))),c15,c15,c15,c15,c15,c15,c16,c16,c16,c16,c16,c16,c16,c16,c16]) (ieq (ofNat z) (ofNat z)) (ieq ((x z)).th ((x z)).th) (ieq ((x z)).pl ((x z)).pl) (ieq ((x z)).dir ((x z)).dir) (ieq ((x z)).loc ((x z)).loc) (ieq ((x z)).val ((x z)).val) (ieq (itmod (wr .i64 (iadd (ofNat z) 1)) (ofNat m)) (itmod (wr .i64 (iadd (ofNat z) 1)) (ofNat m))) (ieq ((x (toN (itmod (wr .i64 (iadd (ofNat z) 1)) (ofNat m))))).th ((x (toN (itmod (wr .i64 (iadd (ofNat z) 1)) (ofNat m))))).th) (ieq ((x (toN (itmod (wr .i64 (iadd (ofNat z) 1)) (ofNat m))))).pl ((x (toN (itmod (wr .i64 (iadd (ofNat z) 1)) (ofNat m))))).pl) (ieq ((x (toN (itmod (wr .i64 (iadd (ofNat z) 1)) (ofNat m))))).dir ((x (toN (itmod (wr .i64 (iadd (ofNat z) 1)) (ofNat m))))).dir) (ieq ((x (toN (itmod (wr .i64 (iadd (ofNat z) 1)) (ofNat m))))).loc ((x (toN (itmod (wr .i64 (iadd (ofNat z) 1)) (ofNat m))))).loc) (ieq ((x (toN (itmod (wr .i64 (iadd (ofNat z) 1)) (ofNat m))))).val ((x (toN (itmod (wr .i64 (iadd (ofNat z) 1)) (ofNat m))))).val) (bnot (ieq ((x z)).dir ((g z)).src)) (bnot (ieq ((x (toN (itmod (wr .i64 (iadd (ofNat z) 1)) (ofNat m))))).dir ((g z)).dst)) (ilt ((x z)).loc 0) (ieq (r (toN (itmod (wr .i64 (iadd (ofNat z) 1)) (ofNat m)))) (ofNat z)) (ieq ((x z)).loc ((x (toN (itmod (wr .i64 (iadd (ofNat z) 1)) (ofNat m))))).loc))) (by kernel_rfl) (by simp only [h29,h30,h32,h33] <;> simp only [h0,h1,h2,h3,h4,h5,h8,h9,ieq_self] <;> rfl)
theorem w20f (h28:band (ile 0 (ofNat z)) (ilt (ofNat z) (ofNat n)) = true) (h0:ieq (ofNat m) 0 = false) (h29:band (ile 0 (ofNat z)) (ilt (ofNat z) (ofNat m)) = true) (h31:band (ile 0 (itmod (wr .i64 (iadd (ofNat z) 1)) (ofNat m))) (ilt (itmod (wr .i64 (iadd (ofNat z) 1)) (ofNat m)) (ofNat m)) = true) (h1:ieq ((x z)).dir ((g z)).src = true) (h2:ieq ((x (toN (itmod (wr .i64 (iadd (ofNat z) 1)) (ofNat m))))).dir ((g z)).dst = true) (h3:ilt ((x z)).loc 0 = false) (h4:ile (ofNat nc) ((x z)).loc = false) (h5:ieq ((g z)).kind 1 = false) (h6:ieq ((g z)).kind 2 = true) (h33:band (ile 0 ((x z)).loc) (ilt ((x z)).loc (ofNat nc)) = true) (h34:band (ile 0 (ofNat z)) (ilt (ofNat z) (ofNat p)) = true) (h35:smallN (ln (toN ((x z)).loc)) = true) (h36:behB (ln (toN ((x z)).loc)) (co (toN ((x z)).loc)) (r z) (itmod (wr .i64 (iadd (ofNat z) 1)) (ofNat m)) = true) (h8:ieq ((x z)).loc ((x (toN (itmod (wr .i64 (iadd (ofNat z) 1)) (ofNat m))))).loc = true):(finF (evalF tab ⟨callT tb20,L,Gl⟩ Try.f20 [.agg [iV a,.sl 6 n (fun i=>eV (g i)),.sl 5 m (fun i=>evV (x i)),iV tt,iV k0,.sl 1 p (fun i=>iV (r i)),.sl 1 nc (fun k=>.sl 1 (ln k) (fun i=>iV (co k i)))],nV z] [])).sem = some ((bV (beqB ((g z)).ext (bnot (ieq ((x z)).th ((x (toN (itmod (wr .i64 (iadd (ofNat z) 1)) (ofNat m))))).th)))),[]):=by
  exact sem_of_path (ds:=bbK 98 316912498941618128921680674813) (cs:=((fun c0 c1 c2 c3 c4 c5 c6 c7 c8 c9 c10 c11 c12 c13 c14 c15 c16=>[(band (ile 0 (ofNat z)) (ilt (ofNat z) (ofNat n))),(ieq (ofNat m) 0),(band (ile 0 (ofNat z)) (ilt (ofNat z) (ofNat m))),(band (ile 0 (itmod (wr .i64 (iadd (ofNat z) 1)) (ofNat m))) (ilt (itmod (wr .i64 (iadd (ofNat z) 1)) (ofNat m)) (ofNat m))),c0,c1,c2,c3,c4,c5,c6,c7,c8,c9,c10,c11,c0,c1,c2,c3,c4,c5,c6,c7,c8,c9,c10,c11,c0,c1,c2,c3,c4,c5,c6,c7,c8,c9,c10,c11,c0,c1,c2,c3,c4,c5,c6,c7,c8,c9,c10,c11,c6,c7,c8,c9,c10,c11,c12,c12,c12,c12,c12,c12,c13,c13,c13,c13,c14,c14,c14,c14,c14,c14,c14,(ile (ofNat nc) ((x z)).loc),(ieq ((g z)).kind 1),(ieq ((g z)).kind 2),(band (ile 0 ((x z)).loc) (ilt ((x z)).loc (ofNat nc))),(band (ile 0 (ofNat z)) (ilt (ofNat z) (ofNat p))),(allN (ln (toN ((x z)).loc)) (fun _=>true)),(smallN (ln (toN ((x z)).loc))),(behB (ln (toN ((x z)).loc)) (co (toN ((x z)).loc)) (r z) (itmod (wr .i64 (iadd (ofNat z) 1)) (ofNat m))),c15,c15,c15,c15,c15,c15,c16,c16,c16,c16,c16,c16,c16,c16,c16]) (ieq (ofNat z) (ofNat z)) (ieq ((x z)).th ((x z)).th) (ieq ((x z)).pl ((x z)).pl) (ieq ((x z)).dir ((x z)).dir) (ieq ((x z)).loc ((x z)).loc) (ieq ((x z)).val ((x z)).val) (ieq (itmod (wr .i64 (iadd (ofNat z) 1)) (ofNat m)) (itmod (wr .i64 (iadd (ofNat z) 1)) (ofNat m))) (ieq ((x (toN (itmod (wr .i64 (iadd (ofNat z) 1)) (ofNat m))))).th ((x (toN (itmod (wr .i64 (iadd (ofNat z) 1)) (ofNat m))))).th) (ieq ((x (toN (itmod (wr .i64 (iadd (ofNat z) 1)) (ofNat m))))).pl ((x (toN (itmod (wr .i64 (iadd (ofNat z) 1)) (ofNat m))))).pl) (ieq ((x (toN (itmod (wr .i64 (iadd (ofNat z) 1)) (ofNat m))))).dir ((x (toN (itmod (wr .i64 (iadd (ofNat z) 1)) (ofNat m))))).dir) (ieq ((x (toN (itmod (wr .i64 (iadd (ofNat z) 1)) (ofNat m))))).loc ((x (toN (itmod (wr .i64 (iadd (ofNat z) 1)) (ofNat m))))).loc) (ieq ((x (toN (itmod (wr .i64 (iadd (ofNat z) 1)) (ofNat m))))).val ((x (toN (itmod (wr .i64 (iadd (ofNat z) 1)) (ofNat m))))).val) (bnot (ieq ((x z)).dir ((g z)).src)) (bnot (ieq ((x (toN (itmod (wr .i64 (iadd (ofNat z) 1)) (ofNat m))))).dir ((g z)).dst)) (ilt ((x z)).loc 0) (true) (ieq ((x z)).loc ((x (toN (itmod (wr .i64 (iadd (ofNat z) 1)) (ofNat m))))).loc))) (by kernel_rfl) (by simp only [h28,h29,h31,h33,h34] <;> simp only [h0,h1,h2,h3,h4,h5,h6,h35,h36,h8,allN_true,ieq_self] <;> rfl)
theorem w20c (h28:band (ile 0 (ofNat z)) (ilt (ofNat z) (ofNat n)) = true) (h0:ieq (ofNat m) 0 = false) (h29:band (ile 0 (ofNat z)) (ilt (ofNat z) (ofNat m)) = true) (h31:band (ile 0 (itmod (wr .i64 (iadd (ofNat z) 1)) (ofNat m))) (ilt (itmod (wr .i64 (iadd (ofNat z) 1)) (ofNat m)) (ofNat m)) = true) (h1:ieq ((x z)).dir ((g z)).src = true) (h2:ieq ((x (toN (itmod (wr .i64 (iadd (ofNat z) 1)) (ofNat m))))).dir ((g z)).dst = true) (h3:ilt ((x z)).loc 0 = false) (h4:ile (ofNat nc) ((x z)).loc = false) (h5:ieq ((g z)).kind 1 = false) (h6:ieq ((g z)).kind 2 = false) (h7:ieq ((g z)).kind 3 = true) (h33:band (ile 0 ((x z)).loc) (ilt ((x z)).loc (ofNat nc)) = true) (h34:smallN (ln (toN ((x z)).loc)) = true) (h35:behB (ln (toN ((x z)).loc)) (co (toN ((x z)).loc)) (ofNat z) (itmod (wr .i64 (iadd (ofNat z) 1)) (ofNat m)) = true) (h8:ieq ((x z)).loc ((x (toN (itmod (wr .i64 (iadd (ofNat z) 1)) (ofNat m))))).loc = true):(finF (evalF tab ⟨callT tb20,L,Gl⟩ Try.f20 [.agg [iV a,.sl 6 n (fun i=>eV (g i)),.sl 5 m (fun i=>evV (x i)),iV tt,iV k0,.sl 1 p (fun i=>iV (r i)),.sl 1 nc (fun k=>.sl 1 (ln k) (fun i=>iV (co k i)))],nV z] [])).sem = some ((bV (beqB ((g z)).ext (bnot (ieq ((x z)).th ((x (toN (itmod (wr .i64 (iadd (ofNat z) 1)) (ofNat m))))).th)))),[]):=by
  exact sem_of_path (ds:=bbK 98 316912347825890677093033836541) (cs:=((fun c0 c1 c2 c3 c4 c5 c6 c7 c8 c9 c10 c11 c12 c13 c14 c15 c16=>[(band (ile 0 (ofNat z)) (ilt (ofNat z) (ofNat n))),(ieq (ofNat m) 0),(band (ile 0 (ofNat z)) (ilt (ofNat z) (ofNat m))),(band (ile 0 (itmod (wr .i64 (iadd (ofNat z) 1)) (ofNat m))) (ilt (itmod (wr .i64 (iadd (ofNat z) 1)) (ofNat m)) (ofNat m))),c0,c1,c2,c3,c4,c5,c6,c7,c8,c9,c10,c11,c0,c1,c2,c3,c4,c5,c6,c7,c8,c9,c10,c11,c0,c1,c2,c3,c4,c5,c6,c7,c8,c9,c10,c11,c0,c1,c2,c3,c4,c5,c6,c7,c8,c9,c10,c11,c6,c7,c8,c9,c10,c11,c12,c12,c12,c12,c12,c12,c13,c13,c13,c13,c14,c14,c14,c14,c14,c14,c14,(ile (ofNat nc) ((x z)).loc),(ieq ((g z)).kind 1),(ieq ((g z)).kind 2),(ieq ((g z)).kind 3),(band (ile 0 ((x z)).loc) (ilt ((x z)).loc (ofNat nc))),(allN (ln (toN ((x z)).loc)) (fun _=>true)),(smallN (ln (toN ((x z)).loc))),(behB (ln (toN ((x z)).loc)) (co (toN ((x z)).loc)) (ofNat z) (itmod (wr .i64 (iadd (ofNat z) 1)) (ofNat m))),c15,c15,c15,c15,c15,c15,c16,c16,c16,c16,c16,c16,c16,c16,c16]) (ieq (ofNat z) (ofNat z)) (ieq ((x z)).th ((x z)).th) (ieq ((x z)).pl ((x z)).pl) (ieq ((x z)).dir ((x z)).dir) (ieq ((x z)).loc ((x z)).loc) (ieq ((x z)).val ((x z)).val) (ieq (itmod (wr .i64 (iadd (ofNat z) 1)) (ofNat m)) (itmod (wr .i64 (iadd (ofNat z) 1)) (ofNat m))) (ieq ((x (toN (itmod (wr .i64 (iadd (ofNat z) 1)) (ofNat m))))).th ((x (toN (itmod (wr .i64 (iadd (ofNat z) 1)) (ofNat m))))).th) (ieq ((x (toN (itmod (wr .i64 (iadd (ofNat z) 1)) (ofNat m))))).pl ((x (toN (itmod (wr .i64 (iadd (ofNat z) 1)) (ofNat m))))).pl) (ieq ((x (toN (itmod (wr .i64 (iadd (ofNat z) 1)) (ofNat m))))).dir ((x (toN (itmod (wr .i64 (iadd (ofNat z) 1)) (ofNat m))))).dir) (ieq ((x (toN (itmod (wr .i64 (iadd (ofNat z) 1)) (ofNat m))))).loc ((x (toN (itmod (wr .i64 (iadd (ofNat z) 1)) (ofNat m))))).loc) (ieq ((x (toN (itmod (wr .i64 (iadd (ofNat z) 1)) (ofNat m))))).val ((x (toN (itmod (wr .i64 (iadd (ofNat z) 1)) (ofNat m))))).val) (bnot (ieq ((x z)).dir ((g z)).src)) (bnot (ieq ((x (toN (itmod (wr .i64 (iadd (ofNat z) 1)) (ofNat m))))).dir ((g z)).dst)) (ilt ((x z)).loc 0) (true) (ieq ((x z)).loc ((x (toN (itmod (wr .i64 (iadd (ofNat z) 1)) (ofNat m))))).loc))) (by kernel_rfl) (by simp only [h28,h29,h31,h33] <;> simp only [h0,h1,h2,h3,h4,h5,h6,h7,h34,h35,h8,allN_true,ieq_self] <;> rfl)
theorem w20p (h29:band (ile 0 (ofNat z)) (ilt (ofNat z) (ofNat n)) = true) (h0:ieq (ofNat m) 0 = false) (h30:band (ile 0 (ofNat z)) (ilt (ofNat z) (ofNat m)) = true) (h32:band (ile 0 (itmod (wr .i64 (iadd (ofNat z) 1)) (ofNat m))) (ilt (itmod (wr .i64 (iadd (ofNat z) 1)) (ofNat m)) (ofNat m)) = true) (h1:ieq ((x z)).dir ((g z)).src = true) (h2:ieq ((x (toN (itmod (wr .i64 (iadd (ofNat z) 1)) (ofNat m))))).dir ((g z)).dst = true) (h3:ilt ((x z)).loc 0 = false) (h4:ile (ofNat nc) ((x z)).loc = false) (h5:ieq ((g z)).kind 1 = false) (h6:ieq ((g z)).kind 2 = false) (h7:ieq ((g z)).kind 3 = false) (h8:ieq ((x z)).th ((x (toN (itmod (wr .i64 (iadd (ofNat z) 1)) (ofNat m))))).th = true) (h9:ieq ((x (toN (itmod (wr .i64 (iadd (ofNat z) 1)) (ofNat m))))).pl (wr .i64 (iadd ((x z)).pl 1)) = true):(finF (evalF tab ⟨callT tb20,L,Gl⟩ Try.f20 [.agg [iV a,.sl 6 n (fun i=>eV (g i)),.sl 5 m (fun i=>evV (x i)),iV tt,iV k0,.sl 1 p (fun i=>iV (r i)),.sl 1 nc (fun k=>.sl 1 (ln k) (fun i=>iV (co k i)))],nV z] [])).sem = some ((bV (beqB ((g z)).same (ieq ((x z)).loc ((x (toN (itmod (wr .i64 (iadd (ofNat z) 1)) (ofNat m))))).loc))),[]):=by
  exact sem_of_path (ds:=bbK 95 39613476794510591858336333821) (cs:=((fun c0 c1 c2 c3 c4 c5 c6 c7 c8 c9 c10 c11 c12 c13 c14 c15 c16=>[(band (ile 0 (ofNat z)) (ilt (ofNat z) (ofNat n))),(ieq (ofNat m) 0),(band (ile 0 (ofNat z)) (ilt (ofNat z) (ofNat m))),(band (ile 0 (itmod (wr .i64 (iadd (ofNat z) 1)) (ofNat m))) (ilt (itmod (wr .i64 (iadd (ofNat z) 1)) (ofNat m)) (ofNat m))),c0,c1,c2,c3,c4,c5,c6,c7,c8,c9,c10,c11,c0,c1,c2,c3,c4,c5,c6,c7,c8,c9,c10,c11,c0,c1,c2,c3,c4,c5,c6,c7,c8,c9,c10,c11,c0,c1,c2,c3,c4,c5,c6,c7,c8,c9,c10,c11,c6,c7,c8,c9,c10,c11,c12,c12,c12,c12,c12,c12,c13,c13,c13,c13,c14,c14,c14,c14,c14,c14,c14,(ile (ofNat nc) ((x z)).loc),(ieq ((g z)).kind 1),(ieq ((g z)).kind 2),(ieq ((g z)).kind 3),c15,c15,c15,c15,c15,c15,c15,c16,c16,c16,c16,c16,c16,c16,c16,c16]) (ieq (ofNat z) (ofNat z)) (ieq ((x z)).th ((x z)).th) (ieq ((x z)).pl ((x z)).pl) (ieq ((x z)).dir ((x z)).dir) (ieq ((x z)).loc ((x z)).loc) (ieq ((x z)).val ((x z)).val) (ieq (itmod (wr .i64 (iadd (ofNat z) 1)) (ofNat m)) (itmod (wr .i64 (iadd (ofNat z) 1)) (ofNat m))) (ieq ((x (toN (itmod (wr .i64 (iadd (ofNat z) 1)) (ofNat m))))).th ((x (toN (itmod (wr .i64 (iadd (ofNat z) 1)) (ofNat m))))).th) (ieq ((x (toN (itmod (wr .i64 (iadd (ofNat z) 1)) (ofNat m))))).pl ((x (toN (itmod (wr .i64 (iadd (ofNat z) 1)) (ofNat m))))).pl) (ieq ((x (toN (itmod (wr .i64 (iadd (ofNat z) 1)) (ofNat m))))).dir ((x (toN (itmod (wr .i64 (iadd (ofNat z) 1)) (ofNat m))))).dir) (ieq ((x (toN (itmod (wr .i64 (iadd (ofNat z) 1)) (ofNat m))))).loc ((x (toN (itmod (wr .i64 (iadd (ofNat z) 1)) (ofNat m))))).loc) (ieq ((x (toN (itmod (wr .i64 (iadd (ofNat z) 1)) (ofNat m))))).val ((x (toN (itmod (wr .i64 (iadd (ofNat z) 1)) (ofNat m))))).val) (bnot (ieq ((x z)).dir ((g z)).src)) (bnot (ieq ((x (toN (itmod (wr .i64 (iadd (ofNat z) 1)) (ofNat m))))).dir ((g z)).dst)) (ilt ((x z)).loc 0) (ieq ((x z)).th ((x (toN (itmod (wr .i64 (iadd (ofNat z) 1)) (ofNat m))))).th) (ieq ((x (toN (itmod (wr .i64 (iadd (ofNat z) 1)) (ofNat m))))).pl (wr .i64 (iadd ((x z)).pl 1))))) (by kernel_rfl) (by simp only [h29,h30,h32] <;> simp only [h0,h1,h2,h3,h4,h5,h6,h7,h8,h9,ieq_self] <;> rfl)
end
theorem run69 (L:LT) (n:Nat) (f:Nat->Int) (v w:Int) (hn:n <= 4611686018427387904) {k:Nat} (H:Behind n f v w k):∀ (d b:Nat) (j:Nat->V) (u:Nat),k = b+d->d < u ->
    (iterT (body69 L) (lp69 n f v w) u (st69 n f v w b j)).sem = some (en69t n f v w 0)
  | 0,b,j,u+1,h,_=>by
    have hb:k = b:=by omega
    subst hb
    have hl:=H.lt
    rcases H.how with ⟨h1,h2⟩ | ⟨h1,h2,h3,h4⟩
    · subst h2
      exact iter_round (r69z L n f v w 0 j (ofNat_lt hl) (ofNat_0 _) H.at' h1 (ieq_rfl _))
    · obtain ⟨q,rfl⟩:∃ q,k = q+1:=⟨k - 1,by omega⟩
      have e:=pred_wr (k:=q) (by omega)
      have h4e:ieq (f (toN (wr .i64 (isub (ofNat (q+1)) 1)))) v = true:=by
        rw [e]
        exact h4
      have hr:=r69p L n f v w (q+1) j (ofNat_lt hl) (ofNat_0 _) H.at' h1 h2 (ofNat_lt h3) (by rw [e]; exact ofNat_in (by omega))
      rw [h4e] at hr
      exact iter_round hr
  | d+1,b,j,u+1,h,h2=>by
    have hl:=H.lt
    have hb:b < n:=by omega
    have next:=run69 L n f v w hn H d (b+1) (fun _=>.und) u (by omega) (by omega)
    have hr:=r69n L n f v w b j (ofNat_lt hb) (ofNat_0 _) (H.no b (by omega))
    rw [iter_round hr,goOn_nm,succ_wr hb hn]
    exact next
theorem p69:PureC Try.prog Gl 69 behT:=by
  refine pureC_intro tabOK mixed Try.func69 (by kernel_rfl) (by kernel_rfl) fun vs v h' h=>?_
  unfold behT at h
  split at h
  · rename_i l1 v1 w1
    obtain ⟨n,f,a1,h⟩:=apG_some h
    obtain ⟨hn,h⟩:=sem_br_fail h
    obtain ⟨hb,h⟩:=sem_br_fail h
    have:=sem_leaf h
    simp only [Prod.mk.injEq] at this
    obtain ⟨rfl,rfl⟩:=this
    obtain ⟨k,H⟩:=behB_iff.1 hb
    have hn:n <= 4611686018427387904:=of_decide_eq_true hn
    have hA:ArgLE [l1,iV v1,iV w1] [.sl 1 n (fun i=>iV (f i)),iV v1,iV w1]:=fun S w cs hv=>by
      obtain ⟨c,l,rfl,q1,q2⟩:=hv
      exact ⟨c,_,rfl,a1 S w c q1,q2⟩
    have hx:=cx_ok tb0_ok [(0,lp69 n f v1 w1)] (G:=Gl)
    have hL:=loopsBy_le [(0,lp69 n f v1 w1)]
    refine ⟨_,cxOf Gl tb0 [(0,lp69 n f v1 w1)],_,hA,rfl,hx.1,hx.2,?_,RowsLE.refl _⟩
    refine told_le (onP_le (k:=0) (r:=en69t n f v1 w1 0) hL hL) _ (w69 _ _ n f v1 w1 0 (isP_true ?_))
    have hl:=H.lt
    exact run69 _ n f v1 w1 hn H k 0 (jk69 n f v1 w1) (n+1) (by omega) (by omega)
  · cases h
theorem tb20_ok:AllPure Try.prog Gl tb20:=.cons p69 .nil
theorem p20:PureC Try.prog Gl 20 goesT:=by
  refine pureC_intro tabOK mixed Try.func20 (by kernel_rfl) (by kernel_rfl) fun vs v h' h=>?_
  unfold goesT at h
  split at h
  · rename_i v1 y
    obtain ⟨s,a1,h⟩:=apS_some h
    obtain ⟨hn,h⟩:=sem_br_fail h
    obtain ⟨hy,h⟩:=sem_br_fail h
    obtain ⟨hg,h⟩:=sem_br_fail h
    have:=sem_leaf h
    simp only [Prod.mk.injEq] at this
    obtain ⟨rfl,rfl⟩:=this
    have H:=goesB_iff.1 hg
    have hy:=toN_ofNat hy
    generalize toN y = z at H hy
    subst hy
    obtain ⟨a,n,g,m,x,tt,k0,p,r,nc,C⟩:=s
    have hA:ArgLE [v1,nV z] [.agg [iV a,.sl 6 n (fun i=>eV (g i)),.sl 5 m (fun i=>evV (x i)),iV tt,iV k0,.sl 1 p (fun i=>iV (r i)),.sl 1 nc (fun u=>.sl 1 (C u).1 (fun i=>iV ((C u).2 i)))],nV z]:=fun S w cs hv=>by
      obtain ⟨c,l,rfl,q1,q2⟩:=hv
      exact ⟨c,_,rfl,a1 S w c q1,q2⟩
    have hn:smallN n = true ∧ smallN m = true ∧ smallN p = true ∧ smallN nc = true ∧ (allN nc fun i=>smallN (C i).1) = true:=by simpa [smallS,band] using hn
    obtain ⟨n1,n2,n3,n4,n5⟩:=hn
    have hz:z < n:=H.hz
    have hx:z < m:=H.hx
    have hm:m <= 4611686018427387904:=of_decide_eq_true n2
    have hj:(z+1) % m < m:=Nat.mod_lt _ (by omega)
    have hJ:itmod (wr .i64 (iadd (ofNat z) 1)) (ofNat m) = ofNat ((z+1) % m):=next_mod hx hm
    have hcx:=cx_ok tb20_ok [] (G:=Gl)
    refine ⟨_,cxOf Gl tb20 [],_,hA,rfl,hcx.1,hcx.2,?_,RowsLE.refl _⟩
    cases k1:ieq (g z).kind 1 with
    | true =>
      obtain ⟨q1,q2,q3,q4⟩:=H.rf k1
      refine Eq.trans (w20r _ a n g m x tt k0 p r nc (fun u=>(C u).1) (fun u=>(C u).2) z (ofNat_in hz) (pos_nat (by omega)) (ofNat_in hx) (by rw [hJ]; exact ofNat_in hj) H.src (by rw [hJ]; exact H.dst) H.lo H.hi k1 (by rw [hJ]; exact ofNat_in q1) (by rw [hJ]; exact q2) (by rw [hJ]; exact q3)) ?_
      rw [hJ]
      exact congrArg (fun b=>some (bV b,([]:List Blk))) q4
    | false =>
      cases k2:ieq (g z).kind 2 with
      | true =>
        obtain ⟨q1,q2,q3,q4⟩:=H.fr k1 k2
        refine Eq.trans (w20f _ a n g m x tt k0 p r nc (fun u=>(C u).1) (fun u=>(C u).2) z (ofNat_in hz) (pos_nat (by omega)) (ofNat_in hx) (by rw [hJ]; exact ofNat_in hj) H.src (by rw [hJ]; exact H.dst) H.lo H.hi k1 k2 (in_both H.lo H.hi) (ofNat_in q1) (allN_iff.1 n5 _ (in_lt H.lo H.hi)) (by rw [hJ]; exact q2) (by rw [hJ]; exact q3)) ?_
        rw [hJ]
        exact congrArg (fun b=>some (bV b,([]:List Blk))) q4
      | false =>
        cases k3:ieq (g z).kind 3 with
        | true =>
          obtain ⟨q2,q3,q4⟩:=H.co k1 k2 k3
          refine Eq.trans (w20c _ a n g m x tt k0 p r nc (fun u=>(C u).1) (fun u=>(C u).2) z (ofNat_in hz) (pos_nat (by omega)) (ofNat_in hx) (by rw [hJ]; exact ofNat_in hj) H.src (by rw [hJ]; exact H.dst) H.lo H.hi k1 k2 k3 (in_both H.lo H.hi) (allN_iff.1 n5 _ (in_lt H.lo H.hi)) (by rw [hJ]; exact q2) (by rw [hJ]; exact q3)) ?_
          rw [hJ]
          exact congrArg (fun b=>some (bV b,([]:List Blk))) q4
        | false =>
          obtain ⟨q1,q2,q3⟩:=H.po k1 k2 k3
          refine Eq.trans (w20p _ a n g m x tt k0 p r nc (fun u=>(C u).1) (fun u=>(C u).2) z (ofNat_in hz) (pos_nat (by omega)) (ofNat_in hx) (by rw [hJ]; exact ofNat_in hj) H.src (by rw [hJ]; exact H.dst) H.lo H.hi k1 k2 k3 (by rw [hJ]; exact q1) (by rw [hJ]; exact q2)) ?_
          rw [hJ]
          exact congrArg (fun b=>some (bV b,([]:List Blk))) q3
  · cases h
noncomputable def tb4:List (Nat × (List V->T (V × List Blk))):=[(14,ofT),(18,unitT (bV true)),(19,chkT),(20,goesT)]
theorem tb4_ok:AllPure Try.prog Gl tb4:=.cons p14 <| .cons p18 <| .cons p49 <| .cons p20 .nil
theorem w4e (L:LT) (a:Int) (n:Nat) (f:Nat->E6) (h21:fitN n = true) (h0:ieq (chkE a n f) 0 = false):(finF (evalF tab ⟨callT tb4,L,Gl⟩ Try.f4 [iV a,.sl 6 n fun i=>eV (f i)] [])).sem = some ((bV true),[]):=by
  exact sem_of_path (ds:=bbK 8 251) (cs:=((fun c0 c1 c2=>[c0,c1,(ieq (chkE a n f) 0),(bnot (ieq (chkE a n f) 0)),c0,c1,c2,c2]) (allN n (fun _=>true)) (fitN n) (ieq (chkE a n f) (chkE a n f)))) (by kernel_rfl) (by simp only [h21,h0,allN_true,ieq_self] <;> rfl)
def ent4 (a:Int) (n:Nat) (f:Nat->E6) :St:=⟨(jsV 72 0 (fun _=>undefV) [(0,(iV a)),(1,(.sl 6 n (fun i=>(eV (f i))))),(4,(bV false)),(5,(.ptr 4 0)),(6,(iV 0)),(7,(iV 0)),(10,(nV n)),(11,(iV 0)),(12,(.tup [(.agg [(iV a),(.ref 0),(.ref 1),(iV (ofNat (ttN n (shG n f)))),(iV (ofNat (kkN n (shG n f)))),(.ref 2),(.jref 3)]),(iV 0),(iV 0)])),(13,(iV a)),(14,(.sl 6 n (fun i=>(eV (f i))))),(15,(.tup [(.agg [(iV a),(.ref 0),(.ref 1),(iV (ofNat (ttN n (shG n f)))),(iV (ofNat (kkN n (shG n f)))),(.ref 2),(.jref 3)]),(iV 0),(iV 0)])),(16,(.agg [(iV a),(.ref 0),(.ref 1),(iV (ofNat (ttN n (shG n f)))),(iV (ofNat (kkN n (shG n f)))),(.ref 2),(.jref 3)])),(17,(iV 0)),(18,(iV 0)),(19,(iV 0)),(20,(bV (bnot (ieq 0 0)))),(33,(.sl 6 n (fun i=>(eV (f i))))),(34,(nV n)),(35,(.ptr 4 2)),(36,(.ref 1)),(37,(nV n)),(38,(nV n)),(39,(bV (bnot (ieq (ofNat n) (ofNat n))))),(40,(bV (bnot (ieq (ofNat n) (ofNat n))))),(41,(.ptr 4 1)),(42,(.ref 0)),(43,(nV n)),(44,(nV n)),(45,(bV (bnot (ieq (ofNat n) (ofNat n))))),(46,(bV (bnot (ieq (ofNat n) (ofNat n))))),(47,(bV (bnot (ieq (ofNat n) (ofNat n))))),(48,(.ptr 4 5)),(49,(.ref 2)),(50,(nV n)),(51,(nV n)),(52,(bV (bnot (ieq (ofNat n) (ofNat n))))),(53,(bV (bnot (ieq (ofNat n) (ofNat n))))),(54,(bV (bnot (ieq (ofNat n) (ofNat n))))),(55,(.ptr 4 6)),(56,(.jref 3)),(57,(iV (ofNat (kkN n (shG n f))))),(58,(.ptr 4 4)),(59,(iV (ofNat (kkN n (shG n f))))),(60,(bV (bnot (ieq (ofNat (kkN n (shG n f))) (ofNat (kkN n (shG n f))))))),(61,(bV (bnot (ieq (ofNat (kkN n (shG n f))) (ofNat (kkN n (shG n f)))))))]),[(.row 44 6 n (fun i=>(eV (shG n f i)))),(.row 40 5 n (fun i=>(.agg [(iV ((evF n (shG n f) (fun _=>true) i)).th),(iV ((evF n (shG n f) (fun _=>true) i)).pl),(iV ((evF n (shG n f) (fun _=>true) i)).dir),(iV ((evF n (shG n f) (fun _=>true) i)).loc),(iV ((evF n (shG n f) (fun _=>true) i)).val)]))),(.row 3 1 n (fun i=>(iV (rfF n (shG n f) (fun _=>true) i)))),(.jag (Jag.mk 25 1 (kkN n (shG n f)) (fun _=>.und) 0 3 1 (fun _=>true) (lnN (mbF (shG n f)) (wrF (shG n f)) n) (fun k i=>(iV (ofNat (coN (mbF (shG n f)) (wrF (shG n f)) n k i)))))),(.cells [(iV a),(.ref 0),(.ref 1),(iV (ofNat (ttN n (shG n f)))),(iV (ofNat (kkN n (shG n f)))),(.ref 2),(.jref 3)])]⟩
def lp4 (a:Int) (n:Nat) (f:Nat->E6):Lp:=⟨(bmK 72 0 [4,5,10,11]),5,(bmK 72 0 [4,5,10]),5,18⟩
def st4 (a:Int) (n:Nat) (f:Nat->E6) (b:Nat) (j:Nat->V):St:=⟨(jsV 72 0 j [(4,bV false),(5,.ptr 4 0),(10,nV n),(11,nV b)]),[(.row 44 6 n (fun i=>(eV (shG n f i)))),(.row 40 5 n (fun i=>(.agg [(iV ((evF n (shG n f) (fun _=>true) i)).th),(iV ((evF n (shG n f) (fun _=>true) i)).pl),(iV ((evF n (shG n f) (fun _=>true) i)).dir),(iV ((evF n (shG n f) (fun _=>true) i)).loc),(iV ((evF n (shG n f) (fun _=>true) i)).val)]))),(.row 3 1 n (fun i=>(iV (rfF n (shG n f) (fun _=>true) i)))),(.jag (Jag.mk 25 1 (kkN n (shG n f)) (fun _=>.und) 0 3 1 (fun _=>true) (lnN (mbF (shG n f)) (wrF (shG n f)) n) (fun k i=>(iV (ofNat (coN (mbF (shG n f)) (wrF (shG n f)) n k i)))))),(.cells [(iV a),(.ref 0),(.ref 1),(iV (ofNat (ttN n (shG n f)))),(iV (ofNat (kkN n (shG n f)))),(.ref 2),(.jref 3)])]⟩
def en4e (a:Int) (n:Nat) (f:Nat->E6) (b:Nat):Ex × St:=(.ex 0,⟨(jsV 72 0 (fun _=>.und) [(4,bV false),(5,.ptr 4 0),(10,nV n)]),[(.row 44 6 n (fun i=>(eV (shG n f i)))),(.row 40 5 n (fun i=>(.agg [(iV ((evF n (shG n f) (fun _=>true) i)).th),(iV ((evF n (shG n f) (fun _=>true) i)).pl),(iV ((evF n (shG n f) (fun _=>true) i)).dir),(iV ((evF n (shG n f) (fun _=>true) i)).loc),(iV ((evF n (shG n f) (fun _=>true) i)).val)]))),(.row 3 1 n (fun i=>(iV (rfF n (shG n f) (fun _=>true) i)))),(.jag (Jag.mk 25 1 (kkN n (shG n f)) (fun _=>.und) 0 3 1 (fun _=>true) (lnN (mbF (shG n f)) (wrF (shG n f)) n) (fun k i=>(iV (ofNat (coN (mbF (shG n f)) (wrF (shG n f)) n k i)))))),(.cells [(iV a),(.ref 0),(.ref 1),(iV (ofNat (ttN n (shG n f)))),(iV (ofNat (kkN n (shG n f)))),(.ref 2),(.jref 3)])]⟩)
noncomputable def body4 (L:LT):St->T (Ex × St):=fun st=>evalC tab ⟨callT tb4,L,Gl⟩ (loopBody Try.f4 0) 0 st
section
variable (L:LT) (a:Int) (n:Nat) (f:Nat->E6) (b:Nat)  (j:Nat->V)
include L a n f b j
theorem rt4e (h0:ilt (ofNat b) (ofNat n) = false):roundT (body4 L) (lp4 a n f) (st4 a n f b j) = some ((.ex 0),⟨(jsV 72 0 (fun _=>.und) [(4,(bV false)),(5,(.ptr 4 0)),(10,(nV n))]),[(.row 44 6 n (fun i=>(eV (shG n f i)))),(.row 40 5 n (fun i=>(.agg [(iV ((evF n (shG n f) (fun _=>true) i)).th),(iV ((evF n (shG n f) (fun _=>true) i)).pl),(iV ((evF n (shG n f) (fun _=>true) i)).dir),(iV ((evF n (shG n f) (fun _=>true) i)).loc),(iV ((evF n (shG n f) (fun _=>true) i)).val)]))),(.row 3 1 n (fun i=>(iV (rfF n (shG n f) (fun _=>true) i)))),(.jag (Jag.mk 25 1 (kkN n (shG n f)) (fun _=>.und) 0 3 1 (fun _=>true) (lnN (mbF (shG n f)) (wrF (shG n f)) n) (fun k i=>(iV (ofNat (coN (mbF (shG n f)) (wrF (shG n f)) n k i)))))),(.cells [(iV a),(.ref 0),(.ref 1),(iV (ofNat (ttN n (shG n f)))),(iV (ofNat (kkN n (shG n f)))),(.ref 2),(.jref 3)])]⟩):=by
  exact sem_of_path (ds:=[false]) (cs:=[(ilt (ofNat b) (ofNat n))]) (by kernel_rfl) (by simp only [h0] <;> rfl)
theorem rt4n (h0:ilt (ofNat b) (ofNat n) = true) (h21:jagsLive [(.row 44 6 n (fun i=>(eV (shG n f i)))),(.row 40 5 n (fun i=>(.agg [(iV ((evF n (shG n f) (fun _=>true) i)).th),(iV ((evF n (shG n f) (fun _=>true) i)).pl),(iV ((evF n (shG n f) (fun _=>true) i)).dir),(iV ((evF n (shG n f) (fun _=>true) i)).loc),(iV ((evF n (shG n f) (fun _=>true) i)).val)]))),(.row 3 1 n (fun i=>(iV (rfF n (shG n f) (fun _=>true) i)))),(.jag (Jag.mk 25 1 (kkN n (shG n f)) (fun _=>.und) 0 3 1 (fun _=>true) (lnN (mbF (shG n f)) (wrF (shG n f)) n) (fun k i=>(iV (ofNat (coN (mbF (shG n f)) (wrF (shG n f)) n k i)))))),(.cells [(iV a),(.ref 0),(.ref 1),(iV (ofNat (ttN n (shG n f)))),(iV (ofNat (kkN n (shG n f)))),(.ref 2),(.jref 3)])] = true) (h22:allN (kkN n (shG n f)) (fun i=>(allN (lnN (mbF (shG n f)) (wrF (shG n f)) n i) (fun _=>true))) = true) (h23:smallN n = true) (h24:smallN (kkN n (shG n f)) = true) (h25:allN (kkN n (shG n f)) (fun i=>(smallN (lnN (mbF (shG n f)) (wrF (shG n f)) n i))) = true) (h26:ile 0 (ofNat b) = true) (h27:goesB (Sh7.mk a n (fun i=>(shG n f i)) n (fun i=>(evF n (shG n f) (fun _=>true) i)) (ofNat (ttN n (shG n f))) (ofNat (kkN n (shG n f))) n (rfF n (shG n f) (fun _=>true)) (kkN n (shG n f)) (fun i=>((lnN (mbF (shG n f)) (wrF (shG n f)) n i),(fun i_1=>(ofNat (coN (mbF (shG n f)) (wrF (shG n f)) n i i_1)))))) b = true):roundT (body4 L) (lp4 a n f) (st4 a n f b j) = some (.nm,⟨(jsV 72 0 (fun _=>.und) [(4,(bV false)),(5,(.ptr 4 0)),(10,(nV n)),(11,(iV (wr .i64 (iadd (ofNat b) 1))))]),[(.row 44 6 n (fun i=>(eV (shG n f i)))),(.row 40 5 n (fun i=>(.agg [(iV ((evF n (shG n f) (fun _=>true) i)).th),(iV ((evF n (shG n f) (fun _=>true) i)).pl),(iV ((evF n (shG n f) (fun _=>true) i)).dir),(iV ((evF n (shG n f) (fun _=>true) i)).loc),(iV ((evF n (shG n f) (fun _=>true) i)).val)]))),(.row 3 1 n (fun i=>(iV (rfF n (shG n f) (fun _=>true) i)))),(.jag (Jag.mk 25 1 (kkN n (shG n f)) (fun _=>.und) 0 3 1 (fun _=>true) (lnN (mbF (shG n f)) (wrF (shG n f)) n) (fun k i=>(iV (ofNat (coN (mbF (shG n f)) (wrF (shG n f)) n k i)))))),(.cells [(iV a),(.ref 0),(.ref 1),(iV (ofNat (ttN n (shG n f)))),(iV (ofNat (kkN n (shG n f)))),(.ref 2),(.jref 3)])]⟩):=by
  exact sem_of_path (ds:=bbK 10 511) (cs:=[(ilt (ofNat b) (ofNat n)),(jagsLive [(.row 44 6 n (fun i=>(eV (shG n f i)))),(.row 40 5 n (fun i=>(.agg [(iV ((evF n (shG n f) (fun _=>true) i)).th),(iV ((evF n (shG n f) (fun _=>true) i)).pl),(iV ((evF n (shG n f) (fun _=>true) i)).dir),(iV ((evF n (shG n f) (fun _=>true) i)).loc),(iV ((evF n (shG n f) (fun _=>true) i)).val)]))),(.row 3 1 n (fun i=>(iV (rfF n (shG n f) (fun _=>true) i)))),(.jag (Jag.mk 25 1 (kkN n (shG n f)) (fun _=>.und) 0 3 1 (fun _=>true) (lnN (mbF (shG n f)) (wrF (shG n f)) n) (fun k i=>(iV (ofNat (coN (mbF (shG n f)) (wrF (shG n f)) n k i)))))),(.cells [(iV a),(.ref 0),(.ref 1),(iV (ofNat (ttN n (shG n f)))),(iV (ofNat (kkN n (shG n f)))),(.ref 2),(.jref 3)])]),(allN n (fun _=>true)),(allN n (fun _=>true)),(allN n (fun _=>true)),(allN (kkN n (shG n f)) (fun i=>(allN (lnN (mbF (shG n f)) (wrF (shG n f)) n i) (fun _=>true)))),(band (smallN n) (band (smallN n) (band (smallN n) (band (smallN (kkN n (shG n f))) (allN (kkN n (shG n f)) (fun i=>(smallN (lnN (mbF (shG n f)) (wrF (shG n f)) n i)))))))),(ile 0 (ofNat b)),(goesB (Sh7.mk a n (fun i=>(shG n f i)) n (fun i=>(evF n (shG n f) (fun _=>true) i)) (ofNat (ttN n (shG n f))) (ofNat (kkN n (shG n f))) n (rfF n (shG n f) (fun _=>true)) (kkN n (shG n f)) (fun i=>((lnN (mbF (shG n f)) (wrF (shG n f)) n i),(fun i_1=>(ofNat (coN (mbF (shG n f)) (wrF (shG n f)) n i i_1)))))) b),(bnot true)]) (by kernel_rfl) (by simp only [h0,h21,h22,h23,h24,h25,h26,h27,allN_true,ieq_self] <;> rfl)
end
theorem w4o (L:LT) (p0:PT) (a:Int) (n:Nat) (f:Nat->E6) (h21:fitN n = true) (h0:ieq (chkE a n f) 0 = true) (hp0:p0 (body4 (onP 0 p0 (en4e a n f 0) L)) (ent4 a n f) = true):(finF (evalF tab ⟨callT tb4,(onP 0 p0 (en4e a n f 0) L),Gl⟩ Try.f4 [iV a,.sl 6 n fun i=>eV (f i)] [])).sem = some ((bV true),[]):=by
  exact sem_of_path (ds:=bbK 25 16777223) (cs:=((fun c0=>[(allN n (fun _=>true)),(fitN n),(ieq (chkE a n f) 0),(bnot (ieq 0 0)),c0,c0,c0,c0,c0,c0,c0,c0,c0,c0,c0,c0,c0,c0,c0,c0,c0,c0,c0,(bnot (ieq (ofNat (kkN n (shG n f))) (ofNat (kkN n (shG n f))))),(p0 (body4 (onP 0 p0 (en4e a n f 0) L)) (ent4 a n f))]) (bnot (ieq (ofNat n) (ofNat n))))) (by kernel_rfl) (by simp only [hp0] <;> simp only [h21,h0,allN_true,ieq_self] <;> rfl)
theorem ent4_eq (a:Int) (n:Nat) (f:Nat->E6):ent4 a n f = st4 a n f 0 (fun i=>nth (ent4 a n f).t i):=by kernel_rfl
theorem run4 (L:LT) (a:Int) (n:Nat) (f:Nat->E6) (hn:n <= 16) (hk:kkN n (shG n f) <= 16) (hg:∀ z,z < n->goesB (ofS a n f) z = true):∀ (d b:Nat) (j:Nat->V) (u:Nat),n = b+d->d < u ->
    (iterT (body4 L) (lp4 a n f) u (st4 a n f b j)).sem = some (en4e a n f 0)
  | 0,b,j,u+1,h,_=>by
    have hb:n = b:=by omega
    rw [<- hb]
    exact iter_round (rt4e L a n f n j (ofNat_ge (Nat.le_refl _)))
  | d+1,b,j,u+1,h,h2=>by
    have hl:b < n:=by omega
    have next:=run4 L a n f hn hk hg d (b+1) (fun _=>.und) u (by omega) (by omega)
    have hr:=rt4n L a n f b j (ofNat_lt hl) (by simp [jagsLive]) (all2 () ()) (small_16 hn) (small_16 hk) (allN_iff.2 fun _ _=>small_ln hn) (ofNat_0 _) (hg b hl)
    rw [iter_round hr,goOn_nm,succ_wr hl (by omega)]
    exact next
theorem p4_of (goes_all:∀ (a:Int) (n:Nat) (f:Nat->E6),IsCycle a n f->∀ z,z < n->Goes (ofS a n f) z):PureC Try.prog Gl 4 lawT:=by
  refine pureC_intro tabOK mixed Try.func4 (by kernel_rfl) (by kernel_rfl) fun vs v h' h=>?_
  unfold lawT at h
  split at h
  · rename_i a u
    obtain ⟨n,f,ha,h1⟩:=apL_some h
    obtain ⟨hf,hq⟩:=sem_br_fail h1
    have:=sem_leaf hq
    simp only [Prod.mk.injEq] at this
    obtain ⟨rfl,rfl⟩:=this
    have hx:=cx_ok tb4_ok [(0,lp4 a n f)]
    have hL:=loopsBy_le [(0,lp4 a n f)]
    cases hc:ieq (chkE a n f) 0 with
    | false=>exact ⟨_,cxOf Gl tb4 [(0,lp4 a n f)],_,argI ha,rfl,hx.1,hx.2,w4e _ a n f hf hc,RowsLE.refl _⟩
    | true =>
      have hy:=isCycle_of hc
      have hhi:=hy.hi
      have hk:kkN n (shG n f) <= n:=cntB_le _ _
      refine ⟨_,cxOf Gl tb4 [(0,lp4 a n f)],_,argI ha,rfl,hx.1,hx.2,told_le (onP_le (k:=0) (r:=en4e a n f 0) hL hL) _ (w4o _ _ a n f hf hc (isP_true ?_)),RowsLE.refl _⟩
      show (iterT _ (lp4 a n f) 18 (ent4 a n f)).sem = _
      rw [ent4_eq]
      exact run4 _ a n f hhi (by omega) (fun z hz=>goesB_iff.2 (goes_all a n f hy z hz)) n 0 _ 18 (by omega) (by omega)
  · cases h
end Go.Proofs.Ytjhnfomefcngfaa.Sh
