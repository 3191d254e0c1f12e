/-
  Layer 7: whether lists of numbers, lists of these, shapes are the same. No conditions.
-/
import Derived.Test.YtjhnfomefcngfaaShF
namespace Go.Proofs.Ytjhnfomefcngfaa.Sh
open Go.Sy Ed
open Int (ofNat)
set_option maxHeartbeats 1000000
set_option maxRecDepth 4000
theorem Fx {n:Nat} (h:Ah n = true):n <= 4611686018427387904:=of_decide_eq_true h
theorem By {a b:Bool} (h:a = true):Af a b = b:=by rw [h]; rfl
theorem C7 {a b:Bool} (h:a = false):Af a b = false:=by rw [h]; rfl
theorem DG {n m:Nat} (h:ieq (ofNat n) (ofNat m) = true):n = m:=by
  rw [Dl] at h
  exact of_decide_eq_true h
def Bf (n:Nat) (f:Nat->Int) (m:Nat) (g:Nat->Int):Bool:=Af (ieq (ofNat n) (ofNat m)) (An n fun k=>ieq (f k) (g k))
def RM (n:Nat) (_:Nat->Int) (_:Nat) (_:Nat->Int):Lp:=⟨(bmK 26 0 [0,1,4,5]),0,bmK 26 0 [4],0,n+1⟩
def PL (n:Nat) (f:Nat->Int) (m:Nat) (g:Nat->Int) (b:Nat) (j:Nat->V):St:=⟨(jsV 26 0 j [(0,.sl 1 n (fun i=>iV (f i))),(1,.sl 1 m (fun i=>iV (g i))),(4,bV false),(5,nV b)]),[]⟩
def VD (_:Nat) (_:Nat->Int) (_:Nat) (_:Nat->Int) (_:Nat):Ex × St:=(.rt,⟨(jsV 26 0 (fun _=>.und) [(4,bV false)]),[]⟩)
def VE (_:Nat) (_:Nat->Int) (_:Nat) (_:Nat->Int) (_:Nat):Ex × St:=(.ex 0,⟨(jsV 26 0 (fun _=>.und) [(4,bV false)]),[]⟩)
noncomputable def H3 (L:LT):St->T (Ex × St):=fun st=>A9 tab ⟨Ao tb0,L,Gl⟩ (Av Try.f61 0) 0 st
section
variable (L:LT) (n:Nat) (f:Nat->Int) (m:Nat) (g:Nat->Int) (b:Nat)  (j:Nat->V)
include L n f m g b j
theorem AjX (h0:ilt (ofNat b) (ofNat n) = false):Ai (H3 L) (RM n f m g) (PL n f m g b j) = some ((.ex 0),⟨(jsV 26 0 (fun _=>.und) [(4,(bV false))]),[]⟩):=Aa [false] [ilt (ofNat b) (ofNat n)] (by kernel_rfl) (by simp only [h0] <;> rfl)
theorem AjW (h0:ilt (ofNat b) (ofNat n) = true) (h15:ile 0 (ofNat b) = true) (h1:ilt (ofNat b) (ofNat m) = true) (h2:ieq (f b) (g b) = false):Ai (H3 L) (RM n f m g) (PL n f m g b j) = some (.rt,⟨(jsV 26 0 (fun _=>.und) [(4,(bV false))]),[]⟩):=Aa [true,true,true,true] [ilt (ofNat b) (ofNat n),Af (ile 0 (ofNat b)) (ilt (ofNat b) (ofNat n)),Af (ile 0 (ofNat b)) (ilt (ofNat b) (ofNat m)),Am (ieq (f b) (g b))] (by kernel_rfl) (by simp only [*] <;> rfl)
theorem AjV (h0:ilt (ofNat b) (ofNat n) = true) (h15:ile 0 (ofNat b) = true) (h1:ilt (ofNat b) (ofNat m) = true) (h2:ieq (f b) (g b) = true):Ai (H3 L) (RM n f m g) (PL n f m g b j) = some (.nm,⟨(jsV 26 0 (fun _=>.und) [(0,(.sl 1 n (fun i=>iV (f i)))),(1,(.sl 1 m (fun i=>iV (g i)))),(4,(bV false)),(5,(iV (wr .i64 (Ae (ofNat b) 1))))]),[]⟩):=Aa [true,true,true,false] [ilt (ofNat b) (ofNat n),Af (ile 0 (ofNat b)) (ilt (ofNat b) (ofNat n)),Af (ile 0 (ofNat b)) (ilt (ofNat b) (ofNat m)),Am (ieq (f b) (g b))] (by kernel_rfl) (by simp only [*] <;> rfl)
end
def AbA (n:Nat) (f:Nat->Int) (m:Nat) (g:Nat->Int) :Nat->V:=lkV A7 [(6,(.sl 1 n (fun i=>iV (f i)))),(7,(nV n)),(8,(.sl 1 m (fun i=>iV (g i)))),(9,(nV m)),(10,(bV (Am (ieq (ofNat n) (ofNat m)))))]
theorem Ajv (L:LT) (n:Nat) (f:Nat->Int) (m:Nat) (g:Nat->Int) (h0:ieq (ofNat n) (ofNat m) = false):(A1 (Al tab ⟨Ao tb0,L,Gl⟩ Try.f61 [.sl 1 n (fun i=>iV (f i)),.sl 1 m (fun i=>iV (g i))] [])).sem = some ((bV false),[]):=Aa [true] [Am (ieq (ofNat n) (ofNat m))] (by kernel_rfl) (by simp only [h0] <;> rfl)
section
variable (L:LT) (p0:PT) (n:Nat) (f:Nat->Int) (m:Nat) (g:Nat->Int) (q:Nat)
include L p0 n f m g q
theorem Ajw (h0:ieq (ofNat n) (ofNat m) = true) (hp0:p0 (H3 (onP 0 p0 (VD n f m g q) L)) (PL n f m g 0 (AbA n f m g )) = true):(A1 (Al tab ⟨Ao tb0,onP 0 p0 (VD n f m g q) L,Gl⟩ Try.f61 [.sl 1 n (fun i=>iV (f i)),.sl 1 m (fun i=>iV (g i))] [])).sem = some ((bV false),[]):=Aa [false,true] [Am (ieq (ofNat n) (ofNat m)),p0 (H3 (onP 0 p0 (VD n f m g q) L)) (PL n f m g 0 (AbA n f m g ))] (by kernel_rfl) (by simp only [hp0] <;> simp only [h0] <;> rfl)
theorem Ajx (h0:ieq (ofNat n) (ofNat m) = true) (hp0:p0 (H3 (onP 0 p0 (VE n f m g q) L)) (PL n f m g 0 (AbA n f m g )) = true):(A1 (Al tab ⟨Ao tb0,onP 0 p0 (VE n f m g q) L,Gl⟩ Try.f61 [.sl 1 n (fun i=>iV (f i)),.sl 1 m (fun i=>iV (g i))] [])).sem = some ((bV true),[]):=Aa [false,true] [Am (ieq (ofNat n) (ofNat m)),p0 (H3 (onP 0 p0 (VE n f m g q) L)) (PL n f m g 0 (AbA n f m g ))] (by kernel_rfl) (by simp only [hp0] <;> simp only [h0] <;> rfl)
end
theorem Acf (L:LT) (n:Nat) (f:Nat->Int) (m:Nat) (g:Nat->Int) (hn:n <= 4611686018427387904) (hm:n = m):∀ (e b:Nat) (j:Nat->V) (q:Nat),n = b+e->e < q->(∀ k,k < b->ieq (f k) (g k) = true) ->
    ((A3 (H3 L) (RM n f m g) q (PL n f m g b j)).sem = some (VD n f m g 0) ∧ (An n fun k=>ieq (f k) (g k)) = false) ∨ ((A3 (H3 L) (RM n f m g) q (PL n f m g b j)).sem = some (VE n f m g 0) ∧ (An n fun k=>ieq (f k) (g k)) = true)
  | 0,b,j,q+1,h,_,hb=>by
    have:n = b:=by omega
    subst this
    exact .inr ⟨Ab (AjX L n f m g n j (A8 (Nat.le_refl _))),AA.2 hb⟩
  | e+1,b,j,q+1,h,h2,hb=>by
    have hl:b < n:=by omega
    cases hp:ieq (f b) (g b) with
    | false =>
      refine .inl ⟨?_,?_⟩
      · rw [Ab (AjW L n f m g b j (ofNat_lt hl) (AJ b) (ofNat_lt (by omega)) hp),Dm]
        rfl
      · cases ha:(An n fun k=>ieq (f k) (g k)) with
        | false=>rfl
        | true =>
          have:=AA.1 ha b hl
          rw [hp] at this
          cases this
    | true =>
      have next:=Acf L n f m g hn hm e (b+1) (fun _=>.und) q (by omega) (by omega) fun k hk=>by
        by_cases hki:k = b
        · rw [hki]; exact hp
        · exact hb k (by omega)
      rw [Ab (AjV L n f m g b j (ofNat_lt hl) (AJ b) (ofNat_lt (by omega)) hp),Aw,Aq hl hn]
      exact next
def HU:List V->T (V × List Blk)
  | [v,u]=>apG WR v fun n f=>apG WR u fun m g=>.br (Ah n) (.leaf (bV (Bf n f m g),[])) .fail
  | _=>.fail
theorem p61:AD Try.prog Gl 61 HU:=by
  refine A5 AO AP Try.func61 (by kernel_rfl) (by kernel_rfl) fun vs v h' h=>?_
  unfold HU at h
  split at h
  · rename_i v1 u1
    obtain ⟨n,f,a1,h⟩:=BV h
    obtain ⟨m,g,a2,h⟩:=BV h
    obtain ⟨hn,h⟩:=Ag h
    have:=Ac h
    simp only [Prod.mk.injEq] at this
    obtain ⟨rfl,rfl⟩:=this
    have hA:BA [v1,u1] [.sl 1 n (fun i=>iV (f i)),.sl 1 m (fun i=>iV (g i))]:=fun S w cs hv=>by
      obtain ⟨c,l,rfl,q1,c',l',rfl,q2,q3⟩:=hv
      exact ⟨c,_,rfl,a1 S w c q1,c',l',rfl,a2 S w c' q2,q3⟩
    have hx:=AQ CU [(0,RM n f m g)] (G:=Gl)
    have hL:=AC [(0,RM n f m g)]
    refine ⟨_,AR Gl tb0 [(0,RM n f m g)],_,hA,rfl,hx.1,hx.2,?_,AB.refl _⟩
    cases hl:ieq (ofNat n) (ofNat m) with
    | false =>
      rw [show Bf n f m g = false from C7 hl]
      exact Ajv _ n f m g hl
    | true =>
      rw [show Bf n f m g = _ from By hl]
      have h0:=fun L j=>Acf L n f m g (Fx hn) (DG hl) n 0 j (n+1) (by omega) (by omega) (fun k hk=>absurd hk (Nat.not_lt_zero _))
      cases ha:(An n fun k=>ieq (f k) (g k)) with
      | false=>exact A6 (Ax hL hL) _ (Ajw _ _ n f m g 0 hl (Ak ((h0 _ _).elim (fun h=>h.1) fun h=>by have:=h.2; rw [ha] at this; cases this)))
      | true=>exact A6 (Ax hL hL) _ (Ajx _ _ n f m g 0 hl (Ak ((h0 _ _).elim (fun h=>by have:=h.2; rw [ha] at this; cases this) fun h=>h.1)))
  · cases h
def BM (n:Nat) (ln:Nat->Nat) (co:Nat->Nat->Int) (m:Nat) (ln':Nat->Nat) (co':Nat->Nat->Int):Bool:=Af (ieq (ofNat n) (ofNat m)) (An n fun k=>Bf (ln k) (co k) (ln' k) (co' k))
noncomputable def Wd:List (Nat × (List V->T (V × List Blk))):=[(61,HU)]
theorem Aau:AF Try.prog Gl Wd:=.cons p61 .nil
def RL (n:Nat) (_:Nat->Nat) (_:Nat->Nat->Int) (_:Nat) (_:Nat->Nat) (_:Nat->Nat->Int):Lp:=⟨(bmK 27 0 [0,1,4,5]),0,bmK 27 0 [4],0,n+1⟩
def PK (n:Nat) (ln:Nat->Nat) (co:Nat->Nat->Int) (m:Nat) (ln':Nat->Nat) (co':Nat->Nat->Int) (b:Nat) (j:Nat->V):St:=⟨(jsV 27 0 j [(0,.sl 1 n (fun u=>.sl 1 (ln u) (fun i=>iV (co u i)))),(1,.sl 1 m (fun u=>.sl 1 (ln' u) (fun i=>iV (co' u i)))),(4,bV false),(5,nV b)]),[]⟩
def VB (_:Nat) (_:Nat->Nat) (_:Nat->Nat->Int) (_:Nat) (_:Nat->Nat) (_:Nat->Nat->Int) (_:Nat):Ex × St:=(.rt,⟨(jsV 27 0 (fun _=>.und) [(4,bV false)]),[]⟩)
def VC (_:Nat) (_:Nat->Nat) (_:Nat->Nat->Int) (_:Nat) (_:Nat->Nat) (_:Nat->Nat->Int) (_:Nat):Ex × St:=(.ex 0,⟨(jsV 27 0 (fun _=>.und) [(4,bV false)]),[]⟩)
noncomputable def H2 (L:LT):St->T (Ex × St):=fun st=>A9 tab ⟨Ao Wd,L,Gl⟩ (Av Try.f62 0) 0 st
section
variable (L:LT) (n:Nat) (ln:Nat->Nat) (co:Nat->Nat->Int) (m:Nat) (ln':Nat->Nat) (co':Nat->Nat->Int) (b:Nat)  (j:Nat->V)
include L n ln co m ln' co' b j
theorem AjU (h0:ilt (ofNat b) (ofNat n) = false):Ai (H2 L) (RL n ln co m ln' co') (PK n ln co m ln' co' b j) = some ((.ex 0),⟨(jsV 27 0 (fun _=>.und) [(4,(bV false))]),[]⟩):=Aa [false] [ilt (ofNat b) (ofNat n)] (by kernel_rfl) (by simp only [h0] <;> rfl)
theorem AjT (h0:ilt (ofNat b) (ofNat n) = true) (h15:ile 0 (ofNat b) = true) (h1:ilt (ofNat b) (ofNat m) = true) (h16:Ah (ln b) = true) (h2:Bf (ln b) (co b) (ln' b) (co' b) = false):Ai (H2 L) (RL n ln co m ln' co') (PK n ln co m ln' co' b j) = some (.rt,⟨(jsV 27 0 (fun _=>.und) [(4,(bV false))]),[]⟩):=Aa (bbK 7 127) [ilt (ofNat b) (ofNat n),Af (ile 0 (ofNat b)) (ilt (ofNat b) (ofNat n)),Af (ile 0 (ofNat b)) (ilt (ofNat b) (ofNat m)),An (ln b) (fun _=>true),An (ln' b) (fun _=>true),Ah (ln b),Am (Bf (ln b) (co b) (ln' b) (co' b))] (by kernel_rfl) (by simp only [*,Ar] <;> rfl)
theorem AjS (h0:ilt (ofNat b) (ofNat n) = true) (h15:ile 0 (ofNat b) = true) (h1:ilt (ofNat b) (ofNat m) = true) (h16:Ah (ln b) = true) (h2:Bf (ln b) (co b) (ln' b) (co' b) = true):Ai (H2 L) (RL n ln co m ln' co') (PK n ln co m ln' co' b j) = some (.nm,⟨(jsV 27 0 (fun _=>.und) [(0,(.sl 1 n (fun u=>.sl 1 (ln u) (fun i=>iV (co u i))))),(1,(.sl 1 m (fun u=>.sl 1 (ln' u) (fun i=>iV (co' u i))))),(4,(bV false)),(5,(iV (wr .i64 (Ae (ofNat b) 1))))]),[]⟩):=Aa (bbK 7 63) [ilt (ofNat b) (ofNat n),Af (ile 0 (ofNat b)) (ilt (ofNat b) (ofNat n)),Af (ile 0 (ofNat b)) (ilt (ofNat b) (ofNat m)),An (ln b) (fun _=>true),An (ln' b) (fun _=>true),Ah (ln b),Am (Bf (ln b) (co b) (ln' b) (co' b))] (by kernel_rfl) (by simp only [*,Ar] <;> rfl)
end
def Ab9 (n:Nat) (ln:Nat->Nat) (co:Nat->Nat->Int) (m:Nat) (ln':Nat->Nat) (co':Nat->Nat->Int) :Nat->V:=lkV A7 [(6,(.sl 1 n (fun u=>.sl 1 (ln u) (fun i=>iV (co u i))))),(7,(nV n)),(8,(.sl 1 m (fun u=>.sl 1 (ln' u) (fun i=>iV (co' u i))))),(9,(nV m)),(10,(bV (Am (ieq (ofNat n) (ofNat m)))))]
theorem Ajs (L:LT) (n:Nat) (ln:Nat->Nat) (co:Nat->Nat->Int) (m:Nat) (ln':Nat->Nat) (co':Nat->Nat->Int) (h0:ieq (ofNat n) (ofNat m) = false):(A1 (Al tab ⟨Ao Wd,L,Gl⟩ Try.f62 [.sl 1 n (fun u=>.sl 1 (ln u) (fun i=>iV (co u i))),.sl 1 m (fun u=>.sl 1 (ln' u) (fun i=>iV (co' u i)))] [])).sem = some ((bV false),[]):=Aa [true] [Am (ieq (ofNat n) (ofNat m))] (by kernel_rfl) (by simp only [h0] <;> rfl)
section
variable (L:LT) (p0:PT) (n:Nat) (ln:Nat->Nat) (co:Nat->Nat->Int) (m:Nat) (ln':Nat->Nat) (co':Nat->Nat->Int) (q:Nat)
include L p0 n ln co m ln' co' q
theorem Ajt (h0:ieq (ofNat n) (ofNat m) = true) (hp0:p0 (H2 (onP 0 p0 (VB n ln co m ln' co' q) L)) (PK n ln co m ln' co' 0 (Ab9 n ln co m ln' co' )) = true):(A1 (Al tab ⟨Ao Wd,onP 0 p0 (VB n ln co m ln' co' q) L,Gl⟩ Try.f62 [.sl 1 n (fun u=>.sl 1 (ln u) (fun i=>iV (co u i))),.sl 1 m (fun u=>.sl 1 (ln' u) (fun i=>iV (co' u i)))] [])).sem = some ((bV false),[]):=Aa [false,true] [Am (ieq (ofNat n) (ofNat m)),p0 (H2 (onP 0 p0 (VB n ln co m ln' co' q) L)) (PK n ln co m ln' co' 0 (Ab9 n ln co m ln' co' ))] (by kernel_rfl) (by simp only [hp0] <;> simp only [h0] <;> rfl)
theorem Aju (h0:ieq (ofNat n) (ofNat m) = true) (hp0:p0 (H2 (onP 0 p0 (VC n ln co m ln' co' q) L)) (PK n ln co m ln' co' 0 (Ab9 n ln co m ln' co' )) = true):(A1 (Al tab ⟨Ao Wd,onP 0 p0 (VC n ln co m ln' co' q) L,Gl⟩ Try.f62 [.sl 1 n (fun u=>.sl 1 (ln u) (fun i=>iV (co u i))),.sl 1 m (fun u=>.sl 1 (ln' u) (fun i=>iV (co' u i)))] [])).sem = some ((bV true),[]):=Aa [false,true] [Am (ieq (ofNat n) (ofNat m)),p0 (H2 (onP 0 p0 (VC n ln co m ln' co' q) L)) (PK n ln co m ln' co' 0 (Ab9 n ln co m ln' co' ))] (by kernel_rfl) (by simp only [hp0] <;> simp only [h0] <;> rfl)
end
theorem Ace (L:LT) (n:Nat) (ln:Nat->Nat) (co:Nat->Nat->Int) (m:Nat) (ln':Nat->Nat) (co':Nat->Nat->Int) (hn:n <= 4611686018427387904) (hm:n = m) (hs:∀ k,k < n->Ah (ln k) = true):∀ (e b:Nat) (j:Nat->V) (q:Nat),n = b+e->e < q->(∀ k,k < b->Bf (ln k) (co k) (ln' k) (co' k) = true) ->
    ((A3 (H2 L) (RL n ln co m ln' co') q (PK n ln co m ln' co' b j)).sem = some (VB n ln co m ln' co' 0) ∧ (An n fun k=>Bf (ln k) (co k) (ln' k) (co' k)) = false) ∨ ((A3 (H2 L) (RL n ln co m ln' co') q (PK n ln co m ln' co' b j)).sem = some (VC n ln co m ln' co' 0) ∧ (An n fun k=>Bf (ln k) (co k) (ln' k) (co' k)) = true)
  | 0,b,j,q+1,h,_,hb=>by
    have:n = b:=by omega
    subst this
    exact .inr ⟨Ab (AjU L n ln co m ln' co' n j (A8 (Nat.le_refl _))),AA.2 hb⟩
  | e+1,b,j,q+1,h,h2,hb=>by
    have hl:b < n:=by omega
    cases hp:Bf (ln b) (co b) (ln' b) (co' b) with
    | false =>
      refine .inl ⟨?_,?_⟩
      · rw [Ab (AjT L n ln co m ln' co' b j (ofNat_lt hl) (AJ b) (ofNat_lt (by omega)) (hs b hl) hp),Dm]
        rfl
      · cases ha:(An n fun k=>Bf (ln k) (co k) (ln' k) (co' k)) with
        | false=>rfl
        | true =>
          have:=AA.1 ha b hl
          rw [hp] at this
          cases this
    | true =>
      have next:=Ace L n ln co m ln' co' hn hm hs e (b+1) (fun _=>.und) q (by omega) (by omega) fun k hk=>by
        by_cases hki:k = b
        · rw [hki]; exact hp
        · exact hb k (by omega)
      rw [Ab (AjS L n ln co m ln' co' b j (ofNat_lt hl) (AJ b) (ofNat_lt (by omega)) (hs b hl) hp),Aw,Aq hl hn]
      exact next
def T0:List V->T (V × List Blk)
  | [v,u]=>apG WQ v fun n C=>apG WQ u fun m D=>.br (Ah n) (.br (An n fun i=>Ah (C i).1) (.leaf (bV (BM n (fun i=>(C i).1) (fun i=>(C i).2) m (fun i=>(D i).1) (fun i=>(D i).2)),[])) .fail) .fail
  | _=>.fail
theorem p62:AD Try.prog Gl 62 T0:=by
  refine A5 AO AP Try.func62 (by kernel_rfl) (by kernel_rfl) fun vs v h' h=>?_
  unfold T0 at h
  split at h
  · rename_i v1 u1
    obtain ⟨n,C,a1,h⟩:=BV h
    obtain ⟨m,D,a2,h⟩:=BV h
    obtain ⟨hn,h⟩:=Ag h
    obtain ⟨hs,h⟩:=Ag h
    have hs:=AA.1 hs
    have:=Ac h
    simp only [Prod.mk.injEq] at this
    obtain ⟨rfl,rfl⟩:=this
    have hA:BA [v1,u1] [.sl 1 n (fun u=>.sl 1 (C u).1 (fun i=>iV ((C u).2 i))),.sl 1 m (fun u=>.sl 1 (D u).1 (fun i=>iV ((D u).2 i)))]:=fun S w cs hv=>by
      obtain ⟨c,l,rfl,q1,c',l',rfl,q2,q3⟩:=hv
      exact ⟨c,_,rfl,a1 S w c q1,c',l',rfl,a2 S w c' q2,q3⟩
    generalize hln:(fun i=>(C i).1) = ln
    generalize hco:(fun i=>(C i).2) = co
    generalize hln':(fun i=>(D i).1) = ln'
    generalize hco':(fun i=>(D i).2) = co'
    have hx:=AQ Aau [(0,RL n ln co m ln' co')] (G:=Gl)
    have hL:=AC [(0,RL n ln co m ln' co')]
    refine ⟨_,AR Gl Wd [(0,RL n ln co m ln' co')],_,hA,rfl,hx.1,hx.2,?_,AB.refl _⟩
    have hs:∀ k,k < n->Ah (ln k) = true:=fun k hk=>by rw [<- hln]; exact hs k hk
    have e1:∀ u,(C u).1 = ln u:=fun u=>by rw [<- hln]
    have e2:∀ u,(C u).2 = co u:=fun u=>by rw [<- hco]
    have e3:∀ u,(D u).1 = ln' u:=fun u=>by rw [<- hln']
    have e4:∀ u,(D u).2 = co' u:=fun u=>by rw [<- hco']
    simp only [e1,e2,e3,e4]
    cases hl:ieq (ofNat n) (ofNat m) with
    | false =>
      rw [show BM n ln co m ln' co' = false from C7 hl]
      exact Ajs _ n ln co m ln' co' hl
    | true =>
      rw [show BM n ln co m ln' co' = _ from By hl]
      have h0:=fun L j=>Ace L n ln co m ln' co' (Fx hn) (DG hl) hs n 0 j (n+1) (by omega) (by omega) (fun k hk=>absurd hk (Nat.not_lt_zero _))
      cases ha:(An n fun k=>Bf (ln k) (co k) (ln' k) (co' k)) with
      | false=>exact A6 (Ax hL hL) _ (Ajt _ _ n ln co m ln' co' 0 hl (Ak ((h0 _ _).elim (fun h=>h.1) fun h=>by have:=h.2; rw [ha] at this; cases this)))
      | true=>exact A6 (Ax hL hL) _ (Aju _ _ n ln co m ln' co' 0 hl (Ak ((h0 _ _).elim (fun h=>by have:=h.2; rw [ha] at this; cases this) fun h=>h.1)))
  · cases h
def Co (e e':Ev5):Bool:=Af (ieq e.th e'.th) (Af (ieq e.pl e'.pl) (Af (ieq e.dir e'.dir) (Af (ieq e.loc e'.loc) (Af (ieq e.val e'.val) true))))
noncomputable def Mh:List (Nat × (List V->T (V × List Blk))):=[(60,AbY),(61,HU),(62,T0)]
theorem Aa2:AF Try.prog Gl Mh:=.cons p42 <| .cons p61 <| .cons p62 .nil
section
variable (L:LT) (a:Int) (n:Nat) (g:Nat->E6) (m:Nat) (x:Nat->Ev5) (t k:Int) (p:Nat) (r:Nat->Int) (q:Nat) (ln:Nat->Nat) (co:Nat->Nat->Int) (a':Int) (n':Nat) (g':Nat->E6) (m':Nat) (x':Nat->Ev5) (t' k':Int) (p':Nat) (r':Nat->Int) (q':Nat) (ln':Nat->Nat) (co':Nat->Nat->Int)
include L a n g m x t k p r q ln co a' n' g' m' x' t' k' p' r' q' ln' co'
theorem AgU (h0:ieq a a' = false):(A1 (Al tab ⟨Ao Mh,L,Gl⟩ Try.f16 [.agg (shL a n g m x t k p r q ln co),.agg (shL a' n' g' m' x' t' k' p' r' q' ln' co')] [])).sem = some ((bV false),[]):=Aa (bbK 42 4398046511103) ((fun c0 c1=>[c0,c0,c0,c0,c0,c0,c1,c1,c1,c1,c1,c1,c1,c1,c1,c1,c1,c1,c1,c1,c1,c1,c1,c1,c1,c1,c1,c1,c1,c1,c1,c1,c1,c1,c1,c1,c1,c1,c1,c1,c1,c1]) (Am (ieq a a')) (true)) (by kernel_rfl) (by simp only [h0] <;> rfl)
theorem AgT (h0:ieq a a' = true) (h1:ieq t t' = false):(A1 (Al tab ⟨Ao Mh,L,Gl⟩ Try.f16 [.agg (shL a n g m x t k p r q ln co),.agg (shL a' n' g' m' x' t' k' p' r' q' ln' co')] [])).sem = some ((bV false),[]):=Aa (bbK 42 4398046511040) ((fun c0 c1 c2=>[c0,c0,c0,c0,c0,c0,c1,c1,c1,c1,c1,c1,c2,c2,c2,c2,c2,c2,c2,c2,c2,c2,c2,c2,c2,c2,c2,c2,c2,c2,c2,c2,c2,c2,c2,c2,c2,c2,c2,c2,c2,c2]) (Am (ieq a a')) (Am (ieq t t')) (true)) (by kernel_rfl) (by simp only [h0,h1] <;> rfl)
theorem AgS (h0:ieq a a' = true) (h1:ieq t t' = true) (h2:ieq k k' = false):(A1 (Al tab ⟨Ao Mh,L,Gl⟩ Try.f16 [.agg (shL a n g m x t k p r q ln co),.agg (shL a' n' g' m' x' t' k' p' r' q' ln' co')] [])).sem = some ((bV false),[]):=Aa (bbK 42 4398046507008) ((fun c0 c1 c2 c3=>[c0,c0,c0,c0,c0,c0,c1,c1,c1,c1,c1,c1,c2,c2,c2,c2,c2,c2,c2,c3,c3,c3,c3,c3,c3,c3,c3,c3,c3,c3,c3,c3,c3,c3,c3,c3,c3,c3,c3,c3,c3,c3]) (Am (ieq a a')) (Am (ieq t t')) (Am (ieq k k')) (true)) (by kernel_rfl) (by simp only [*] <;> rfl)
theorem AgR (h0:ieq a a' = true) (h1:ieq t t' = true) (h2:ieq k k' = true) (h16:Ah n = true) (h3:Bn n g n' g' = false):(A1 (Al tab ⟨Ao Mh,L,Gl⟩ Try.f16 [.agg (shL a n g m x t k p r q ln co),.agg (shL a' n' g' m' x' t' k' p' r' q' ln' co')] [])).sem = some ((bV false),[]):=Aa (bbK 45 35184368812032) ((fun c0 c1 c2 c3 c4=>[c0,c0,c0,c0,c0,c0,c1,c1,c1,c1,c1,c1,c2,c2,c2,c2,c2,An n (fun _=>true),An n' (fun _=>true),Ah n,c2,c2,c3,c3,c3,c3,c3,c3,c3,c3,c4,c4,c4,c4,c4,c4,c4,c4,c4,c4,c4,c4,c4,c4,c4]) (Am (ieq a a')) (Am (ieq t t')) (Am (ieq k k')) (Am (Bn n g n' g')) (true)) (by kernel_rfl) (by simp only [*,Ar] <;> rfl)
theorem AgQ (h0:ieq a a' = true) (h1:ieq t t' = true) (h2:ieq k k' = true) (h17:Ah n = true) (h3:Bn n g n' g' = true) (h4:ieq (ofNat m) (ofNat m') = false):(A1 (Al tab ⟨Ao Mh,L,Gl⟩ Try.f16 [.agg (shL a n g m x t k p r q ln co),.agg (shL a' n' g' m' x' t' k' p' r' q' ln' co')] [])).sem = some ((bV false),[]):=Aa (bbK 45 35183299264512) ((fun c0 c1 c2 c3 c4 c5=>[c0,c0,c0,c0,c0,c0,c1,c1,c1,c1,c1,c1,c2,c2,c2,c2,c2,An n (fun _=>true),An n' (fun _=>true),Ah n,c2,c2,c3,c3,c3,c3,c3,c3,c3,c3,c4,c4,c4,c4,c4,c4,c4,c5,c5,c5,c5,c5,c5,c5,c5]) (Am (ieq a a')) (Am (ieq t t')) (Am (ieq k k')) (Am (Bn n g n' g')) (Am (ieq (ofNat m) (ofNat m'))) (true)) (by kernel_rfl) (by simp only [*,Ar] <;> rfl)
theorem AgP (h0:ieq a a' = true) (h1:ieq t t' = true) (h2:ieq k k' = true) (h18:Ah n = true) (h3:Bn n g n' g' = true) (h4:ieq (ofNat m) (ofNat m') = true) (h19:Ah p = true) (h5:Bf p r p' r' = false):(A1 (Al tab ⟨Ao Mh,L,Gl⟩ Try.f16 [.agg (shL a n g m x t k p r q ln co),.agg (shL a' n' g' m' x' t' k' p' r' q' ln' co')] [])).sem = some ((bV false),[]):=Aa (bbK 48 280615984168960) ((fun c0 c1 c2 c3 c4 c5=>[c0,c0,c0,c0,c0,c0,c1,c1,c1,c1,c1,c1,c2,c2,c2,c2,c2,An n (fun _=>true),An n' (fun _=>true),Ah n,c2,c2,c3,c3,c3,c3,c3,c3,c3,c3,c4,c4,c4,c4,c4,An p (fun _=>true),An p' (fun _=>true),Ah p,c4,c4,c5,c5,c5,c5,c5,c5,c5,true]) (Am (ieq a a')) (Am (ieq t t')) (Am (ieq k k')) (Am (Bn n g n' g')) (Am (ieq (ofNat m) (ofNat m'))) (Am (Bf p r p' r'))) (by kernel_rfl) (by simp only [*,Ar] <;> rfl)
theorem AgO (h0:ieq a a' = true) (h1:ieq t t' = true) (h2:ieq k k' = true) (h19:Ah n = true) (h3:Bn n g n' g' = true) (h4:ieq (ofNat m) (ofNat m') = true) (h20:Ah p = true) (h5:Bf p r p' r' = true) (h21:An q (fun i=>An (ln i) (fun _=>true)) = true) (h22:An q' (fun i=>An (ln' i) (fun _=>true)) = true) (h23:Ah q = true) (h24:An q (fun i=>Ah (ln i)) = true) (h6:BM q ln (fun i i_1=>co i i_1) q' ln' (fun i i_1=>co' i i_1) = false):(A1 (Al tab ⟨Ao Mh,L,Gl⟩ Try.f16 [.agg (shL a n g m x t k p r q ln co),.agg (shL a' n' g' m' x' t' k' p' r' q' ln' co')] [])).sem = some ((bV false),[]):=Aa (bbK 52 2779805914103808) ((fun c0 c1 c2 c3 c4 c5=>[c0,c0,c0,c0,c0,c0,c1,c1,c1,c1,c1,c1,c2,c2,c2,c2,c2,An n (fun _=>true),An n' (fun _=>true),Ah n,c2,c2,c3,c3,c3,c3,c3,c3,c3,c3,c4,c4,c4,c4,c4,An p (fun _=>true),An p' (fun _=>true),Ah p,c4,c4,c5,c5,c5,c5,c5,An q (fun i=>An (ln i) (fun _=>true)),An q' (fun i=>An (ln' i) (fun _=>true)),Ah q,An q (fun i=>Ah (ln i)),c5,c5,Am (BM q ln (fun i i_1=>co i i_1) q' ln' (fun i i_1=>co' i i_1))]) (Am (ieq a a')) (Am (ieq t t')) (Am (ieq k k')) (Am (Bn n g n' g')) (Am (ieq (ofNat m) (ofNat m'))) (Am (Bf p r p' r'))) (by kernel_rfl) (by simp only [*,Ar] <;> rfl)
end
def RO (_:Int) (_:Nat) (_:Nat->E6) (m:Nat) (_:Nat->Ev5) (_ _:Int) (_:Nat) (_:Nat->Int) (_:Nat) (_:Nat->Nat) (_:Nat->Nat->Int) (_:Int) (_:Nat) (_:Nat->E6) (_:Nat) (_:Nat->Ev5) (_ _:Int) (_:Nat) (_:Nat->Int) (_:Nat) (_:Nat->Nat) (_:Nat->Nat->Int):Lp:=⟨(bmK 76 0 [2,3,4,5]),2,bmK 76 0 [4],0,m+1⟩
def PM (a:Int) (n:Nat) (g:Nat->E6) (m:Nat) (x:Nat->Ev5) (t k:Int) (p:Nat) (r:Nat->Int) (q:Nat) (ln:Nat->Nat) (co:Nat->Nat->Int) (a':Int) (n':Nat) (g':Nat->E6) (m':Nat) (x':Nat->Ev5) (t' k':Int) (p':Nat) (r':Nat->Int) (q':Nat) (ln':Nat->Nat) (co':Nat->Nat->Int) (b:Nat) (j:Nat->V):St:=⟨(jsV 76 0 j [(2,.ptr 0 0),(3,.ptr 1 0),(4,bV false),(5,nV b)]),[.cells (shL a n g m x t k p r q ln co),.cells (shL a' n' g' m' x' t' k' p' r' q' ln' co')]⟩
def VI (_:Int) (_:Nat) (_:Nat->E6) (_:Nat) (_:Nat->Ev5) (_ _:Int) (_:Nat) (_:Nat->Int) (_:Nat) (_:Nat->Nat) (_:Nat->Nat->Int) (_:Int) (_:Nat) (_:Nat->E6) (_:Nat) (_:Nat->Ev5) (_ _:Int) (_:Nat) (_:Nat->Int) (_:Nat) (_:Nat->Nat) (_:Nat->Nat->Int) (_:Nat):Ex × St:=(.rt,⟨(jsV 76 0 (fun _=>.und) [(4,bV false)]),[]⟩)
def VJ (_:Int) (_:Nat) (_:Nat->E6) (_:Nat) (_:Nat->Ev5) (_ _:Int) (_:Nat) (_:Nat->Int) (_:Nat) (_:Nat->Nat) (_:Nat->Nat->Int) (_:Int) (_:Nat) (_:Nat->E6) (_:Nat) (_:Nat->Ev5) (_ _:Int) (_:Nat) (_:Nat->Int) (_:Nat) (_:Nat->Nat) (_:Nat->Nat->Int) (_:Nat):Ex × St:=(.ex 0,⟨(jsV 76 0 (fun _=>.und) [(4,bV false)]),[]⟩)
noncomputable def H5 (L:LT):St->T (Ex × St):=fun st=>A9 tab ⟨Ao Mh,L,Gl⟩ (Av Try.f16 0) 0 st
section
variable (L:LT) (a:Int) (n:Nat) (g:Nat->E6) (m:Nat) (x:Nat->Ev5) (t k:Int) (p:Nat) (r:Nat->Int) (q:Nat) (ln:Nat->Nat) (co:Nat->Nat->Int) (a':Int) (n':Nat) (g':Nat->E6) (m':Nat) (x':Nat->Ev5) (t' k':Int) (p':Nat) (r':Nat->Int) (q':Nat) (ln':Nat->Nat) (co':Nat->Nat->Int) (b:Nat)  (j:Nat->V)
include L a n g m x t k p r q ln co a' n' g' m' x' t' k' p' r' q' ln' co' b j
theorem Akh (h0:ilt (ofNat b) (ofNat m) = false):Ai (H5 L) (RO a n g m x t k p r q ln co a' n' g' m' x' t' k' p' r' q' ln' co') (PM a n g m x t k p r q ln co a' n' g' m' x' t' k' p' r' q' ln' co' b j) = some ((.ex 0),⟨(jsV 76 0 (fun _=>.und) [(4,(bV false))]),[]⟩):=Aa [false] [ilt (ofNat b) (ofNat m)] (by kernel_rfl) (by simp only [h0] <;> rfl)
theorem Akf (h0:ilt (ofNat b) (ofNat m) = true) (h15:ile 0 (ofNat b) = true) (h1:ilt (ofNat b) (ofNat m') = true) (h2:Af (ieq ((x b)).th ((x' b)).th) (Af (ieq ((x b)).pl ((x' b)).pl) (Af (ieq ((x b)).dir ((x' b)).dir) (Af (ieq ((x b)).loc ((x' b)).loc) (Af (ieq ((x b)).val ((x' b)).val) true)))) = true):Ai (H5 L) (RO a n g m x t k p r q ln co a' n' g' m' x' t' k' p' r' q' ln' co') (PM a n g m x t k p r q ln co a' n' g' m' x' t' k' p' r' q' ln' co' b j) = some (.nm,⟨(jsV 76 0 (fun _=>.und) [(2,(.ptr 0 0)),(3,(.ptr 1 0)),(4,(bV false)),(5,(iV (wr .i64 (Ae (ofNat b) 1))))]),[.cells (shL a n g m x t k p r q ln co),.cells (shL a' n' g' m' x' t' k' p' r' q' ln' co')]⟩):=Aa [true,true,true,false] [ilt (ofNat b) (ofNat m),Af (ile 0 (ofNat b)) (ilt (ofNat b) (ofNat m)),Af (ile 0 (ofNat b)) (ilt (ofNat b) (ofNat m')),Am (Af (ieq ((x b)).th ((x' b)).th) (Af (ieq ((x b)).pl ((x' b)).pl) (Af (ieq ((x b)).dir ((x' b)).dir) (Af (ieq ((x b)).loc ((x' b)).loc) (Af (ieq ((x b)).val ((x' b)).val) true)))))] (by kernel_rfl) (by simp only [h2] <;> simp only [*] <;> rfl)
theorem Akg (h0:ilt (ofNat b) (ofNat m) = true) (h15:ile 0 (ofNat b) = true) (h1:ilt (ofNat b) (ofNat m') = true) (h2:Af (ieq ((x b)).th ((x' b)).th) (Af (ieq ((x b)).pl ((x' b)).pl) (Af (ieq ((x b)).dir ((x' b)).dir) (Af (ieq ((x b)).loc ((x' b)).loc) (Af (ieq ((x b)).val ((x' b)).val) true)))) = false):Ai (H5 L) (RO a n g m x t k p r q ln co a' n' g' m' x' t' k' p' r' q' ln' co') (PM a n g m x t k p r q ln co a' n' g' m' x' t' k' p' r' q' ln' co' b j) = some (.rt,⟨(jsV 76 0 (fun _=>.und) [(4,(bV false))]),[]⟩):=Aa [true,true,true,true] [ilt (ofNat b) (ofNat m),Af (ile 0 (ofNat b)) (ilt (ofNat b) (ofNat m)),Af (ile 0 (ofNat b)) (ilt (ofNat b) (ofNat m')),Am (Af (ieq ((x b)).th ((x' b)).th) (Af (ieq ((x b)).pl ((x' b)).pl) (Af (ieq ((x b)).dir ((x' b)).dir) (Af (ieq ((x b)).loc ((x' b)).loc) (Af (ieq ((x b)).val ((x' b)).val) true)))))] (by kernel_rfl) (by simp only [h2] <;> simp only [*] <;> rfl)
end
def AbB (a:Int) (n:Nat) (g:Nat->E6) (m:Nat) (x:Nat->Ev5) (t k:Int) (p:Nat) (r:Nat->Int) (q:Nat) (ln:Nat->Nat) (co:Nat->Nat->Int) (a':Int) (n':Nat) (g':Nat->E6) (m':Nat) (x':Nat->Ev5) (t' k':Int) (p':Nat) (r':Nat->Int) (q':Nat) (ln':Nat->Nat) (co':Nat->Nat->Int) :Nat->V:=lkV A7 [(0,(.agg (shL a n g m x t k p r q ln co))),(1,(.agg (shL a' n' g' m' x' t' k' p' r' q' ln' co'))),(6,(.ptr 0 0)),(7,(iV a)),(8,(.ptr 1 0)),(9,(iV a')),(10,(bV (Am (ieq a a')))),(11,(bV (Am (ieq a a')))),(12,(.ptr 0 3)),(13,(iV t)),(14,(.ptr 1 3)),(15,(iV t')),(16,(bV (Am (ieq t t')))),(17,(bV (Am (ieq t t')))),(18,(bV (Am (ieq t t')))),(19,(.ptr 0 4)),(20,(iV k)),(21,(.ptr 1 4)),(22,(iV k')),(23,(bV (Am (ieq k k')))),(24,(bV (Am (ieq k k')))),(25,(bV (Am (ieq k k')))),(26,(.ptr 0 1)),(27,(.sl 6 n (fun i=>eV (g i)))),(28,(.ptr 1 1)),(29,(.sl 6 n' (fun i=>eV (g' i)))),(30,(bV (Bn n g n' g'))),(31,(bV (Am (Bn n g n' g')))),(32,(bV (Am (Bn n g n' g')))),(33,(bV (Am (Bn n g n' g')))),(34,(.ptr 0 2)),(35,(.sl 5 m (fun i=>evV (x i)))),(36,(nV m)),(37,(.ptr 1 2)),(38,(.sl 5 m' (fun i=>evV (x' i)))),(39,(iV (ofNat m'))),(40,(bV (Am (ieq (ofNat m) (ofNat m'))))),(41,(bV (Am (ieq (ofNat m) (ofNat m'))))),(42,(bV (Am (ieq (ofNat m) (ofNat m'))))),(43,(.ptr 0 5)),(44,(.sl 1 p (fun i=>iV (r i)))),(45,(.ptr 1 5)),(46,(.sl 1 p' (fun i=>iV (r' i)))),(47,(bV (Bf p r p' r'))),(48,(bV (Am (Bf p r p' r')))),(49,(bV (Am (Bf p r p' r')))),(50,(bV (Am (Bf p r p' r')))),(51,(.ptr 0 6)),(52,(.sl 1 q (fun u=>.sl 1 (ln u) (fun i=>iV (co u i))))),(53,(.ptr 1 6)),(54,(.sl 1 q' (fun u=>.sl 1 (ln' u) (fun i=>iV (co' u i))))),(55,(bV (BM q ln (fun i i_1=>co i i_1) q' ln' (fun i i_1=>co' i i_1)))),(56,(bV (Am (BM q ln (fun i i_1=>co i i_1) q' ln' (fun i i_1=>co' i i_1))))),(57,(bV (Am (BM q ln (fun i i_1=>co i i_1) q' ln' (fun i i_1=>co' i i_1)))))]
section
variable (L:LT) (p0:PT) (a:Int) (n:Nat) (g:Nat->E6) (m:Nat) (x:Nat->Ev5) (t k:Int) (p:Nat) (r:Nat->Int) (q:Nat) (ln:Nat->Nat) (co:Nat->Nat->Int) (a':Int) (n':Nat) (g':Nat->E6) (m':Nat) (x':Nat->Ev5) (t' k':Int) (p':Nat) (r':Nat->Int) (q':Nat) (ln':Nat->Nat) (co':Nat->Nat->Int) (z:Nat)
include L p0 a n g m x t k p r q ln co a' n' g' m' x' t' k' p' r' q' ln' co' z
theorem AjD (h0:ieq a a' = true) (h1:ieq t t' = true) (h2:ieq k k' = true) (h19:Ah n = true) (h3:Bn n g n' g' = true) (h4:ieq (ofNat m) (ofNat m') = true) (h20:Ah p = true) (h5:Bf p r p' r' = true) (h21:An q (fun i=>An (ln i) (fun _=>true)) = true) (h22:An q' (fun i=>An (ln' i) (fun _=>true)) = true) (h23:Ah q = true) (h24:An q (fun i=>Ah (ln i)) = true) (h6:BM q ln (fun i i_1=>co i i_1) q' ln' (fun i i_1=>co' i i_1) = true) (hp0:p0 (H5 (onP 0 p0 (VI a n g m x t k p r q ln co a' n' g' m' x' t' k' p' r' q' ln' co' z) L)) (PM a n g m x t k p r q ln co a' n' g' m' x' t' k' p' r' q' ln' co' 0 (AbB a n g m x t k p r q ln co a' n' g' m' x' t' k' p' r' q' ln' co' )) = true):(A1 (Al tab ⟨Ao Mh,onP 0 p0 (VI a n g m x t k p r q ln co a' n' g' m' x' t' k' p' r' q' ln' co' z) L,Gl⟩ Try.f16 [.agg (shL a n g m x t k p r q ln co),.agg (shL a' n' g' m' x' t' k' p' r' q' ln' co')] [])).sem = some ((bV false),[]):=Aa (bbK 53 5031605727789056) ((fun c0 c1 c2 c3 c4 c5=>[c0,c0,c0,c0,c0,c0,c1,c1,c1,c1,c1,c1,c2,c2,c2,c2,c2,An n (fun _=>true),An n' (fun _=>true),Ah n,c2,c2,c3,c3,c3,c3,c3,c3,c3,c3,c4,c4,c4,c4,c4,An p (fun _=>true),An p' (fun _=>true),Ah p,c4,c4,c5,c5,c5,c5,c5,An q (fun i=>An (ln i) (fun _=>true)),An q' (fun i=>An (ln' i) (fun _=>true)),Ah q,An q (fun i=>Ah (ln i)),c5,c5,Am (BM q ln (fun i i_1=>co i i_1) q' ln' (fun i i_1=>co' i i_1)),p0 (H5 (onP 0 p0 (VI a n g m x t k p r q ln co a' n' g' m' x' t' k' p' r' q' ln' co' z) L)) (PM a n g m x t k p r q ln co a' n' g' m' x' t' k' p' r' q' ln' co' 0 (AbB a n g m x t k p r q ln co a' n' g' m' x' t' k' p' r' q' ln' co' ))]) (Am (ieq a a')) (Am (ieq t t')) (Am (ieq k k')) (Am (Bn n g n' g')) (Am (ieq (ofNat m) (ofNat m'))) (Am (Bf p r p' r'))) (by kernel_rfl) (by simp only [hp0] <;> simp only [*,Ar] <;> rfl)
theorem AjE (h0:ieq a a' = true) (h1:ieq t t' = true) (h2:ieq k k' = true) (h19:Ah n = true) (h3:Bn n g n' g' = true) (h4:ieq (ofNat m) (ofNat m') = true) (h20:Ah p = true) (h5:Bf p r p' r' = true) (h21:An q (fun i=>An (ln i) (fun _=>true)) = true) (h22:An q' (fun i=>An (ln' i) (fun _=>true)) = true) (h23:Ah q = true) (h24:An q (fun i=>Ah (ln i)) = true) (h6:BM q ln (fun i i_1=>co i i_1) q' ln' (fun i i_1=>co' i i_1) = true) (hp0:p0 (H5 (onP 0 p0 (VJ a n g m x t k p r q ln co a' n' g' m' x' t' k' p' r' q' ln' co' z) L)) (PM a n g m x t k p r q ln co a' n' g' m' x' t' k' p' r' q' ln' co' 0 (AbB a n g m x t k p r q ln co a' n' g' m' x' t' k' p' r' q' ln' co' )) = true):(A1 (Al tab ⟨Ao Mh,onP 0 p0 (VJ a n g m x t k p r q ln co a' n' g' m' x' t' k' p' r' q' ln' co' z) L,Gl⟩ Try.f16 [.agg (shL a n g m x t k p r q ln co),.agg (shL a' n' g' m' x' t' k' p' r' q' ln' co')] [])).sem = some ((bV true),[]):=Aa (bbK 53 5031605727789056) ((fun c0 c1 c2 c3 c4 c5=>[c0,c0,c0,c0,c0,c0,c1,c1,c1,c1,c1,c1,c2,c2,c2,c2,c2,An n (fun _=>true),An n' (fun _=>true),Ah n,c2,c2,c3,c3,c3,c3,c3,c3,c3,c3,c4,c4,c4,c4,c4,An p (fun _=>true),An p' (fun _=>true),Ah p,c4,c4,c5,c5,c5,c5,c5,An q (fun i=>An (ln i) (fun _=>true)),An q' (fun i=>An (ln' i) (fun _=>true)),Ah q,An q (fun i=>Ah (ln i)),c5,c5,Am (BM q ln (fun i i_1=>co i i_1) q' ln' (fun i i_1=>co' i i_1)),p0 (H5 (onP 0 p0 (VJ a n g m x t k p r q ln co a' n' g' m' x' t' k' p' r' q' ln' co' z) L)) (PM a n g m x t k p r q ln co a' n' g' m' x' t' k' p' r' q' ln' co' 0 (AbB a n g m x t k p r q ln co a' n' g' m' x' t' k' p' r' q' ln' co' ))]) (Am (ieq a a')) (Am (ieq t t')) (Am (ieq k k')) (Am (Bn n g n' g')) (Am (ieq (ofNat m) (ofNat m'))) (Am (Bf p r p' r'))) (by kernel_rfl) (by simp only [hp0] <;> simp only [*,Ar] <;> rfl)
end
theorem Ack (L:LT) (a:Int) (n:Nat) (g:Nat->E6) (m:Nat) (x:Nat->Ev5) (t k:Int) (p:Nat) (r:Nat->Int) (q:Nat) (ln:Nat->Nat) (co:Nat->Nat->Int) (a':Int) (n':Nat) (g':Nat->E6) (m':Nat) (x':Nat->Ev5) (t' k':Int) (p':Nat) (r':Nat->Int) (q':Nat) (ln':Nat->Nat) (co':Nat->Nat->Int) (hn:m <= 4611686018427387904) (hm:m = m'):∀ (e b:Nat) (j:Nat->V) (z:Nat),m = b+e->e < z->(∀ k,k < b->Co (x k) (x' k) = true) ->
    ((A3 (H5 L) (RO a n g m x t k p r q ln co a' n' g' m' x' t' k' p' r' q' ln' co') z (PM a n g m x t k p r q ln co a' n' g' m' x' t' k' p' r' q' ln' co' b j)).sem = some (VI a n g m x t k p r q ln co a' n' g' m' x' t' k' p' r' q' ln' co' 0) ∧ (An m fun k=>Co (x k) (x' k)) = false) ∨ ((A3 (H5 L) (RO a n g m x t k p r q ln co a' n' g' m' x' t' k' p' r' q' ln' co') z (PM a n g m x t k p r q ln co a' n' g' m' x' t' k' p' r' q' ln' co' b j)).sem = some (VJ a n g m x t k p r q ln co a' n' g' m' x' t' k' p' r' q' ln' co' 0) ∧ (An m fun k=>Co (x k) (x' k)) = true)
  | 0,b,j,z+1,h,_,hb=>by
    have:m = b:=by omega
    subst this
    exact .inr ⟨Ab (Akh L a n g m x t k p r q ln co a' n' g' m' x' t' k' p' r' q' ln' co' m j (A8 (Nat.le_refl _))),AA.2 hb⟩
  | e+1,b,j,z+1,h,h2,hb=>by
    have hl:b < m:=by omega
    cases hp:Co (x b) (x' b) with
    | false =>
      refine .inl ⟨?_,?_⟩
      · rw [Ab (Akg L a n g m x t k p r q ln co a' n' g' m' x' t' k' p' r' q' ln' co' b j (ofNat_lt hl) (AJ b) (ofNat_lt (by omega)) hp),Dm]
        rfl
      · cases ha:(An m fun k=>Co (x k) (x' k)) with
        | false=>rfl
        | true =>
          have:=AA.1 ha b hl
          rw [hp] at this
          cases this
    | true =>
      have next:=Ack L a n g m x t k p r q ln co a' n' g' m' x' t' k' p' r' q' ln' co' hn hm e (b+1) (fun _=>.und) z (by omega) (by omega) fun k hk=>by
        by_cases hki:k = b
        · rw [hki]; exact hp
        · exact hb k (by omega)
      rw [Ab (Akf L a n g m x t k p r q ln co a' n' g' m' x' t' k' p' r' q' ln' co' b j (ofNat_lt hl) (AJ b) (ofNat_lt (by omega)) hp),Aw,Aq hl hn]
      exact next
def LI (s s':Sh7):Bool:=Af (ieq s.arch s'.arch) (Af (ieq s.tt s'.tt) (Af (ieq s.kk s'.kk) (Af (Bn s.ne s.E s'.ne s'.E) (Af (ieq (ofNat s.nx) (ofNat s'.nx)) (Af (Bf s.nr s.R s'.nr s'.R)
  (Af (BM s.nc (fun i=>(s.C i).1) (fun i=>(s.C i).2) s'.nc (fun i=>(s'.C i).1) (fun i=>(s'.C i).2)) (An s.nx fun k=>Co (s.X k) (s'.X k))))))))
def Gi (s:Sh7):Bool:=Af (Ah s.ne) (Af (Ah s.nx) (Af (Ah s.nr) (Af (Ah s.nc) (An s.nc fun i=>Ah (s.C i).1))))
def KQ:List V->T (V × List Blk)
  | [v,u]=>apS v fun s=>apS u fun s'=>.br (Gi s) (.leaf (bV (LI s s'),[])) .fail
  | _=>.fail
theorem p16:AD Try.prog Gl 16 KQ:=by
  refine A5 AO AP Try.func16 (by kernel_rfl) (by kernel_rfl) fun vs v h' h=>?_
  unfold KQ at h
  split at h
  · rename_i v1 u1
    obtain ⟨s,a1,h⟩:=EI h
    obtain ⟨s',a2,h⟩:=EI h
    obtain ⟨hn,h⟩:=Ag h
    have:=Ac h
    simp only [Prod.mk.injEq] at this
    obtain ⟨rfl,rfl⟩:=this
    obtain ⟨a,n,g,m,x,t,k,p,r,q,C⟩:=s
    obtain ⟨a',n',g',m',x',t',k',p',r',q',D⟩:=s'
    have hA:BA [v1,u1] [.agg [iV a,.sl 6 n (fun i=>eV (g i)),.sl 5 m (fun i=>evV (x i)),iV t,iV k,.sl 1 p (fun i=>iV (r i)),.sl 1 q (fun u=>.sl 1 (C u).1 (fun i=>iV ((C u).2 i)))],
        .agg [iV a',.sl 6 n' (fun i=>eV (g' i)),.sl 5 m' (fun i=>evV (x' i)),iV t',iV k',.sl 1 p' (fun i=>iV (r' i)),.sl 1 q' (fun u=>.sl 1 (D u).1 (fun i=>iV ((D u).2 i)))]]:=fun S w cs hv=>by
      obtain ⟨c,l,rfl,q1,c',l',rfl,q2,q3⟩:=hv
      exact ⟨c,_,rfl,a1 S w c q1,c',l',rfl,a2 S w c' q2,q3⟩
    have hn:Ah n = true ∧ Ah m = true ∧ Ah p = true ∧ Ah q = true ∧ (An q fun i=>Ah (C i).1) = true:=by simpa [Gi,Af] using hn
    obtain ⟨n1,n2,n3,n4,n5⟩:=hn
    unfold LI
    dsimp only
    generalize hln:(fun i=>(C i).1) = ln
    generalize hco:(fun i=>(C i).2) = co
    generalize hln':(fun i=>(D i).1) = ln'
    generalize hco':(fun i=>(D i).2) = co'
    have hx:=AQ Aa2 [(0,RO a n g m x t k p r q ln co a' n' g' m' x' t' k' p' r' q' ln' co')] (G:=Gl)
    have hL:=AC [(0,RO a n g m x t k p r q ln co a' n' g' m' x' t' k' p' r' q' ln' co')]
    refine ⟨_,AR Gl Mh [(0,RO a n g m x t k p r q ln co a' n' g' m' x' t' k' p' r' q' ln' co')],_,hA,rfl,hx.1,hx.2,?_,AB.refl _⟩
    have e1:∀ u,(C u).1 = ln u:=fun u=>by rw [<- hln]
    have e2:∀ u,(C u).2 = co u:=fun u=>by rw [<- hco]
    have e3:∀ u,(D u).1 = ln' u:=fun u=>by rw [<- hln']
    have e4:∀ u,(D u).2 = co' u:=fun u=>by rw [<- hco']
    simp only [e1,e2,e3,e4] at n5 ⊢
    have Fn:∀ (q:Nat) (ln:Nat->Nat),(An q fun i=>An (ln i) fun _=>true) = true:=fun _ _=>AA.2 fun _ _=>AA.2 fun _ _=>rfl
    cases c0:ieq a a' with
    | false=>rw [C7 rfl]; exact AgU _ a n g m x t k p r q ln co a' n' g' m' x' t' k' p' r' q' ln' co' c0
    | true =>
    rw [By rfl]
    cases c1:ieq t t' with
    | false=>rw [C7 rfl]; exact AgT _ a n g m x t k p r q ln co a' n' g' m' x' t' k' p' r' q' ln' co' c0 c1
    | true =>
    rw [By rfl]
    cases c2:ieq k k' with
    | false=>rw [C7 rfl]; exact AgS _ a n g m x t k p r q ln co a' n' g' m' x' t' k' p' r' q' ln' co' c0 c1 c2
    | true =>
    rw [By rfl]
    cases c3:Bn n g n' g' with
    | false=>rw [C7 rfl]; exact AgR _ a n g m x t k p r q ln co a' n' g' m' x' t' k' p' r' q' ln' co' c0 c1 c2 n1 c3
    | true =>
    rw [By rfl]
    cases c4:ieq (ofNat m) (ofNat m') with
    | false=>rw [C7 rfl]; exact AgQ _ a n g m x t k p r q ln co a' n' g' m' x' t' k' p' r' q' ln' co' c0 c1 c2 n1 c3 c4
    | true =>
    rw [By rfl]
    cases c5:Bf p r p' r' with
    | false=>rw [C7 rfl]; exact AgP _ a n g m x t k p r q ln co a' n' g' m' x' t' k' p' r' q' ln' co' c0 c1 c2 n1 c3 c4 n3 c5
    | true =>
    rw [By rfl]
    cases c6:BM q ln co q' ln' co' with
    | false=>rw [C7 rfl]; exact AgO _ a n g m x t k p r q ln co a' n' g' m' x' t' k' p' r' q' ln' co' c0 c1 c2 n1 c3 c4 n3 c5 (Fn _ _) (Fn _ _) n4 n5 c6
    | true =>
    rw [By rfl]
    have h0:=fun L j=>Ack L a n g m x t k p r q ln co a' n' g' m' x' t' k' p' r' q' ln' co' (Fx n2) (DG c4) m 0 j (m+1) (by omega) (by omega) (fun k hk=>absurd hk (Nat.not_lt_zero _))
    cases ha:(An m fun k=>Co (x k) (x' k)) with
    | false=>exact A6 (Ax hL hL) _ (AjD _ _ a n g m x t k p r q ln co a' n' g' m' x' t' k' p' r' q' ln' co' 0 c0 c1 c2 n1 c3 c4 n3 c5 (Fn _ _) (Fn _ _) n4 n5 c6 (Ak ((h0 _ _).elim (fun h=>h.1) fun h=>by have:=h.2; rw [ha] at this; cases this)))
    | true=>exact A6 (Ax hL hL) _ (AjE _ _ a n g m x t k p r q ln co a' n' g' m' x' t' k' p' r' q' ln' co' 0 c0 c1 c2 n1 c3 c4 n3 c5 (Fn _ _) (Fn _ _) n4 n5 c6 (Ak ((h0 _ _).elim (fun h=>by have:=h.2; rw [ha] at this; cases this) fun h=>h.1)))
  · cases h
end Go.Proofs.Ytjhnfomefcngfaa.Sh
