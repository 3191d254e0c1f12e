/-
  Layer 7: whether lists of numbers, lists of these, shapes are the same. No conditions.
-/
import Derived.Test.YtjhnfomefcngfaaShF
namespace Go.Proofs.Ytjhnfomefcngfaa.Sh
open Go.Sy Ed
open Int (ofNat)
set_option maxHeartbeats 1000000
set_option maxRecDepth 4000
theorem F0 {n:Nat} (h:Ab n = true):n <= 4611686018427387904:=of_decide_eq_true h
theorem B5 {a b:Bool} (h:a = true):Ag a b = b:=by rw [h]; rfl
theorem C5 {a b:Bool} (h:a = false):Ag a b = false:=by rw [h]; rfl
theorem DQ {n m:Nat} (h:ieq (ofNat n) (ofNat m) = true):n = m:=by
  rw [Dt] at h
  exact of_decide_eq_true h
def Bh (n:Nat) (f:Nat->Int) (m:Nat) (g:Nat->Int):Bool:=Ag (ieq (ofNat n) (ofNat m)) (Ai n fun k=>ieq (f k) (g k))
def RP (n:Nat) (_:Nat->Int) (_:Nat) (_:Nat->Int):Lp:=⟨(bmK 26 0 [0,1,4,5]),0,bmK 26 0 [4],0,n+1⟩
def PJ (n:Nat) (f:Nat->Int) (m:Nat) (g:Nat->Int) (b:Nat) (j:Nat->V):St:=⟨(jsV 26 0 j [(0,.sl 1 n (fun i=>iV (f i))),(1,.sl 1 m (fun i=>iV (g i))),(4,bV false),(5,nV b)]),[]⟩
def V0 (_:Nat) (_:Nat->Int) (_:Nat) (_:Nat->Int) (_:Nat):Ex × St:=(.rt,⟨(jsV 26 0 (fun _=>.und) [(4,bV false)]),[]⟩)
def V1 (_:Nat) (_:Nat->Int) (_:Nat) (_:Nat->Int) (_:Nat):Ex × St:=(.ex 0,⟨(jsV 26 0 (fun _=>.und) [(4,bV false)]),[]⟩)
noncomputable def HC (L:LT):St->T (Ex × St):=fun st=>AE tab ⟨Ao tb0,L,Gl⟩ (Az Try.f61 0) 0 st
section
variable (L:LT) (n:Nat) (f:Nat->Int) (m:Nat) (g:Nat->Int) (b:Nat)  (j:Nat->V)
include L n f m g b j
theorem AjZ (h0:ilt (ofNat b) (ofNat n) = false):Al (HC L) (RP n f m g) (PJ n f m g b j) = some ((.ex 0),⟨(jsV 26 0 (fun _=>.und) [(4,(bV false))]),[]⟩):=Aa [false] [ilt (ofNat b) (ofNat n)] (by kernel_rfl) (by simp only [h0] <;> rfl)
theorem AjY (h0:ilt (ofNat b) (ofNat n) = true) (h15:ile 0 (ofNat b) = true) (h1:ilt (ofNat b) (ofNat m) = true) (h2:ieq (f b) (g b) = false):Al (HC L) (RP n f m g) (PJ n f m g b j) = some (.rt,⟨(jsV 26 0 (fun _=>.und) [(4,(bV false))]),[]⟩):=Aa [true,true,true,true] [ilt (ofNat b) (ofNat n),Ag (ile 0 (ofNat b)) (ilt (ofNat b) (ofNat n)),Ag (ile 0 (ofNat b)) (ilt (ofNat b) (ofNat m)),Am (ieq (f b) (g b))] (by kernel_rfl) (by simp only [*] <;> rfl)
theorem AjX (h0:ilt (ofNat b) (ofNat n) = true) (h15:ile 0 (ofNat b) = true) (h1:ilt (ofNat b) (ofNat m) = true) (h2:ieq (f b) (g b) = true):Al (HC L) (RP n f m g) (PJ n f m g b j) = some (.nm,⟨(jsV 26 0 (fun _=>.und) [(0,(.sl 1 n (fun i=>iV (f i)))),(1,(.sl 1 m (fun i=>iV (g i)))),(4,(bV false)),(5,(iV (wr .i64 (Af (ofNat b) 1))))]),[]⟩):=Aa [true,true,true,false] [ilt (ofNat b) (ofNat n),Ag (ile 0 (ofNat b)) (ilt (ofNat b) (ofNat n)),Ag (ile 0 (ofNat b)) (ilt (ofNat b) (ofNat m)),Am (ieq (f b) (g b))] (by kernel_rfl) (by simp only [*] <;> rfl)
end
def Abu (n:Nat) (f:Nat->Int) (m:Nat) (g:Nat->Int) :Nat->V:=lkV A8 [(6,(.sl 1 n (fun i=>iV (f i)))),(7,(nV n)),(8,(.sl 1 m (fun i=>iV (g i)))),(9,(nV m)),(10,(bV (Am (ieq (ofNat n) (ofNat m)))))]
theorem Ajj (L:LT) (n:Nat) (f:Nat->Int) (m:Nat) (g:Nat->Int) (h0:ieq (ofNat n) (ofNat m) = false):(As (Aj tab ⟨Ao tb0,L,Gl⟩ Try.f61 [.sl 1 n (fun i=>iV (f i)),.sl 1 m (fun i=>iV (g i))] [])).sem = some ((bV false),[]):=Aa [true] [Am (ieq (ofNat n) (ofNat m))] (by kernel_rfl) (by simp only [h0] <;> rfl)
section
variable (L:LT) (p0:PT) (n:Nat) (f:Nat->Int) (m:Nat) (g:Nat->Int) (q:Nat)
include L p0 n f m g q
theorem Ajk (h0:ieq (ofNat n) (ofNat m) = true) (hp0:p0 (HC (onP 0 p0 (V0 n f m g q) L)) (PJ n f m g 0 (Abu n f m g )) = true):(As (Aj tab ⟨Ao tb0,onP 0 p0 (V0 n f m g q) L,Gl⟩ Try.f61 [.sl 1 n (fun i=>iV (f i)),.sl 1 m (fun i=>iV (g i))] [])).sem = some ((bV false),[]):=Aa [false,true] [Am (ieq (ofNat n) (ofNat m)),p0 (HC (onP 0 p0 (V0 n f m g q) L)) (PJ n f m g 0 (Abu n f m g ))] (by kernel_rfl) (by simp only [hp0] <;> simp only [h0] <;> rfl)
theorem Ajl (h0:ieq (ofNat n) (ofNat m) = true) (hp0:p0 (HC (onP 0 p0 (V1 n f m g q) L)) (PJ n f m g 0 (Abu n f m g )) = true):(As (Aj tab ⟨Ao tb0,onP 0 p0 (V1 n f m g q) L,Gl⟩ Try.f61 [.sl 1 n (fun i=>iV (f i)),.sl 1 m (fun i=>iV (g i))] [])).sem = some ((bV true),[]):=Aa [false,true] [Am (ieq (ofNat n) (ofNat m)),p0 (HC (onP 0 p0 (V1 n f m g q) L)) (PJ n f m g 0 (Abu n f m g ))] (by kernel_rfl) (by simp only [hp0] <;> simp only [h0] <;> rfl)
end
theorem AbV (L:LT) (n:Nat) (f:Nat->Int) (m:Nat) (g:Nat->Int) (hn:n <= 4611686018427387904) (hm:n = m):∀ (e b:Nat) (j:Nat->V) (q:Nat),n = b+e->e < q->(∀ k,k < b->ieq (f k) (g k) = true) ->
    ((A7 (HC L) (RP n f m g) q (PJ n f m g b j)).sem = some (V0 n f m g 0) ∧ (Ai n fun k=>ieq (f k) (g k)) = false) ∨ ((A7 (HC L) (RP n f m g) q (PJ n f m g b j)).sem = some (V1 n f m g 0) ∧ (Ai n fun k=>ieq (f k) (g k)) = true)
  | 0,b,j,q+1,h,_,hb=>by
    have:n = b:=by omega
    subst this
    exact .inr ⟨Ac (AjZ L n f m g n j (AA (Nat.le_refl _))),A4.2 hb⟩
  | e+1,b,j,q+1,h,h2,hb=>by
    have hl:b < n:=by omega
    cases hp:ieq (f b) (g b) with
    | false =>
      refine .inl ⟨?_,?_⟩
      · rw [Ac (AjY L n f m g b j (ofNat_lt hl) (AH b) (ofNat_lt (by omega)) hp),Du]
        rfl
      · cases ha:(Ai n fun k=>ieq (f k) (g k)) with
        | false=>rfl
        | true =>
          have:=A4.1 ha b hl
          rw [hp] at this
          cases this
    | true =>
      have next:=AbV L n f m g hn hm e (b+1) (fun _=>.und) q (by omega) (by omega) fun k hk=>by
        by_cases hki:k = b
        · rw [hki]; exact hp
        · exact hb k (by omega)
      rw [Ac (AjX L n f m g b j (ofNat_lt hl) (AH b) (ofNat_lt (by omega)) hp),Av,Aq hl hn]
      exact next
def Ib:List V->T (V × List Blk)
  | [v,u]=>apG QU v fun n f=>apG QU u fun m g=>.br (Ab n) (.leaf (bV (Bh n f m g),[])) .fail
  | _=>.fail
theorem p61:AB Try.prog Gl 61 Ib:=by
  refine A1 AQ AR Try.func61 (by kernel_rfl) (by kernel_rfl) fun vs v h' h=>?_
  unfold Ib at h
  split at h
  · rename_i v1 u1
    obtain ⟨n,f,a1,h⟩:=BZ h
    obtain ⟨m,g,a2,h⟩:=BZ h
    obtain ⟨hn,h⟩:=Ah h
    have:=Ad h
    simp only [Prod.mk.injEq] at this
    obtain ⟨rfl,rfl⟩:=this
    have hA:Bw [v1,u1] [.sl 1 n (fun i=>iV (f i)),.sl 1 m (fun i=>iV (g i))]:=fun S w cs hv=>by
      obtain ⟨c,l,rfl,q1,c',l',rfl,q2,q3⟩:=hv
      exact ⟨c,_,rfl,a1 S w c q1,c',l',rfl,a2 S w c' q2,q3⟩
    have hx:=AP CW [(0,RP n f m g)] (G:=Gl)
    have hL:=AD [(0,RP n f m g)]
    refine ⟨_,AI Gl tb0 [(0,RP n f m g)],_,hA,rfl,hx.1,hx.2,?_,A6.refl _⟩
    cases hl:ieq (ofNat n) (ofNat m) with
    | false =>
      rw [show Bh n f m g = false from C5 hl]
      exact Ajj _ n f m g hl
    | true =>
      rw [show Bh n f m g = _ from B5 hl]
      have h0:=fun L j=>AbV L n f m g (F0 hn) (DQ hl) n 0 j (n+1) (by omega) (by omega) (fun k hk=>absurd hk (Nat.not_lt_zero _))
      cases ha:(Ai n fun k=>ieq (f k) (g k)) with
      | false=>exact A3 (Aw hL hL) _ (Ajk _ _ n f m g 0 hl (An ((h0 _ _).elim (fun h=>h.1) fun h=>by have:=h.2; rw [ha] at this; cases this)))
      | true=>exact A3 (Aw hL hL) _ (Ajl _ _ n f m g 0 hl (An ((h0 _ _).elim (fun h=>by have:=h.2; rw [ha] at this; cases this) fun h=>h.1)))
  · cases h
def BJ (n:Nat) (ln:Nat->Nat) (co:Nat->Nat->Int) (m:Nat) (ln':Nat->Nat) (co':Nat->Nat->Int):Bool:=Ag (ieq (ofNat n) (ofNat m)) (Ai n fun k=>Bh (ln k) (co k) (ln' k) (co' k))
noncomputable def VT:List (Nat × (List V->T (V × List Blk))):=[(61,Ib)]
theorem ZX:AC Try.prog Gl VT:=.cons p61 .nil
def RO (n:Nat) (_:Nat->Nat) (_:Nat->Nat->Int) (_:Nat) (_:Nat->Nat) (_:Nat->Nat->Int):Lp:=⟨(bmK 27 0 [0,1,4,5]),0,bmK 27 0 [4],0,n+1⟩
def PI (n:Nat) (ln:Nat->Nat) (co:Nat->Nat->Int) (m:Nat) (ln':Nat->Nat) (co':Nat->Nat->Int) (b:Nat) (j:Nat->V):St:=⟨(jsV 27 0 j [(0,.sl 1 n (fun u=>.sl 1 (ln u) (fun i=>iV (co u i)))),(1,.sl 1 m (fun u=>.sl 1 (ln' u) (fun i=>iV (co' u i)))),(4,bV false),(5,nV b)]),[]⟩
def Vy (_:Nat) (_:Nat->Nat) (_:Nat->Nat->Int) (_:Nat) (_:Nat->Nat) (_:Nat->Nat->Int) (_:Nat):Ex × St:=(.rt,⟨(jsV 27 0 (fun _=>.und) [(4,bV false)]),[]⟩)
def Vz (_:Nat) (_:Nat->Nat) (_:Nat->Nat->Int) (_:Nat) (_:Nat->Nat) (_:Nat->Nat->Int) (_:Nat):Ex × St:=(.ex 0,⟨(jsV 27 0 (fun _=>.und) [(4,bV false)]),[]⟩)
noncomputable def HB (L:LT):St->T (Ex × St):=fun st=>AE tab ⟨Ao VT,L,Gl⟩ (Az Try.f62 0) 0 st
section
variable (L:LT) (n:Nat) (ln:Nat->Nat) (co:Nat->Nat->Int) (m:Nat) (ln':Nat->Nat) (co':Nat->Nat->Int) (b:Nat)  (j:Nat->V)
include L n ln co m ln' co' b j
theorem AjW (h0:ilt (ofNat b) (ofNat n) = false):Al (HB L) (RO n ln co m ln' co') (PI n ln co m ln' co' b j) = some ((.ex 0),⟨(jsV 27 0 (fun _=>.und) [(4,(bV false))]),[]⟩):=Aa [false] [ilt (ofNat b) (ofNat n)] (by kernel_rfl) (by simp only [h0] <;> rfl)
theorem AjV (h0:ilt (ofNat b) (ofNat n) = true) (h15:ile 0 (ofNat b) = true) (h1:ilt (ofNat b) (ofNat m) = true) (h16:Ab (ln b) = true) (h2:Bh (ln b) (co b) (ln' b) (co' b) = false):Al (HB L) (RO n ln co m ln' co') (PI n ln co m ln' co' b j) = some (.rt,⟨(jsV 27 0 (fun _=>.und) [(4,(bV false))]),[]⟩):=Aa (bbK 7 127) [ilt (ofNat b) (ofNat n),Ag (ile 0 (ofNat b)) (ilt (ofNat b) (ofNat n)),Ag (ile 0 (ofNat b)) (ilt (ofNat b) (ofNat m)),Ai (ln b) (fun _=>true),Ai (ln' b) (fun _=>true),Ab (ln b),Am (Bh (ln b) (co b) (ln' b) (co' b))] (by kernel_rfl) (by simp only [*,Ar] <;> rfl)
theorem AjU (h0:ilt (ofNat b) (ofNat n) = true) (h15:ile 0 (ofNat b) = true) (h1:ilt (ofNat b) (ofNat m) = true) (h16:Ab (ln b) = true) (h2:Bh (ln b) (co b) (ln' b) (co' b) = true):Al (HB L) (RO n ln co m ln' co') (PI n ln co m ln' co' b j) = some (.nm,⟨(jsV 27 0 (fun _=>.und) [(0,(.sl 1 n (fun u=>.sl 1 (ln u) (fun i=>iV (co u i))))),(1,(.sl 1 m (fun u=>.sl 1 (ln' u) (fun i=>iV (co' u i))))),(4,(bV false)),(5,(iV (wr .i64 (Af (ofNat b) 1))))]),[]⟩):=Aa (bbK 7 63) [ilt (ofNat b) (ofNat n),Ag (ile 0 (ofNat b)) (ilt (ofNat b) (ofNat n)),Ag (ile 0 (ofNat b)) (ilt (ofNat b) (ofNat m)),Ai (ln b) (fun _=>true),Ai (ln' b) (fun _=>true),Ab (ln b),Am (Bh (ln b) (co b) (ln' b) (co' b))] (by kernel_rfl) (by simp only [*,Ar] <;> rfl)
end
def Abt (n:Nat) (ln:Nat->Nat) (co:Nat->Nat->Int) (m:Nat) (ln':Nat->Nat) (co':Nat->Nat->Int) :Nat->V:=lkV A8 [(6,(.sl 1 n (fun u=>.sl 1 (ln u) (fun i=>iV (co u i))))),(7,(nV n)),(8,(.sl 1 m (fun u=>.sl 1 (ln' u) (fun i=>iV (co' u i))))),(9,(nV m)),(10,(bV (Am (ieq (ofNat n) (ofNat m)))))]
theorem Ajg (L:LT) (n:Nat) (ln:Nat->Nat) (co:Nat->Nat->Int) (m:Nat) (ln':Nat->Nat) (co':Nat->Nat->Int) (h0:ieq (ofNat n) (ofNat m) = false):(As (Aj tab ⟨Ao VT,L,Gl⟩ Try.f62 [.sl 1 n (fun u=>.sl 1 (ln u) (fun i=>iV (co u i))),.sl 1 m (fun u=>.sl 1 (ln' u) (fun i=>iV (co' u i)))] [])).sem = some ((bV false),[]):=Aa [true] [Am (ieq (ofNat n) (ofNat m))] (by kernel_rfl) (by simp only [h0] <;> rfl)
section
variable (L:LT) (p0:PT) (n:Nat) (ln:Nat->Nat) (co:Nat->Nat->Int) (m:Nat) (ln':Nat->Nat) (co':Nat->Nat->Int) (q:Nat)
include L p0 n ln co m ln' co' q
theorem Ajh (h0:ieq (ofNat n) (ofNat m) = true) (hp0:p0 (HB (onP 0 p0 (Vy n ln co m ln' co' q) L)) (PI n ln co m ln' co' 0 (Abt n ln co m ln' co' )) = true):(As (Aj tab ⟨Ao VT,onP 0 p0 (Vy n ln co m ln' co' q) L,Gl⟩ Try.f62 [.sl 1 n (fun u=>.sl 1 (ln u) (fun i=>iV (co u i))),.sl 1 m (fun u=>.sl 1 (ln' u) (fun i=>iV (co' u i)))] [])).sem = some ((bV false),[]):=Aa [false,true] [Am (ieq (ofNat n) (ofNat m)),p0 (HB (onP 0 p0 (Vy n ln co m ln' co' q) L)) (PI n ln co m ln' co' 0 (Abt n ln co m ln' co' ))] (by kernel_rfl) (by simp only [hp0] <;> simp only [h0] <;> rfl)
theorem Aji (h0:ieq (ofNat n) (ofNat m) = true) (hp0:p0 (HB (onP 0 p0 (Vz n ln co m ln' co' q) L)) (PI n ln co m ln' co' 0 (Abt n ln co m ln' co' )) = true):(As (Aj tab ⟨Ao VT,onP 0 p0 (Vz n ln co m ln' co' q) L,Gl⟩ Try.f62 [.sl 1 n (fun u=>.sl 1 (ln u) (fun i=>iV (co u i))),.sl 1 m (fun u=>.sl 1 (ln' u) (fun i=>iV (co' u i)))] [])).sem = some ((bV true),[]):=Aa [false,true] [Am (ieq (ofNat n) (ofNat m)),p0 (HB (onP 0 p0 (Vz n ln co m ln' co' q) L)) (PI n ln co m ln' co' 0 (Abt n ln co m ln' co' ))] (by kernel_rfl) (by simp only [hp0] <;> simp only [h0] <;> rfl)
end
theorem AbU (L:LT) (n:Nat) (ln:Nat->Nat) (co:Nat->Nat->Int) (m:Nat) (ln':Nat->Nat) (co':Nat->Nat->Int) (hn:n <= 4611686018427387904) (hm:n = m) (hs:∀ k,k < n->Ab (ln k) = true):∀ (e b:Nat) (j:Nat->V) (q:Nat),n = b+e->e < q->(∀ k,k < b->Bh (ln k) (co k) (ln' k) (co' k) = true) ->
    ((A7 (HB L) (RO n ln co m ln' co') q (PI n ln co m ln' co' b j)).sem = some (Vy n ln co m ln' co' 0) ∧ (Ai n fun k=>Bh (ln k) (co k) (ln' k) (co' k)) = false) ∨ ((A7 (HB L) (RO n ln co m ln' co') q (PI n ln co m ln' co' b j)).sem = some (Vz n ln co m ln' co' 0) ∧ (Ai n fun k=>Bh (ln k) (co k) (ln' k) (co' k)) = true)
  | 0,b,j,q+1,h,_,hb=>by
    have:n = b:=by omega
    subst this
    exact .inr ⟨Ac (AjW L n ln co m ln' co' n j (AA (Nat.le_refl _))),A4.2 hb⟩
  | e+1,b,j,q+1,h,h2,hb=>by
    have hl:b < n:=by omega
    cases hp:Bh (ln b) (co b) (ln' b) (co' b) with
    | false =>
      refine .inl ⟨?_,?_⟩
      · rw [Ac (AjV L n ln co m ln' co' b j (ofNat_lt hl) (AH b) (ofNat_lt (by omega)) (hs b hl) hp),Du]
        rfl
      · cases ha:(Ai n fun k=>Bh (ln k) (co k) (ln' k) (co' k)) with
        | false=>rfl
        | true =>
          have:=A4.1 ha b hl
          rw [hp] at this
          cases this
    | true =>
      have next:=AbU L n ln co m ln' co' hn hm hs e (b+1) (fun _=>.und) q (by omega) (by omega) fun k hk=>by
        by_cases hki:k = b
        · rw [hki]; exact hp
        · exact hb k (by omega)
      rw [Ac (AjU L n ln co m ln' co' b j (ofNat_lt hl) (AH b) (ofNat_lt (by omega)) (hs b hl) hp),Av,Aq hl hn]
      exact next
def Tw:List V->T (V × List Blk)
  | [v,u]=>apG QT v fun n C=>apG QT u fun m D=>.br (Ab n) (.br (Ai n fun i=>Ab (C i).1) (.leaf (bV (BJ n (fun i=>(C i).1) (fun i=>(C i).2) m (fun i=>(D i).1) (fun i=>(D i).2)),[])) .fail) .fail
  | _=>.fail
theorem p62:AB Try.prog Gl 62 Tw:=by
  refine A1 AQ AR Try.func62 (by kernel_rfl) (by kernel_rfl) fun vs v h' h=>?_
  unfold Tw at h
  split at h
  · rename_i v1 u1
    obtain ⟨n,C,a1,h⟩:=BZ h
    obtain ⟨m,D,a2,h⟩:=BZ h
    obtain ⟨hn,h⟩:=Ah h
    obtain ⟨hs,h⟩:=Ah h
    have hs:=A4.1 hs
    have:=Ad h
    simp only [Prod.mk.injEq] at this
    obtain ⟨rfl,rfl⟩:=this
    have hA:Bw [v1,u1] [.sl 1 n (fun u=>.sl 1 (C u).1 (fun i=>iV ((C u).2 i))),.sl 1 m (fun u=>.sl 1 (D u).1 (fun i=>iV ((D u).2 i)))]:=fun S w cs hv=>by
      obtain ⟨c,l,rfl,q1,c',l',rfl,q2,q3⟩:=hv
      exact ⟨c,_,rfl,a1 S w c q1,c',l',rfl,a2 S w c' q2,q3⟩
    generalize hln:(fun i=>(C i).1) = ln
    generalize hco:(fun i=>(C i).2) = co
    generalize hln':(fun i=>(D i).1) = ln'
    generalize hco':(fun i=>(D i).2) = co'
    have hx:=AP ZX [(0,RO n ln co m ln' co')] (G:=Gl)
    have hL:=AD [(0,RO n ln co m ln' co')]
    refine ⟨_,AI Gl VT [(0,RO n ln co m ln' co')],_,hA,rfl,hx.1,hx.2,?_,A6.refl _⟩
    have hs:∀ k,k < n->Ab (ln k) = true:=fun k hk=>by rw [<- hln]; exact hs k hk
    have e1:∀ u,(C u).1 = ln u:=fun u=>by rw [<- hln]
    have e2:∀ u,(C u).2 = co u:=fun u=>by rw [<- hco]
    have e3:∀ u,(D u).1 = ln' u:=fun u=>by rw [<- hln']
    have e4:∀ u,(D u).2 = co' u:=fun u=>by rw [<- hco']
    simp only [e1,e2,e3,e4]
    cases hl:ieq (ofNat n) (ofNat m) with
    | false =>
      rw [show BJ n ln co m ln' co' = false from C5 hl]
      exact Ajg _ n ln co m ln' co' hl
    | true =>
      rw [show BJ n ln co m ln' co' = _ from B5 hl]
      have h0:=fun L j=>AbU L n ln co m ln' co' (F0 hn) (DQ hl) hs n 0 j (n+1) (by omega) (by omega) (fun k hk=>absurd hk (Nat.not_lt_zero _))
      cases ha:(Ai n fun k=>Bh (ln k) (co k) (ln' k) (co' k)) with
      | false=>exact A3 (Aw hL hL) _ (Ajh _ _ n ln co m ln' co' 0 hl (An ((h0 _ _).elim (fun h=>h.1) fun h=>by have:=h.2; rw [ha] at this; cases this)))
      | true=>exact A3 (Aw hL hL) _ (Aji _ _ n ln co m ln' co' 0 hl (An ((h0 _ _).elim (fun h=>by have:=h.2; rw [ha] at this; cases this) fun h=>h.1)))
  · cases h
def Cf (e e':Ev5):Bool:=Ag (ieq e.th e'.th) (Ag (ieq e.pl e'.pl) (Ag (ieq e.dir e'.dir) (Ag (ieq e.loc e'.loc) (Ag (ieq e.val e'.val) true))))
noncomputable def Mk:List (Nat × (List V->T (V × List Blk))):=[(60,AbO),(61,Ib),(62,Tw)]
theorem Aak:AC Try.prog Gl Mk:=.cons p42 <| .cons p61 <| .cons p62 .nil
section
variable (L:LT) (a:Int) (n:Nat) (g:Nat->E6) (m:Nat) (x:Nat->Ev5) (t k:Int) (p:Nat) (r:Nat->Int) (q:Nat) (ln:Nat->Nat) (co:Nat->Nat->Int) (a':Int) (n':Nat) (g':Nat->E6) (m':Nat) (x':Nat->Ev5) (t' k':Int) (p':Nat) (r':Nat->Int) (q':Nat) (ln':Nat->Nat) (co':Nat->Nat->Int)
include L a n g m x t k p r q ln co a' n' g' m' x' t' k' p' r' q' ln' co'
theorem AgN (h0:ieq a a' = false):(As (Aj tab ⟨Ao Mk,L,Gl⟩ Try.f16 [.agg (shL a n g m x t k p r q ln co),.agg (shL a' n' g' m' x' t' k' p' r' q' ln' co')] [])).sem = some ((bV false),[]):=Aa (bbK 42 4398046511103) ((fun c0 c1=>[c0,c0,c0,c0,c0,c0,c1,c1,c1,c1,c1,c1,c1,c1,c1,c1,c1,c1,c1,c1,c1,c1,c1,c1,c1,c1,c1,c1,c1,c1,c1,c1,c1,c1,c1,c1,c1,c1,c1,c1,c1,c1]) (Am (ieq a a')) (true)) (by kernel_rfl) (by simp only [h0] <;> rfl)
theorem AgM (h0:ieq a a' = true) (h1:ieq t t' = false):(As (Aj tab ⟨Ao Mk,L,Gl⟩ Try.f16 [.agg (shL a n g m x t k p r q ln co),.agg (shL a' n' g' m' x' t' k' p' r' q' ln' co')] [])).sem = some ((bV false),[]):=Aa (bbK 42 4398046511040) ((fun c0 c1 c2=>[c0,c0,c0,c0,c0,c0,c1,c1,c1,c1,c1,c1,c2,c2,c2,c2,c2,c2,c2,c2,c2,c2,c2,c2,c2,c2,c2,c2,c2,c2,c2,c2,c2,c2,c2,c2,c2,c2,c2,c2,c2,c2]) (Am (ieq a a')) (Am (ieq t t')) (true)) (by kernel_rfl) (by simp only [h0,h1] <;> rfl)
theorem AgL (h0:ieq a a' = true) (h1:ieq t t' = true) (h2:ieq k k' = false):(As (Aj tab ⟨Ao Mk,L,Gl⟩ Try.f16 [.agg (shL a n g m x t k p r q ln co),.agg (shL a' n' g' m' x' t' k' p' r' q' ln' co')] [])).sem = some ((bV false),[]):=Aa (bbK 42 4398046507008) ((fun c0 c1 c2 c3=>[c0,c0,c0,c0,c0,c0,c1,c1,c1,c1,c1,c1,c2,c2,c2,c2,c2,c2,c2,c3,c3,c3,c3,c3,c3,c3,c3,c3,c3,c3,c3,c3,c3,c3,c3,c3,c3,c3,c3,c3,c3,c3]) (Am (ieq a a')) (Am (ieq t t')) (Am (ieq k k')) (true)) (by kernel_rfl) (by simp only [*] <;> rfl)
theorem AgK (h0:ieq a a' = true) (h1:ieq t t' = true) (h2:ieq k k' = true) (h16:Ab n = true) (h3:Bm n g n' g' = false):(As (Aj tab ⟨Ao Mk,L,Gl⟩ Try.f16 [.agg (shL a n g m x t k p r q ln co),.agg (shL a' n' g' m' x' t' k' p' r' q' ln' co')] [])).sem = some ((bV false),[]):=Aa (bbK 45 35184368812032) ((fun c0 c1 c2 c3 c4=>[c0,c0,c0,c0,c0,c0,c1,c1,c1,c1,c1,c1,c2,c2,c2,c2,c2,Ai n (fun _=>true),Ai n' (fun _=>true),Ab n,c2,c2,c3,c3,c3,c3,c3,c3,c3,c3,c4,c4,c4,c4,c4,c4,c4,c4,c4,c4,c4,c4,c4,c4,c4]) (Am (ieq a a')) (Am (ieq t t')) (Am (ieq k k')) (Am (Bm n g n' g')) (true)) (by kernel_rfl) (by simp only [*,Ar] <;> rfl)
theorem AgJ (h0:ieq a a' = true) (h1:ieq t t' = true) (h2:ieq k k' = true) (h17:Ab n = true) (h3:Bm n g n' g' = true) (h4:ieq (ofNat m) (ofNat m') = false):(As (Aj tab ⟨Ao Mk,L,Gl⟩ Try.f16 [.agg (shL a n g m x t k p r q ln co),.agg (shL a' n' g' m' x' t' k' p' r' q' ln' co')] [])).sem = some ((bV false),[]):=Aa (bbK 45 35183299264512) ((fun c0 c1 c2 c3 c4 c5=>[c0,c0,c0,c0,c0,c0,c1,c1,c1,c1,c1,c1,c2,c2,c2,c2,c2,Ai n (fun _=>true),Ai n' (fun _=>true),Ab n,c2,c2,c3,c3,c3,c3,c3,c3,c3,c3,c4,c4,c4,c4,c4,c4,c4,c5,c5,c5,c5,c5,c5,c5,c5]) (Am (ieq a a')) (Am (ieq t t')) (Am (ieq k k')) (Am (Bm n g n' g')) (Am (ieq (ofNat m) (ofNat m'))) (true)) (by kernel_rfl) (by simp only [*,Ar] <;> rfl)
theorem AgI (h0:ieq a a' = true) (h1:ieq t t' = true) (h2:ieq k k' = true) (h18:Ab n = true) (h3:Bm n g n' g' = true) (h4:ieq (ofNat m) (ofNat m') = true) (h19:Ab p = true) (h5:Bh p r p' r' = false):(As (Aj tab ⟨Ao Mk,L,Gl⟩ Try.f16 [.agg (shL a n g m x t k p r q ln co),.agg (shL a' n' g' m' x' t' k' p' r' q' ln' co')] [])).sem = some ((bV false),[]):=Aa (bbK 48 280615984168960) ((fun c0 c1 c2 c3 c4 c5=>[c0,c0,c0,c0,c0,c0,c1,c1,c1,c1,c1,c1,c2,c2,c2,c2,c2,Ai n (fun _=>true),Ai n' (fun _=>true),Ab n,c2,c2,c3,c3,c3,c3,c3,c3,c3,c3,c4,c4,c4,c4,c4,Ai p (fun _=>true),Ai p' (fun _=>true),Ab p,c4,c4,c5,c5,c5,c5,c5,c5,c5,true]) (Am (ieq a a')) (Am (ieq t t')) (Am (ieq k k')) (Am (Bm n g n' g')) (Am (ieq (ofNat m) (ofNat m'))) (Am (Bh p r p' r'))) (by kernel_rfl) (by simp only [*,Ar] <;> rfl)
theorem AgH (h0:ieq a a' = true) (h1:ieq t t' = true) (h2:ieq k k' = true) (h19:Ab n = true) (h3:Bm n g n' g' = true) (h4:ieq (ofNat m) (ofNat m') = true) (h20:Ab p = true) (h5:Bh p r p' r' = true) (h21:Ai q (fun i=>Ai (ln i) (fun _=>true)) = true) (h22:Ai q' (fun i=>Ai (ln' i) (fun _=>true)) = true) (h23:Ab q = true) (h24:Ai q (fun i=>Ab (ln i)) = true) (h6:BJ q ln (fun i i_1=>co i i_1) q' ln' (fun i i_1=>co' i i_1) = false):(As (Aj tab ⟨Ao Mk,L,Gl⟩ Try.f16 [.agg (shL a n g m x t k p r q ln co),.agg (shL a' n' g' m' x' t' k' p' r' q' ln' co')] [])).sem = some ((bV false),[]):=Aa (bbK 52 2779805914103808) ((fun c0 c1 c2 c3 c4 c5=>[c0,c0,c0,c0,c0,c0,c1,c1,c1,c1,c1,c1,c2,c2,c2,c2,c2,Ai n (fun _=>true),Ai n' (fun _=>true),Ab n,c2,c2,c3,c3,c3,c3,c3,c3,c3,c3,c4,c4,c4,c4,c4,Ai p (fun _=>true),Ai p' (fun _=>true),Ab p,c4,c4,c5,c5,c5,c5,c5,Ai q (fun i=>Ai (ln i) (fun _=>true)),Ai q' (fun i=>Ai (ln' i) (fun _=>true)),Ab q,Ai q (fun i=>Ab (ln i)),c5,c5,Am (BJ q ln (fun i i_1=>co i i_1) q' ln' (fun i i_1=>co' i i_1))]) (Am (ieq a a')) (Am (ieq t t')) (Am (ieq k k')) (Am (Bm n g n' g')) (Am (ieq (ofNat m) (ofNat m'))) (Am (Bh p r p' r'))) (by kernel_rfl) (by simp only [*,Ar] <;> rfl)
end
def RS (_:Int) (_:Nat) (_:Nat->E6) (m:Nat) (_:Nat->Ev5) (_ _:Int) (_:Nat) (_:Nat->Int) (_:Nat) (_:Nat->Nat) (_:Nat->Nat->Int) (_:Int) (_:Nat) (_:Nat->E6) (_:Nat) (_:Nat->Ev5) (_ _:Int) (_:Nat) (_:Nat->Int) (_:Nat) (_:Nat->Nat) (_:Nat->Nat->Int):Lp:=⟨(bmK 76 0 [2,3,4,5]),2,bmK 76 0 [4],0,m+1⟩
def PK (a:Int) (n:Nat) (g:Nat->E6) (m:Nat) (x:Nat->Ev5) (t k:Int) (p:Nat) (r:Nat->Int) (q:Nat) (ln:Nat->Nat) (co:Nat->Nat->Int) (a':Int) (n':Nat) (g':Nat->E6) (m':Nat) (x':Nat->Ev5) (t' k':Int) (p':Nat) (r':Nat->Int) (q':Nat) (ln':Nat->Nat) (co':Nat->Nat->Int) (b:Nat) (j:Nat->V):St:=⟨(jsV 76 0 j [(2,.ptr 0 0),(3,.ptr 1 0),(4,bV false),(5,nV b)]),[.cells (shL a n g m x t k p r q ln co),.cells (shL a' n' g' m' x' t' k' p' r' q' ln' co')]⟩
def V9 (_:Int) (_:Nat) (_:Nat->E6) (_:Nat) (_:Nat->Ev5) (_ _:Int) (_:Nat) (_:Nat->Int) (_:Nat) (_:Nat->Nat) (_:Nat->Nat->Int) (_:Int) (_:Nat) (_:Nat->E6) (_:Nat) (_:Nat->Ev5) (_ _:Int) (_:Nat) (_:Nat->Int) (_:Nat) (_:Nat->Nat) (_:Nat->Nat->Int) (_:Nat):Ex × St:=(.rt,⟨(jsV 76 0 (fun _=>.und) [(4,bV false)]),[]⟩)
def VA (_:Int) (_:Nat) (_:Nat->E6) (_:Nat) (_:Nat->Ev5) (_ _:Int) (_:Nat) (_:Nat->Int) (_:Nat) (_:Nat->Nat) (_:Nat->Nat->Int) (_:Int) (_:Nat) (_:Nat->E6) (_:Nat) (_:Nat->Ev5) (_ _:Int) (_:Nat) (_:Nat->Int) (_:Nat) (_:Nat->Nat) (_:Nat->Nat->Int) (_:Nat):Ex × St:=(.ex 0,⟨(jsV 76 0 (fun _=>.und) [(4,bV false)]),[]⟩)
noncomputable def HD (L:LT):St->T (Ex × St):=fun st=>AE tab ⟨Ao Mk,L,Gl⟩ (Az Try.f16 0) 0 st
section
variable (L:LT) (a:Int) (n:Nat) (g:Nat->E6) (m:Nat) (x:Nat->Ev5) (t k:Int) (p:Nat) (r:Nat->Int) (q:Nat) (ln:Nat->Nat) (co:Nat->Nat->Int) (a':Int) (n':Nat) (g':Nat->E6) (m':Nat) (x':Nat->Ev5) (t' k':Int) (p':Nat) (r':Nat->Int) (q':Nat) (ln':Nat->Nat) (co':Nat->Nat->Int) (b:Nat)  (j:Nat->V)
include L a n g m x t k p r q ln co a' n' g' m' x' t' k' p' r' q' ln' co' b j
theorem Aku (h0:ilt (ofNat b) (ofNat m) = false):Al (HD L) (RS a n g m x t k p r q ln co a' n' g' m' x' t' k' p' r' q' ln' co') (PK a n g m x t k p r q ln co a' n' g' m' x' t' k' p' r' q' ln' co' b j) = some ((.ex 0),⟨(jsV 76 0 (fun _=>.und) [(4,(bV false))]),[]⟩):=Aa [false] [ilt (ofNat b) (ofNat m)] (by kernel_rfl) (by simp only [h0] <;> rfl)
theorem Aks (h0:ilt (ofNat b) (ofNat m) = true) (h15:ile 0 (ofNat b) = true) (h1:ilt (ofNat b) (ofNat m') = true) (h2:Ag (ieq ((x b)).th ((x' b)).th) (Ag (ieq ((x b)).pl ((x' b)).pl) (Ag (ieq ((x b)).dir ((x' b)).dir) (Ag (ieq ((x b)).loc ((x' b)).loc) (Ag (ieq ((x b)).val ((x' b)).val) true)))) = true):Al (HD L) (RS a n g m x t k p r q ln co a' n' g' m' x' t' k' p' r' q' ln' co') (PK a n g m x t k p r q ln co a' n' g' m' x' t' k' p' r' q' ln' co' b j) = some (.nm,⟨(jsV 76 0 (fun _=>.und) [(2,(.ptr 0 0)),(3,(.ptr 1 0)),(4,(bV false)),(5,(iV (wr .i64 (Af (ofNat b) 1))))]),[.cells (shL a n g m x t k p r q ln co),.cells (shL a' n' g' m' x' t' k' p' r' q' ln' co')]⟩):=Aa [true,true,true,false] [ilt (ofNat b) (ofNat m),Ag (ile 0 (ofNat b)) (ilt (ofNat b) (ofNat m)),Ag (ile 0 (ofNat b)) (ilt (ofNat b) (ofNat m')),Am (Ag (ieq ((x b)).th ((x' b)).th) (Ag (ieq ((x b)).pl ((x' b)).pl) (Ag (ieq ((x b)).dir ((x' b)).dir) (Ag (ieq ((x b)).loc ((x' b)).loc) (Ag (ieq ((x b)).val ((x' b)).val) true)))))] (by kernel_rfl) (by simp only [h2] <;> simp only [*] <;> rfl)
theorem Akt (h0:ilt (ofNat b) (ofNat m) = true) (h15:ile 0 (ofNat b) = true) (h1:ilt (ofNat b) (ofNat m') = true) (h2:Ag (ieq ((x b)).th ((x' b)).th) (Ag (ieq ((x b)).pl ((x' b)).pl) (Ag (ieq ((x b)).dir ((x' b)).dir) (Ag (ieq ((x b)).loc ((x' b)).loc) (Ag (ieq ((x b)).val ((x' b)).val) true)))) = false):Al (HD L) (RS a n g m x t k p r q ln co a' n' g' m' x' t' k' p' r' q' ln' co') (PK a n g m x t k p r q ln co a' n' g' m' x' t' k' p' r' q' ln' co' b j) = some (.rt,⟨(jsV 76 0 (fun _=>.und) [(4,(bV false))]),[]⟩):=Aa [true,true,true,true] [ilt (ofNat b) (ofNat m),Ag (ile 0 (ofNat b)) (ilt (ofNat b) (ofNat m)),Ag (ile 0 (ofNat b)) (ilt (ofNat b) (ofNat m')),Am (Ag (ieq ((x b)).th ((x' b)).th) (Ag (ieq ((x b)).pl ((x' b)).pl) (Ag (ieq ((x b)).dir ((x' b)).dir) (Ag (ieq ((x b)).loc ((x' b)).loc) (Ag (ieq ((x b)).val ((x' b)).val) true)))))] (by kernel_rfl) (by simp only [h2] <;> simp only [*] <;> rfl)
end
def Abv (a:Int) (n:Nat) (g:Nat->E6) (m:Nat) (x:Nat->Ev5) (t k:Int) (p:Nat) (r:Nat->Int) (q:Nat) (ln:Nat->Nat) (co:Nat->Nat->Int) (a':Int) (n':Nat) (g':Nat->E6) (m':Nat) (x':Nat->Ev5) (t' k':Int) (p':Nat) (r':Nat->Int) (q':Nat) (ln':Nat->Nat) (co':Nat->Nat->Int) :Nat->V:=lkV A8 [(0,(.agg (shL a n g m x t k p r q ln co))),(1,(.agg (shL a' n' g' m' x' t' k' p' r' q' ln' co'))),(6,(.ptr 0 0)),(7,(iV a)),(8,(.ptr 1 0)),(9,(iV a')),(10,(bV (Am (ieq a a')))),(11,(bV (Am (ieq a a')))),(12,(.ptr 0 3)),(13,(iV t)),(14,(.ptr 1 3)),(15,(iV t')),(16,(bV (Am (ieq t t')))),(17,(bV (Am (ieq t t')))),(18,(bV (Am (ieq t t')))),(19,(.ptr 0 4)),(20,(iV k)),(21,(.ptr 1 4)),(22,(iV k')),(23,(bV (Am (ieq k k')))),(24,(bV (Am (ieq k k')))),(25,(bV (Am (ieq k k')))),(26,(.ptr 0 1)),(27,(.sl 6 n (fun i=>eV (g i)))),(28,(.ptr 1 1)),(29,(.sl 6 n' (fun i=>eV (g' i)))),(30,(bV (Bm n g n' g'))),(31,(bV (Am (Bm n g n' g')))),(32,(bV (Am (Bm n g n' g')))),(33,(bV (Am (Bm n g n' g')))),(34,(.ptr 0 2)),(35,(.sl 5 m (fun i=>evV (x i)))),(36,(nV m)),(37,(.ptr 1 2)),(38,(.sl 5 m' (fun i=>evV (x' i)))),(39,(iV (ofNat m'))),(40,(bV (Am (ieq (ofNat m) (ofNat m'))))),(41,(bV (Am (ieq (ofNat m) (ofNat m'))))),(42,(bV (Am (ieq (ofNat m) (ofNat m'))))),(43,(.ptr 0 5)),(44,(.sl 1 p (fun i=>iV (r i)))),(45,(.ptr 1 5)),(46,(.sl 1 p' (fun i=>iV (r' i)))),(47,(bV (Bh p r p' r'))),(48,(bV (Am (Bh p r p' r')))),(49,(bV (Am (Bh p r p' r')))),(50,(bV (Am (Bh p r p' r')))),(51,(.ptr 0 6)),(52,(.sl 1 q (fun u=>.sl 1 (ln u) (fun i=>iV (co u i))))),(53,(.ptr 1 6)),(54,(.sl 1 q' (fun u=>.sl 1 (ln' u) (fun i=>iV (co' u i))))),(55,(bV (BJ q ln (fun i i_1=>co i i_1) q' ln' (fun i i_1=>co' i i_1)))),(56,(bV (Am (BJ q ln (fun i i_1=>co i i_1) q' ln' (fun i i_1=>co' i i_1))))),(57,(bV (Am (BJ q ln (fun i i_1=>co i i_1) q' ln' (fun i i_1=>co' i i_1)))))]
section
variable (L:LT) (p0:PT) (a:Int) (n:Nat) (g:Nat->E6) (m:Nat) (x:Nat->Ev5) (t k:Int) (p:Nat) (r:Nat->Int) (q:Nat) (ln:Nat->Nat) (co:Nat->Nat->Int) (a':Int) (n':Nat) (g':Nat->E6) (m':Nat) (x':Nat->Ev5) (t' k':Int) (p':Nat) (r':Nat->Int) (q':Nat) (ln':Nat->Nat) (co':Nat->Nat->Int) (z:Nat)
include L p0 a n g m x t k p r q ln co a' n' g' m' x' t' k' p' r' q' ln' co' z
theorem AjI (h0:ieq a a' = true) (h1:ieq t t' = true) (h2:ieq k k' = true) (h19:Ab n = true) (h3:Bm n g n' g' = true) (h4:ieq (ofNat m) (ofNat m') = true) (h20:Ab p = true) (h5:Bh p r p' r' = true) (h21:Ai q (fun i=>Ai (ln i) (fun _=>true)) = true) (h22:Ai q' (fun i=>Ai (ln' i) (fun _=>true)) = true) (h23:Ab q = true) (h24:Ai q (fun i=>Ab (ln i)) = true) (h6:BJ q ln (fun i i_1=>co i i_1) q' ln' (fun i i_1=>co' i i_1) = true) (hp0:p0 (HD (onP 0 p0 (V9 a n g m x t k p r q ln co a' n' g' m' x' t' k' p' r' q' ln' co' z) L)) (PK a n g m x t k p r q ln co a' n' g' m' x' t' k' p' r' q' ln' co' 0 (Abv a n g m x t k p r q ln co a' n' g' m' x' t' k' p' r' q' ln' co' )) = true):(As (Aj tab ⟨Ao Mk,onP 0 p0 (V9 a n g m x t k p r q ln co a' n' g' m' x' t' k' p' r' q' ln' co' z) L,Gl⟩ Try.f16 [.agg (shL a n g m x t k p r q ln co),.agg (shL a' n' g' m' x' t' k' p' r' q' ln' co')] [])).sem = some ((bV false),[]):=Aa (bbK 53 5031605727789056) ((fun c0 c1 c2 c3 c4 c5=>[c0,c0,c0,c0,c0,c0,c1,c1,c1,c1,c1,c1,c2,c2,c2,c2,c2,Ai n (fun _=>true),Ai n' (fun _=>true),Ab n,c2,c2,c3,c3,c3,c3,c3,c3,c3,c3,c4,c4,c4,c4,c4,Ai p (fun _=>true),Ai p' (fun _=>true),Ab p,c4,c4,c5,c5,c5,c5,c5,Ai q (fun i=>Ai (ln i) (fun _=>true)),Ai q' (fun i=>Ai (ln' i) (fun _=>true)),Ab q,Ai q (fun i=>Ab (ln i)),c5,c5,Am (BJ q ln (fun i i_1=>co i i_1) q' ln' (fun i i_1=>co' i i_1)),p0 (HD (onP 0 p0 (V9 a n g m x t k p r q ln co a' n' g' m' x' t' k' p' r' q' ln' co' z) L)) (PK a n g m x t k p r q ln co a' n' g' m' x' t' k' p' r' q' ln' co' 0 (Abv a n g m x t k p r q ln co a' n' g' m' x' t' k' p' r' q' ln' co' ))]) (Am (ieq a a')) (Am (ieq t t')) (Am (ieq k k')) (Am (Bm n g n' g')) (Am (ieq (ofNat m) (ofNat m'))) (Am (Bh p r p' r'))) (by kernel_rfl) (by simp only [hp0] <;> simp only [*,Ar] <;> rfl)
theorem AjJ (h0:ieq a a' = true) (h1:ieq t t' = true) (h2:ieq k k' = true) (h19:Ab n = true) (h3:Bm n g n' g' = true) (h4:ieq (ofNat m) (ofNat m') = true) (h20:Ab p = true) (h5:Bh p r p' r' = true) (h21:Ai q (fun i=>Ai (ln i) (fun _=>true)) = true) (h22:Ai q' (fun i=>Ai (ln' i) (fun _=>true)) = true) (h23:Ab q = true) (h24:Ai q (fun i=>Ab (ln i)) = true) (h6:BJ q ln (fun i i_1=>co i i_1) q' ln' (fun i i_1=>co' i i_1) = true) (hp0:p0 (HD (onP 0 p0 (VA a n g m x t k p r q ln co a' n' g' m' x' t' k' p' r' q' ln' co' z) L)) (PK a n g m x t k p r q ln co a' n' g' m' x' t' k' p' r' q' ln' co' 0 (Abv a n g m x t k p r q ln co a' n' g' m' x' t' k' p' r' q' ln' co' )) = true):(As (Aj tab ⟨Ao Mk,onP 0 p0 (VA a n g m x t k p r q ln co a' n' g' m' x' t' k' p' r' q' ln' co' z) L,Gl⟩ Try.f16 [.agg (shL a n g m x t k p r q ln co),.agg (shL a' n' g' m' x' t' k' p' r' q' ln' co')] [])).sem = some ((bV true),[]):=Aa (bbK 53 5031605727789056) ((fun c0 c1 c2 c3 c4 c5=>[c0,c0,c0,c0,c0,c0,c1,c1,c1,c1,c1,c1,c2,c2,c2,c2,c2,Ai n (fun _=>true),Ai n' (fun _=>true),Ab n,c2,c2,c3,c3,c3,c3,c3,c3,c3,c3,c4,c4,c4,c4,c4,Ai p (fun _=>true),Ai p' (fun _=>true),Ab p,c4,c4,c5,c5,c5,c5,c5,Ai q (fun i=>Ai (ln i) (fun _=>true)),Ai q' (fun i=>Ai (ln' i) (fun _=>true)),Ab q,Ai q (fun i=>Ab (ln i)),c5,c5,Am (BJ q ln (fun i i_1=>co i i_1) q' ln' (fun i i_1=>co' i i_1)),p0 (HD (onP 0 p0 (VA a n g m x t k p r q ln co a' n' g' m' x' t' k' p' r' q' ln' co' z) L)) (PK a n g m x t k p r q ln co a' n' g' m' x' t' k' p' r' q' ln' co' 0 (Abv a n g m x t k p r q ln co a' n' g' m' x' t' k' p' r' q' ln' co' ))]) (Am (ieq a a')) (Am (ieq t t')) (Am (ieq k k')) (Am (Bm n g n' g')) (Am (ieq (ofNat m) (ofNat m'))) (Am (Bh p r p' r'))) (by kernel_rfl) (by simp only [hp0] <;> simp only [*,Ar] <;> rfl)
end
theorem Ace (L:LT) (a:Int) (n:Nat) (g:Nat->E6) (m:Nat) (x:Nat->Ev5) (t k:Int) (p:Nat) (r:Nat->Int) (q:Nat) (ln:Nat->Nat) (co:Nat->Nat->Int) (a':Int) (n':Nat) (g':Nat->E6) (m':Nat) (x':Nat->Ev5) (t' k':Int) (p':Nat) (r':Nat->Int) (q':Nat) (ln':Nat->Nat) (co':Nat->Nat->Int) (hn:m <= 4611686018427387904) (hm:m = m'):∀ (e b:Nat) (j:Nat->V) (z:Nat),m = b+e->e < z->(∀ k,k < b->Cf (x k) (x' k) = true) ->
    ((A7 (HD L) (RS a n g m x t k p r q ln co a' n' g' m' x' t' k' p' r' q' ln' co') z (PK a n g m x t k p r q ln co a' n' g' m' x' t' k' p' r' q' ln' co' b j)).sem = some (V9 a n g m x t k p r q ln co a' n' g' m' x' t' k' p' r' q' ln' co' 0) ∧ (Ai m fun k=>Cf (x k) (x' k)) = false) ∨ ((A7 (HD L) (RS a n g m x t k p r q ln co a' n' g' m' x' t' k' p' r' q' ln' co') z (PK a n g m x t k p r q ln co a' n' g' m' x' t' k' p' r' q' ln' co' b j)).sem = some (VA a n g m x t k p r q ln co a' n' g' m' x' t' k' p' r' q' ln' co' 0) ∧ (Ai m fun k=>Cf (x k) (x' k)) = true)
  | 0,b,j,z+1,h,_,hb=>by
    have:m = b:=by omega
    subst this
    exact .inr ⟨Ac (Aku L a n g m x t k p r q ln co a' n' g' m' x' t' k' p' r' q' ln' co' m j (AA (Nat.le_refl _))),A4.2 hb⟩
  | e+1,b,j,z+1,h,h2,hb=>by
    have hl:b < m:=by omega
    cases hp:Cf (x b) (x' b) with
    | false =>
      refine .inl ⟨?_,?_⟩
      · rw [Ac (Akt L a n g m x t k p r q ln co a' n' g' m' x' t' k' p' r' q' ln' co' b j (ofNat_lt hl) (AH b) (ofNat_lt (by omega)) hp),Du]
        rfl
      · cases ha:(Ai m fun k=>Cf (x k) (x' k)) with
        | false=>rfl
        | true =>
          have:=A4.1 ha b hl
          rw [hp] at this
          cases this
    | true =>
      have next:=Ace L a n g m x t k p r q ln co a' n' g' m' x' t' k' p' r' q' ln' co' hn hm e (b+1) (fun _=>.und) z (by omega) (by omega) fun k hk=>by
        by_cases hki:k = b
        · rw [hki]; exact hp
        · exact hb k (by omega)
      rw [Ac (Aks L a n g m x t k p r q ln co a' n' g' m' x' t' k' p' r' q' ln' co' b j (ofNat_lt hl) (AH b) (ofNat_lt (by omega)) hp),Av,Aq hl hn]
      exact next
def OQ (s s':Sh7):Bool:=Ag (ieq s.arch s'.arch) (Ag (ieq s.tt s'.tt) (Ag (ieq s.kk s'.kk) (Ag (Bm s.ne s.E s'.ne s'.E) (Ag (ieq (ofNat s.nx) (ofNat s'.nx)) (Ag (Bh s.nr s.R s'.nr s'.R)
  (Ag (BJ s.nc (fun i=>(s.C i).1) (fun i=>(s.C i).2) s'.nc (fun i=>(s'.C i).1) (fun i=>(s'.C i).2)) (Ai s.nx fun k=>Cf (s.X k) (s'.X k))))))))
def Dx (s:Sh7):Bool:=Ag (Ab s.ne) (Ag (Ab s.nx) (Ag (Ab s.nr) (Ag (Ab s.nc) (Ai s.nc fun i=>Ab (s.C i).1))))
def JA:List V->T (V × List Blk)
  | [v,u]=>apS v fun s=>apS u fun s'=>.br (Dx s) (.leaf (bV (OQ s s'),[])) .fail
  | _=>.fail
theorem p16:AB Try.prog Gl 16 JA:=by
  refine A1 AQ AR Try.func16 (by kernel_rfl) (by kernel_rfl) fun vs v h' h=>?_
  unfold JA at h
  split at h
  · rename_i v1 u1
    obtain ⟨s,a1,h⟩:=Ci h
    obtain ⟨s',a2,h⟩:=Ci h
    obtain ⟨hn,h⟩:=Ah h
    have:=Ad h
    simp only [Prod.mk.injEq] at this
    obtain ⟨rfl,rfl⟩:=this
    obtain ⟨a,n,g,m,x,t,k,p,r,q,C⟩:=s
    obtain ⟨a',n',g',m',x',t',k',p',r',q',D⟩:=s'
    have hA:Bw [v1,u1] [.agg [iV a,.sl 6 n (fun i=>eV (g i)),.sl 5 m (fun i=>evV (x i)),iV t,iV k,.sl 1 p (fun i=>iV (r i)),.sl 1 q (fun u=>.sl 1 (C u).1 (fun i=>iV ((C u).2 i)))],
        .agg [iV a',.sl 6 n' (fun i=>eV (g' i)),.sl 5 m' (fun i=>evV (x' i)),iV t',iV k',.sl 1 p' (fun i=>iV (r' i)),.sl 1 q' (fun u=>.sl 1 (D u).1 (fun i=>iV ((D u).2 i)))]]:=fun S w cs hv=>by
      obtain ⟨c,l,rfl,q1,c',l',rfl,q2,q3⟩:=hv
      exact ⟨c,_,rfl,a1 S w c q1,c',l',rfl,a2 S w c' q2,q3⟩
    have hn:Ab n = true ∧ Ab m = true ∧ Ab p = true ∧ Ab q = true ∧ (Ai q fun i=>Ab (C i).1) = true:=by simpa [Dx,Ag] using hn
    obtain ⟨n1,n2,n3,n4,n5⟩:=hn
    unfold OQ
    dsimp only
    generalize hln:(fun i=>(C i).1) = ln
    generalize hco:(fun i=>(C i).2) = co
    generalize hln':(fun i=>(D i).1) = ln'
    generalize hco':(fun i=>(D i).2) = co'
    have hx:=AP Aak [(0,RS a n g m x t k p r q ln co a' n' g' m' x' t' k' p' r' q' ln' co')] (G:=Gl)
    have hL:=AD [(0,RS a n g m x t k p r q ln co a' n' g' m' x' t' k' p' r' q' ln' co')]
    refine ⟨_,AI Gl Mk [(0,RS a n g m x t k p r q ln co a' n' g' m' x' t' k' p' r' q' ln' co')],_,hA,rfl,hx.1,hx.2,?_,A6.refl _⟩
    have e1:∀ u,(C u).1 = ln u:=fun u=>by rw [<- hln]
    have e2:∀ u,(C u).2 = co u:=fun u=>by rw [<- hco]
    have e3:∀ u,(D u).1 = ln' u:=fun u=>by rw [<- hln']
    have e4:∀ u,(D u).2 = co' u:=fun u=>by rw [<- hco']
    simp only [e1,e2,e3,e4] at n5 ⊢
    have Cs:∀ (q:Nat) (ln:Nat->Nat),(Ai q fun i=>Ai (ln i) fun _=>true) = true:=fun _ _=>A4.2 fun _ _=>A4.2 fun _ _=>rfl
    cases c0:ieq a a' with
    | false=>rw [C5 rfl]; exact AgN _ a n g m x t k p r q ln co a' n' g' m' x' t' k' p' r' q' ln' co' c0
    | true =>
    rw [B5 rfl]
    cases c1:ieq t t' with
    | false=>rw [C5 rfl]; exact AgM _ a n g m x t k p r q ln co a' n' g' m' x' t' k' p' r' q' ln' co' c0 c1
    | true =>
    rw [B5 rfl]
    cases c2:ieq k k' with
    | false=>rw [C5 rfl]; exact AgL _ a n g m x t k p r q ln co a' n' g' m' x' t' k' p' r' q' ln' co' c0 c1 c2
    | true =>
    rw [B5 rfl]
    cases c3:Bm n g n' g' with
    | false=>rw [C5 rfl]; exact AgK _ a n g m x t k p r q ln co a' n' g' m' x' t' k' p' r' q' ln' co' c0 c1 c2 n1 c3
    | true =>
    rw [B5 rfl]
    cases c4:ieq (ofNat m) (ofNat m') with
    | false=>rw [C5 rfl]; exact AgJ _ a n g m x t k p r q ln co a' n' g' m' x' t' k' p' r' q' ln' co' c0 c1 c2 n1 c3 c4
    | true =>
    rw [B5 rfl]
    cases c5:Bh p r p' r' with
    | false=>rw [C5 rfl]; exact AgI _ a n g m x t k p r q ln co a' n' g' m' x' t' k' p' r' q' ln' co' c0 c1 c2 n1 c3 c4 n3 c5
    | true =>
    rw [B5 rfl]
    cases c6:BJ q ln co q' ln' co' with
    | false=>rw [C5 rfl]; exact AgH _ a n g m x t k p r q ln co a' n' g' m' x' t' k' p' r' q' ln' co' c0 c1 c2 n1 c3 c4 n3 c5 (Cs _ _) (Cs _ _) n4 n5 c6
    | true =>
    rw [B5 rfl]
    have h0:=fun L j=>Ace L a n g m x t k p r q ln co a' n' g' m' x' t' k' p' r' q' ln' co' (F0 n2) (DQ c4) m 0 j (m+1) (by omega) (by omega) (fun k hk=>absurd hk (Nat.not_lt_zero _))
    cases ha:(Ai m fun k=>Cf (x k) (x' k)) with
    | false=>exact A3 (Aw hL hL) _ (AjI _ _ a n g m x t k p r q ln co a' n' g' m' x' t' k' p' r' q' ln' co' 0 c0 c1 c2 n1 c3 c4 n3 c5 (Cs _ _) (Cs _ _) n4 n5 c6 (An ((h0 _ _).elim (fun h=>h.1) fun h=>by have:=h.2; rw [ha] at this; cases this)))
    | true=>exact A3 (Aw hL hL) _ (AjJ _ _ a n g m x t k p r q ln co a' n' g' m' x' t' k' p' r' q' ln' co' 0 c0 c1 c2 n1 c3 c4 n3 c5 (Cs _ _) (Cs _ _) n4 n5 c6 (An ((h0 _ _).elim (fun h=>by have:=h.2; rw [ha] at this; cases this) fun h=>h.1)))
  · cases h
end Go.Proofs.Ytjhnfomefcngfaa.Sh
