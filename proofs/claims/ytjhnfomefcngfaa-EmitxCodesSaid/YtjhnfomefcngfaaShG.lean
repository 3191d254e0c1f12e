/-
  Layer 7: whether lists of numbers, lists of these, shapes are the same. No conditions.
-/
import Derived.Test.YtjhnfomefcngfaaShF
namespace Go.Proofs.Ytjhnfomefcngfaa.Sh
open Go.Sy Ed
open Int (ofNat)
set_option maxHeartbeats 1000000
set_option maxRecDepth 4000
theorem Fx {n:Nat} (h:Ag n = true):n <= 4611686018427387904:=of_decide_eq_true h
theorem Bg {a b:Bool} (h:a = true):Ak a b = b:=by rw [h]; rfl
theorem C1 {a b:Bool} (h:a = false):Ak a b = false:=by rw [h]; rfl
theorem DJ {n m:Nat} (h:ieq (ofNat n) (ofNat m) = true):n = m:=by
 rw [Dv] at h
 exact of_decide_eq_true h
def B3 (n:Nat) (f:Nat->Int) (m:Nat) (g:Nat->Int):Bool:=Ak (ieq (ofNat n) (ofNat m)) (A5 n λk=>ieq (f k) (g k))
def SO (n:Nat) (_:Nat->Int) (_:Nat) (_:Nat->Int):Lp:=⟨(bmK 26 0 [0,1,4,5]),0,bmK 26 0 [4],0,n+1⟩
def Uh (n:Nat) (f:Nat->Int) (m:Nat) (g:Nat->Int) (b:Nat) (j:Nat->V):St:=⟨(jsV 26 0 j [(0,.sl 1 n (λi=>iV (f i))),(1,.sl 1 m (λi=>iV (g i))),(4,bV false),(5,nV b)]),[]⟩
def AaJ (_:Nat) (_:Nat->Int) (_:Nat) (_:Nat->Int) (_:Nat):Ex × St:=(.rt,⟨(jsV 26 0 (λ_=>.und) [(4,bV false)]),[]⟩)
def AaK (_:Nat) (_:Nat->Int) (_:Nat) (_:Nat->Int) (_:Nat):Ex × St:=(.ex 0,⟨(jsV 26 0 (λ_=>.und) [(4,bV false)]),[]⟩)
noncomputable def JI (L:LT):St->T (Ex × St):=λst=>AC tab ⟨Am tb0,L,Gl⟩ (Au Try.f61 0) 0 st
section
variable (L:LT) (n:Nat) (f:Nat->Int) (m:Nat) (g:Nat->Int) (b:Nat)  (j:Nat->V)
include L n f m g b j
theorem Ane (h0:ilt (ofNat b) (ofNat n) = false):Ah (JI L) (SO n f m g) (Uh n f m g b j) = some ((.ex 0),⟨(jsV 26 0 (λ_=>.und) [(4,(bV false))]),[]⟩):=by
 exact Aa (ks:=[kn h0]) (by kernel_rfl)
theorem And (h0:ilt (ofNat b) (ofNat n) = true) (h15:ile 0 (ofNat b) = true) (h1:ilt (ofNat b) (ofNat m) = true) (h2:ieq (f b) (g b) = false):Ah (JI L) (SO n f m g) (Uh n f m g b j) = some (.rt,⟨(jsV 26 0 (λ_=>.und) [(4,(bV false))]),[]⟩):=by
 exact Aa (ks:=[kn h0,kA (kn h15) (kn h0),kA (kn h15) (kn h1),kN (kn h2)]) (by kernel_rfl)
theorem Anc (h0:ilt (ofNat b) (ofNat n) = true) (h15:ile 0 (ofNat b) = true) (h1:ilt (ofNat b) (ofNat m) = true) (h2:ieq (f b) (g b) = true):Ah (JI L) (SO n f m g) (Uh n f m g b j) = some (.nm,⟨(jsV 26 0 (λ_=>.und) [(0,(.sl 1 n (λi=>(iV (f i))))),(1,(.sl 1 m (λi=>(iV (g i))))),(4,(bV false)),(5,(iV (wr .i64 (Af (ofNat b) 1))))]),[]⟩):=by
 exact Aa (ks:=[kn h0,kA (kn h15) (kn h0),kA (kn h15) (kn h1),kN (kn h2)]) (by kernel_rfl)
end
def Alw (n:Nat) (f:Nat->Int) (m:Nat) (g:Nat->Int) :Nat->V:=lkV A9 [(6,(.sl 1 n (λi=>iV (f i)))),(7,(nV n)),(8,(.sl 1 m (λi=>iV (g i)))),(9,(nV m)),(10,(bV (AG (ieq (ofNat n) (ofNat m)))))]
theorem Amu (L:LT) (n:Nat) (f:Nat->Int) (m:Nat) (g:Nat->Int) (h0:ieq (ofNat n) (ofNat m) = false):(Ar (Ai tab ⟨Am tb0,L,Gl⟩ Try.f61 [.sl 1 n (λi=>iV (f i)),.sl 1 m (λi=>iV (g i))] [])).sem = some ((bV false),[]):=by
 exact Aa (ks:=[kN (kn h0)]) (by kernel_rfl)
section
variable (L:LT) (p0:PT) (n:Nat) (f:Nat->Int) (m:Nat) (g:Nat->Int) (q:Nat)
include L p0 n f m g q
theorem Amv (h0:ieq (ofNat n) (ofNat m) = true) (hp0:p0 (JI (onP 0 p0 (AaJ n f m g q) L)) (Uh n f m g 0 (Alw n f m g )) = true):(Ar (Ai tab ⟨Am tb0,(onP 0 p0 (AaJ n f m g q) L),Gl⟩ Try.f61 [.sl 1 n (λi=>iV (f i)),.sl 1 m (λi=>iV (g i))] [])).sem = some ((bV false),[]):=by
 exact Aa (ks:=[kN (kn h0),kn hp0]) (by kernel_rfl)
theorem Amw (h0:ieq (ofNat n) (ofNat m) = true) (hp0:p0 (JI (onP 0 p0 (AaK n f m g q) L)) (Uh n f m g 0 (Alw n f m g )) = true):(Ar (Ai tab ⟨Am tb0,(onP 0 p0 (AaK n f m g q) L),Gl⟩ Try.f61 [.sl 1 n (λi=>iV (f i)),.sl 1 m (λi=>iV (g i))] [])).sem = some ((bV true),[]):=by
 exact Aa (ks:=[kN (kn h0),kn hp0]) (by kernel_rfl)
end
theorem Aec (L:LT) (n:Nat) (f:Nat->Int) (m:Nat) (g:Nat->Int) (hn:n <= 4611686018427387904) (hm:n = m):∀ (e b:Nat) (j:Nat->V) (q:Nat),n = b+e->e < q->(∀ k,k < b->ieq (f k) (g k) = true) ->
  ((A4 (JI L) (SO n f m g) q (Uh n f m g b j)).sem = some (AaJ n f m g 0) ∧ (A5 n λk=>ieq (f k) (g k)) = false) ∨ ((A4 (JI L) (SO n f m g) q (Uh n f m g b j)).sem = some (AaK n f m g 0) ∧ (A5 n λk=>ieq (f k) (g k)) = true)
 | 0,b,j,q+1,h,_,hb=>by
  have:n = b:=by omega
  subst this
  exact .inr ⟨Ab (Ane L n f m g n j (A6 (Nat.le_refl _))),A3.2 hb⟩
 | e+1,b,j,q+1,h,h2,hb=>by
  have hl:b < n:=by omega
  cases hp:ieq (f b) (g b) with
  | false =>
   refine .inl ⟨?_,?_⟩
   ·rw [Ab (And L n f m g b j (ofNat_lt hl) (AF b) (ofNat_lt (by omega)) hp),Dw]
    rfl
   ·cases ha:(A5 n λk=>ieq (f k) (g k)) with
    | false=>rfl
    | true =>
     have:=A3.1 ha b hl
     rw [hp] at this
     cases this
  | true =>
   have next:=Aec L n f m g hn hm e (b+1) (λ_=>.und) q (by omega) (by omega) λk hk=>by
    by_cases hki:k = b
    ·rw [hki]; exact hp
    ·exact hb k (by omega)
   rw [Ab (Anc L n f m g b j (ofNat_lt hl) (AF b) (ofNat_lt (by omega)) hp),Aq,Ao hl hn]
   exact next
def HO:List V->T (V × List Blk)
 | [v,u]=>apG R2 v λn f=>apG R2 u λm g=>.br (Ag n) (.leaf (bV (B3 n f m g),[])) .fail
 | _=>.fail
theorem p61:A7 Try.prog Gl 61 HO:=by
 refine Av AL AN Try.func61 (by kernel_rfl) (by kernel_rfl) λvs v h' h=>?_
 unfold HO at h
 split at h
 ·rename_i v1 u1
  obtain ⟨n,f,a1,h⟩:=BJ h
  obtain ⟨m,g,a2,h⟩:=BJ h
  obtain ⟨hn,h⟩:=Ad h
  have:=Ac h
  simp only [Prod.mk.injEq] at this
  obtain ⟨rfl,rfl⟩:=this
  have hA:Bp [v1,u1] [.sl 1 n (λi=>iV (f i)),.sl 1 m (λi=>iV (g i))]:=λS w cs hv=>by
   obtain ⟨c,l,rfl,q1,c',l',rfl,q2,q3⟩:=hv
   exact ⟨c,_,rfl,a1 S w c q1,c',l',rfl,a2 S w c' q2,q3⟩
  have hx:=AO C9 [(0,SO n f m g)] (G:=Gl)
  have hL:=AE [(0,SO n f m g)]
  refine ⟨_,AI Gl tb0 [(0,SO n f m g)],_,hA,rfl,hx.1,hx.2,?_,A8.refl _⟩
  cases hl:ieq (ofNat n) (ofNat m) with
  | false =>
   rw [show B3 n f m g = false from C1 hl]
   exact Amu _ n f m g hl
  | true =>
   rw [show B3 n f m g = _ from Bg hl]
   have h0:=λL j=>Aec L n f m g (Fx hn) (DJ hl) n 0 j (n+1) (by omega) (by omega) (λk hk=>absurd hk (Nat.not_lt_zero _))
   cases ha:(A5 n λk=>ieq (f k) (g k)) with
   | false=>exact A2 (As hL hL) _ (Amv _ _ n f m g 0 hl (Aj ((h0 _ _).elim (λh=>h.1) λh=>by have:=h.2; rw [ha] at this; cases this)))
   | true=>exact A2 (As hL hL) _ (Amw _ _ n f m g 0 hl (Aj ((h0 _ _).elim (λh=>by have:=h.2; rw [ha] at this; cases this) λh=>h.1)))
 ·cases h
def CA (n:Nat) (ln:Nat->Nat) (co:Nat->Nat->Int) (m:Nat) (ln':Nat->Nat) (co':Nat->Nat->Int):Bool:=Ak (ieq (ofNat n) (ofNat m)) (A5 n λk=>B3 (ln k) (co k) (ln' k) (co' k))
noncomputable def Xg:List (Nat × (List V->T (V × List Blk))):=[(61,HO)]
theorem AbS:AA Try.prog Gl Xg:=.cons p61 .nil
def SN (n:Nat) (_:Nat->Nat) (_:Nat->Nat->Int) (_:Nat) (_:Nat->Nat) (_:Nat->Nat->Int):Lp:=⟨(bmK 27 0 [0,1,4,5]),0,bmK 27 0 [4],0,n+1⟩
def Ug (n:Nat) (ln:Nat->Nat) (co:Nat->Nat->Int) (m:Nat) (ln':Nat->Nat) (co':Nat->Nat->Int) (b:Nat) (j:Nat->V):St:=⟨(jsV 27 0 j [(0,.sl 1 n (λu=>.sl 1 (ln u) (λi=>iV (co u i)))),(1,.sl 1 m (λu=>.sl 1 (ln' u) (λi=>iV (co' u i)))),(4,bV false),(5,nV b)]),[]⟩
def AaH (_:Nat) (_:Nat->Nat) (_:Nat->Nat->Int) (_:Nat) (_:Nat->Nat) (_:Nat->Nat->Int) (_:Nat):Ex × St:=(.rt,⟨(jsV 27 0 (λ_=>.und) [(4,bV false)]),[]⟩)
def AaI (_:Nat) (_:Nat->Nat) (_:Nat->Nat->Int) (_:Nat) (_:Nat->Nat) (_:Nat->Nat->Int) (_:Nat):Ex × St:=(.ex 0,⟨(jsV 27 0 (λ_=>.und) [(4,bV false)]),[]⟩)
noncomputable def JH (L:LT):St->T (Ex × St):=λst=>AC tab ⟨Am Xg,L,Gl⟩ (Au Try.f62 0) 0 st
section
variable (L:LT) (n:Nat) (ln:Nat->Nat) (co:Nat->Nat->Int) (m:Nat) (ln':Nat->Nat) (co':Nat->Nat->Int) (b:Nat)  (j:Nat->V)
include L n ln co m ln' co' b j
theorem Anb (h0:ilt (ofNat b) (ofNat n) = false):Ah (JH L) (SN n ln co m ln' co') (Ug n ln co m ln' co' b j) = some ((.ex 0),⟨(jsV 27 0 (λ_=>.und) [(4,(bV false))]),[]⟩):=by
 exact Aa (ks:=[kn h0]) (by kernel_rfl)
theorem Ana (h0:ilt (ofNat b) (ofNat n) = true) (h15:ile 0 (ofNat b) = true) (h1:ilt (ofNat b) (ofNat m) = true) (h16:Ag (ln b) = true) (h2:B3 (ln b) (co b) (ln' b) (co' b) = false):Ah (JH L) (SN n ln co m ln' co') (Ug n ln co m ln' co' b j) = some (.rt,⟨(jsV 27 0 (λ_=>.und) [(4,(bV false))]),[]⟩):=by
 exact Aa (ks:=[kn h0,kA (kn h15) (kn h0),kA (kn h15) (kn h1),kL (ln b),kL (ln' b),kn h16,kN (kn h2)]) (by kernel_rfl)
theorem AmZ (h0:ilt (ofNat b) (ofNat n) = true) (h15:ile 0 (ofNat b) = true) (h1:ilt (ofNat b) (ofNat m) = true) (h16:Ag (ln b) = true) (h2:B3 (ln b) (co b) (ln' b) (co' b) = true):Ah (JH L) (SN n ln co m ln' co') (Ug n ln co m ln' co' b j) = some (.nm,⟨(jsV 27 0 (λ_=>.und) [(0,(.sl 1 n (λu=>(.sl 1 (ln u) (λi=>(iV (co u i))))))),(1,(.sl 1 m (λu=>(.sl 1 (ln' u) (λi=>(iV (co' u i))))))),(4,(bV false)),(5,(iV (wr .i64 (Af (ofNat b) 1))))]),[]⟩):=by
 exact Aa (ks:=[kn h0,kA (kn h15) (kn h0),kA (kn h15) (kn h1),kL (ln b),kL (ln' b),kn h16,kN (kn h2)]) (by kernel_rfl)
end
def Alv (n:Nat) (ln:Nat->Nat) (co:Nat->Nat->Int) (m:Nat) (ln':Nat->Nat) (co':Nat->Nat->Int) :Nat->V:=lkV A9 [(6,(.sl 1 n (λu=>.sl 1 (ln u) (λi=>iV (co u i))))),(7,(nV n)),(8,(.sl 1 m (λu=>.sl 1 (ln' u) (λi=>iV (co' u i))))),(9,(nV m)),(10,(bV (AG (ieq (ofNat n) (ofNat m)))))]
theorem Amr (L:LT) (n:Nat) (ln:Nat->Nat) (co:Nat->Nat->Int) (m:Nat) (ln':Nat->Nat) (co':Nat->Nat->Int) (h0:ieq (ofNat n) (ofNat m) = false):(Ar (Ai tab ⟨Am Xg,L,Gl⟩ Try.f62 [.sl 1 n (λu=>.sl 1 (ln u) (λi=>iV (co u i))),.sl 1 m (λu=>.sl 1 (ln' u) (λi=>iV (co' u i)))] [])).sem = some ((bV false),[]):=by
 exact Aa (ks:=[kN (kn h0)]) (by kernel_rfl)
section
variable (L:LT) (p0:PT) (n:Nat) (ln:Nat->Nat) (co:Nat->Nat->Int) (m:Nat) (ln':Nat->Nat) (co':Nat->Nat->Int) (q:Nat)
include L p0 n ln co m ln' co' q
theorem Ams (h0:ieq (ofNat n) (ofNat m) = true) (hp0:p0 (JH (onP 0 p0 (AaH n ln co m ln' co' q) L)) (Ug n ln co m ln' co' 0 (Alv n ln co m ln' co' )) = true):(Ar (Ai tab ⟨Am Xg,(onP 0 p0 (AaH n ln co m ln' co' q) L),Gl⟩ Try.f62 [.sl 1 n (λu=>.sl 1 (ln u) (λi=>iV (co u i))),.sl 1 m (λu=>.sl 1 (ln' u) (λi=>iV (co' u i)))] [])).sem = some ((bV false),[]):=by
 exact Aa (ks:=[kN (kn h0),kn hp0]) (by kernel_rfl)
theorem Amt (h0:ieq (ofNat n) (ofNat m) = true) (hp0:p0 (JH (onP 0 p0 (AaI n ln co m ln' co' q) L)) (Ug n ln co m ln' co' 0 (Alv n ln co m ln' co' )) = true):(Ar (Ai tab ⟨Am Xg,(onP 0 p0 (AaI n ln co m ln' co' q) L),Gl⟩ Try.f62 [.sl 1 n (λu=>.sl 1 (ln u) (λi=>iV (co u i))),.sl 1 m (λu=>.sl 1 (ln' u) (λi=>iV (co' u i)))] [])).sem = some ((bV true),[]):=by
 exact Aa (ks:=[kN (kn h0),kn hp0]) (by kernel_rfl)
end
theorem Aeb (L:LT) (n:Nat) (ln:Nat->Nat) (co:Nat->Nat->Int) (m:Nat) (ln':Nat->Nat) (co':Nat->Nat->Int) (hn:n <= 4611686018427387904) (hm:n = m) (hs:∀ k,k < n->Ag (ln k) = true):∀ (e b:Nat) (j:Nat->V) (q:Nat),n = b+e->e < q->(∀ k,k < b->B3 (ln k) (co k) (ln' k) (co' k) = true) ->
  ((A4 (JH L) (SN n ln co m ln' co') q (Ug n ln co m ln' co' b j)).sem = some (AaH n ln co m ln' co' 0) ∧ (A5 n λk=>B3 (ln k) (co k) (ln' k) (co' k)) = false) ∨ ((A4 (JH L) (SN n ln co m ln' co') q (Ug n ln co m ln' co' b j)).sem = some (AaI n ln co m ln' co' 0) ∧ (A5 n λk=>B3 (ln k) (co k) (ln' k) (co' k)) = true)
 | 0,b,j,q+1,h,_,hb=>by
  have:n = b:=by omega
  subst this
  exact .inr ⟨Ab (Anb L n ln co m ln' co' n j (A6 (Nat.le_refl _))),A3.2 hb⟩
 | e+1,b,j,q+1,h,h2,hb=>by
  have hl:b < n:=by omega
  cases hp:B3 (ln b) (co b) (ln' b) (co' b) with
  | false =>
   refine .inl ⟨?_,?_⟩
   ·rw [Ab (Ana L n ln co m ln' co' b j (ofNat_lt hl) (AF b) (ofNat_lt (by omega)) (hs b hl) hp),Dw]
    rfl
   ·cases ha:(A5 n λk=>B3 (ln k) (co k) (ln' k) (co' k)) with
    | false=>rfl
    | true =>
     have:=A3.1 ha b hl
     rw [hp] at this
     cases this
  | true =>
   have next:=Aeb L n ln co m ln' co' hn hm hs e (b+1) (λ_=>.und) q (by omega) (by omega) λk hk=>by
    by_cases hki:k = b
    ·rw [hki]; exact hp
    ·exact hb k (by omega)
   rw [Ab (AmZ L n ln co m ln' co' b j (ofNat_lt hl) (AF b) (ofNat_lt (by omega)) (hs b hl) hp),Aq,Ao hl hn]
   exact next
def Uv:List V->T (V × List Blk)
 | [v,u]=>apG R1 v λn C=>apG R1 u λm D=>.br (Ag n) (.br (A5 n λi=>Ag (C i).1) (.leaf (bV (CA n (λi=>(C i).1) (λi=>(C i).2) m (λi=>(D i).1) (λi=>(D i).2)),[])) .fail) .fail
 | _=>.fail
theorem p62:A7 Try.prog Gl 62 Uv:=by
 refine Av AL AN Try.func62 (by kernel_rfl) (by kernel_rfl) λvs v h' h=>?_
 unfold Uv at h
 split at h
 ·rename_i v1 u1
  obtain ⟨n,C,a1,h⟩:=BJ h
  obtain ⟨m,D,a2,h⟩:=BJ h
  obtain ⟨hn,h⟩:=Ad h
  obtain ⟨hs,h⟩:=Ad h
  have hs:=A3.1 hs
  have:=Ac h
  simp only [Prod.mk.injEq] at this
  obtain ⟨rfl,rfl⟩:=this
  have hA:Bp [v1,u1] [.sl 1 n (λu=>.sl 1 (C u).1 (λi=>iV ((C u).2 i))),.sl 1 m (λu=>.sl 1 (D u).1 (λi=>iV ((D u).2 i)))]:=λS w cs hv=>by
   obtain ⟨c,l,rfl,q1,c',l',rfl,q2,q3⟩:=hv
   exact ⟨c,_,rfl,a1 S w c q1,c',l',rfl,a2 S w c' q2,q3⟩
  generalize hln:(λi=>(C i).1) = ln
  generalize hco:(λi=>(C i).2) = co
  generalize hln':(λi=>(D i).1) = ln'
  generalize hco':(λi=>(D i).2) = co'
  have hx:=AO AbS [(0,SN n ln co m ln' co')] (G:=Gl)
  have hL:=AE [(0,SN n ln co m ln' co')]
  refine ⟨_,AI Gl Xg [(0,SN n ln co m ln' co')],_,hA,rfl,hx.1,hx.2,?_,A8.refl _⟩
  have hs:∀ k,k < n->Ag (ln k) = true:=λk hk=>by rw [<- hln]; exact hs k hk
  have e1:∀ u,(C u).1 = ln u:=λu=>by rw [<- hln]
  have e2:∀ u,(C u).2 = co u:=λu=>by rw [<- hco]
  have e3:∀ u,(D u).1 = ln' u:=λu=>by rw [<- hln']
  have e4:∀ u,(D u).2 = co' u:=λu=>by rw [<- hco']
  simp only [e1,e2,e3,e4]
  cases hl:ieq (ofNat n) (ofNat m) with
  | false =>
   rw [show CA n ln co m ln' co' = false from C1 hl]
   exact Amr _ n ln co m ln' co' hl
  | true =>
   rw [show CA n ln co m ln' co' = _ from Bg hl]
   have h0:=λL j=>Aeb L n ln co m ln' co' (Fx hn) (DJ hl) hs n 0 j (n+1) (by omega) (by omega) (λk hk=>absurd hk (Nat.not_lt_zero _))
   cases ha:(A5 n λk=>B3 (ln k) (co k) (ln' k) (co' k)) with
   | false=>exact A2 (As hL hL) _ (Ams _ _ n ln co m ln' co' 0 hl (Aj ((h0 _ _).elim (λh=>h.1) λh=>by have:=h.2; rw [ha] at this; cases this)))
   | true=>exact A2 (As hL hL) _ (Amt _ _ n ln co m ln' co' 0 hl (Aj ((h0 _ _).elim (λh=>by have:=h.2; rw [ha] at this; cases this) λh=>h.1)))
 ·cases h
def CR (e e':Ev5):Bool:=Ak (ieq e.th e'.th) (Ak (ieq e.pl e'.pl) (Ak (ieq e.dir e'.dir) (Ak (ieq e.loc e'.loc) (Ak (ieq e.val e'.val) true))))
noncomputable def M8:List (Nat × (List V->T (V × List Blk))):=[(60,AdU),(61,HO),(62,Uv)]
theorem AbZ:AA Try.prog Gl M8:=.cons p42 <| .cons p61 <| .cons p62 .nil
section
variable (L:LT) (a:Int) (n:Nat) (g:Nat->E6) (m:Nat) (x:Nat->Ev5) (t k:Int) (p:Nat) (r:Nat->Int) (q:Nat) (ln:Nat->Nat) (co:Nat->Nat->Int) (a':Int) (n':Nat) (g':Nat->E6) (m':Nat) (x':Nat->Ev5) (t' k':Int) (p':Nat) (r':Nat->Int) (q':Nat) (ln':Nat->Nat) (co':Nat->Nat->Int)
include L a n g m x t k p r q ln co a' n' g' m' x' t' k' p' r' q' ln' co'
theorem Ajs (h0:ieq a a' = false):(Ar (Ai tab ⟨Am M8,L,Gl⟩ Try.f16 [.agg (shL a n g m x t k p r q ln co),.agg (shL a' n' g' m' x' t' k' p' r' q' ln' co')] [])).sem = some ((bV false),[]):=by
 exact Aa (ks:=[kN (kn h0),kN (kn h0),kN (kn h0),kN (kn h0),kN (kn h0),kN (kn h0),kT,kT,kT,kT,kT,kT,kT,kT,kT,kT,kT,kT,kT,kT,kT,kT,kT,kT,kT,kT,kT,kT,kT,kT,kT,kT,kT,kT,kT,kT,kT,kT,kT,kT,kT,kT]) (by kernel_rfl)
theorem Ajr (h0:ieq a a' = true) (h1:ieq t t' = false):(Ar (Ai tab ⟨Am M8,L,Gl⟩ Try.f16 [.agg (shL a n g m x t k p r q ln co),.agg (shL a' n' g' m' x' t' k' p' r' q' ln' co')] [])).sem = some ((bV false),[]):=by
 exact Aa (ks:=[kN (kn h0),kN (kn h0),kN (kn h0),kN (kn h0),kN (kn h0),kN (kn h0),kN (kn h1),kN (kn h1),kN (kn h1),kN (kn h1),kN (kn h1),kN (kn h1),kT,kT,kT,kT,kT,kT,kT,kT,kT,kT,kT,kT,kT,kT,kT,kT,kT,kT,kT,kT,kT,kT,kT,kT,kT,kT,kT,kT,kT,kT]) (by kernel_rfl)
theorem Ajq (h0:ieq a a' = true) (h1:ieq t t' = true) (h2:ieq k k' = false):(Ar (Ai tab ⟨Am M8,L,Gl⟩ Try.f16 [.agg (shL a n g m x t k p r q ln co),.agg (shL a' n' g' m' x' t' k' p' r' q' ln' co')] [])).sem = some ((bV false),[]):=by
 exact Aa (ks:=[kN (kn h0),kN (kn h0),kN (kn h0),kN (kn h0),kN (kn h0),kN (kn h0),kN (kn h1),kN (kn h1),kN (kn h1),kN (kn h1),kN (kn h1),kN (kn h1),kN (kn h2),kN (kn h2),kN (kn h2),kN (kn h2),kN (kn h2),kN (kn h2),kN (kn h2),kT,kT,kT,kT,kT,kT,kT,kT,kT,kT,kT,kT,kT,kT,kT,kT,kT,kT,kT,kT,kT,kT,kT]) (by kernel_rfl)
theorem Ajp (h0:ieq a a' = true) (h1:ieq t t' = true) (h2:ieq k k' = true) (h16:Ag n = true) (h3:BG n g n' g' = false):(Ar (Ai tab ⟨Am M8,L,Gl⟩ Try.f16 [.agg (shL a n g m x t k p r q ln co),.agg (shL a' n' g' m' x' t' k' p' r' q' ln' co')] [])).sem = some ((bV false),[]):=by
 exact Aa (ks:=[kN (kn h0),kN (kn h0),kN (kn h0),kN (kn h0),kN (kn h0),kN (kn h0),kN (kn h1),kN (kn h1),kN (kn h1),kN (kn h1),kN (kn h1),kN (kn h1),kN (kn h2),kN (kn h2),kN (kn h2),kN (kn h2),kN (kn h2),kL n,kL n',kn h16,kN (kn h2),kN (kn h2),kN (kn h3),kN (kn h3),kN (kn h3),kN (kn h3),kN (kn h3),kN (kn h3),kN (kn h3),kN (kn h3),kT,kT,kT,kT,kT,kT,kT,kT,kT,kT,kT,kT,kT,kT,kT]) (by kernel_rfl)
theorem Ajo (h0:ieq a a' = true) (h1:ieq t t' = true) (h2:ieq k k' = true) (h17:Ag n = true) (h3:BG n g n' g' = true) (h4:ieq (ofNat m) (ofNat m') = false):(Ar (Ai tab ⟨Am M8,L,Gl⟩ Try.f16 [.agg (shL a n g m x t k p r q ln co),.agg (shL a' n' g' m' x' t' k' p' r' q' ln' co')] [])).sem = some ((bV false),[]):=by
 exact Aa (ks:=[kN (kn h0),kN (kn h0),kN (kn h0),kN (kn h0),kN (kn h0),kN (kn h0),kN (kn h1),kN (kn h1),kN (kn h1),kN (kn h1),kN (kn h1),kN (kn h1),kN (kn h2),kN (kn h2),kN (kn h2),kN (kn h2),kN (kn h2),kL n,kL n',kn h17,kN (kn h2),kN (kn h2),kN (kn h3),kN (kn h3),kN (kn h3),kN (kn h3),kN (kn h3),kN (kn h3),kN (kn h3),kN (kn h3),kN (kn h4),kN (kn h4),kN (kn h4),kN (kn h4),kN (kn h4),kN (kn h4),kN (kn h4),kT,kT,kT,kT,kT,kT,kT,kT]) (by kernel_rfl)
theorem Ajn (h0:ieq a a' = true) (h1:ieq t t' = true) (h2:ieq k k' = true) (h18:Ag n = true) (h3:BG n g n' g' = true) (h4:ieq (ofNat m) (ofNat m') = true) (h19:Ag p = true) (h5:B3 p r p' r' = false):(Ar (Ai tab ⟨Am M8,L,Gl⟩ Try.f16 [.agg (shL a n g m x t k p r q ln co),.agg (shL a' n' g' m' x' t' k' p' r' q' ln' co')] [])).sem = some ((bV false),[]):=by
 exact Aa (ks:=[kN (kn h0),kN (kn h0),kN (kn h0),kN (kn h0),kN (kn h0),kN (kn h0),kN (kn h1),kN (kn h1),kN (kn h1),kN (kn h1),kN (kn h1),kN (kn h1),kN (kn h2),kN (kn h2),kN (kn h2),kN (kn h2),kN (kn h2),kL n,kL n',kn h18,kN (kn h2),kN (kn h2),kN (kn h3),kN (kn h3),kN (kn h3),kN (kn h3),kN (kn h3),kN (kn h3),kN (kn h3),kN (kn h3),kN (kn h4),kN (kn h4),kN (kn h4),kN (kn h4),kN (kn h4),kL p,kL p',kn h19,kN (kn h4),kN (kn h4),kN (kn h5),kN (kn h5),kN (kn h5),kN (kn h5),kN (kn h5),kN (kn h5),kN (kn h5),kT]) (by kernel_rfl)
theorem Ajm (h0:ieq a a' = true) (h1:ieq t t' = true) (h2:ieq k k' = true) (h19:Ag n = true) (h3:BG n g n' g' = true) (h4:ieq (ofNat m) (ofNat m') = true) (h20:Ag p = true) (h5:B3 p r p' r' = true) (h21:A5 q (λi=>(A5 (ln i) (λ_=>true))) = true) (h22:A5 q' (λi=>(A5 (ln' i) (λ_=>true))) = true) (h23:Ag q = true) (h24:A5 q (λi=>(Ag (ln i))) = true) (h6:CA q ln (λi i_1=>(co i i_1)) q' ln' (λi i_1=>(co' i i_1)) = false):(Ar (Ai tab ⟨Am M8,L,Gl⟩ Try.f16 [.agg (shL a n g m x t k p r q ln co),.agg (shL a' n' g' m' x' t' k' p' r' q' ln' co')] [])).sem = some ((bV false),[]):=by
 exact Aa (ks:=[kN (kn h0),kN (kn h0),kN (kn h0),kN (kn h0),kN (kn h0),kN (kn h0),kN (kn h1),kN (kn h1),kN (kn h1),kN (kn h1),kN (kn h1),kN (kn h1),kN (kn h2),kN (kn h2),kN (kn h2),kN (kn h2),kN (kn h2),kL n,kL n',kn h19,kN (kn h2),kN (kn h2),kN (kn h3),kN (kn h3),kN (kn h3),kN (kn h3),kN (kn h3),kN (kn h3),kN (kn h3),kN (kn h3),kN (kn h4),kN (kn h4),kN (kn h4),kN (kn h4),kN (kn h4),kL p,kL p',kn h20,kN (kn h4),kN (kn h4),kN (kn h5),kN (kn h5),kN (kn h5),kN (kn h5),kN (kn h5),kn h21,kn h22,kn h23,kn h24,kN (kn h5),kN (kn h5),kN (kn h6)]) (by kernel_rfl)
end
def SP (_:Int) (_:Nat) (_:Nat->E6) (m:Nat) (_:Nat->Ev5) (_ _:Int) (_:Nat) (_:Nat->Int) (_:Nat) (_:Nat->Nat) (_:Nat->Nat->Int) (_:Int) (_:Nat) (_:Nat->E6) (_:Nat) (_:Nat->Ev5) (_ _:Int) (_:Nat) (_:Nat->Int) (_:Nat) (_:Nat->Nat) (_:Nat->Nat->Int):Lp:=⟨(bmK 76 0 [2,3,4,5]),2,bmK 76 0 [4],0,m+1⟩
def Uk (a:Int) (n:Nat) (g:Nat->E6) (m:Nat) (x:Nat->Ev5) (t k:Int) (p:Nat) (r:Nat->Int) (q:Nat) (ln:Nat->Nat) (co:Nat->Nat->Int) (a':Int) (n':Nat) (g':Nat->E6) (m':Nat) (x':Nat->Ev5) (t' k':Int) (p':Nat) (r':Nat->Int) (q':Nat) (ln':Nat->Nat) (co':Nat->Nat->Int) (b:Nat) (j:Nat->V):St:=⟨(jsV 76 0 j [(2,.ptr 0 0),(3,.ptr 1 0),(4,bV false),(5,nV b)]),[.cells (shL a n g m x t k p r q ln co),.cells (shL a' n' g' m' x' t' k' p' r' q' ln' co')]⟩
def AaM (_:Int) (_:Nat) (_:Nat->E6) (_:Nat) (_:Nat->Ev5) (_ _:Int) (_:Nat) (_:Nat->Int) (_:Nat) (_:Nat->Nat) (_:Nat->Nat->Int) (_:Int) (_:Nat) (_:Nat->E6) (_:Nat) (_:Nat->Ev5) (_ _:Int) (_:Nat) (_:Nat->Int) (_:Nat) (_:Nat->Nat) (_:Nat->Nat->Int) (_:Nat):Ex × St:=(.rt,⟨(jsV 76 0 (λ_=>.und) [(4,bV false)]),[]⟩)
def AaN (_:Int) (_:Nat) (_:Nat->E6) (_:Nat) (_:Nat->Ev5) (_ _:Int) (_:Nat) (_:Nat->Int) (_:Nat) (_:Nat->Nat) (_:Nat->Nat->Int) (_:Int) (_:Nat) (_:Nat->E6) (_:Nat) (_:Nat->Ev5) (_ _:Int) (_:Nat) (_:Nat->Int) (_:Nat) (_:Nat->Nat) (_:Nat->Nat->Int) (_:Nat):Ex × St:=(.ex 0,⟨(jsV 76 0 (λ_=>.und) [(4,bV false)]),[]⟩)
noncomputable def JL (L:LT):St->T (Ex × St):=λst=>AC tab ⟨Am M8,L,Gl⟩ (Au Try.f16 0) 0 st
section
variable (L:LT) (a:Int) (n:Nat) (g:Nat->E6) (m:Nat) (x:Nat->Ev5) (t k:Int) (p:Nat) (r:Nat->Int) (q:Nat) (ln:Nat->Nat) (co:Nat->Nat->Int) (a':Int) (n':Nat) (g':Nat->E6) (m':Nat) (x':Nat->Ev5) (t' k':Int) (p':Nat) (r':Nat->Int) (q':Nat) (ln':Nat->Nat) (co':Nat->Nat->Int) (b:Nat)  (j:Nat->V)
include L a n g m x t k p r q ln co a' n' g' m' x' t' k' p' r' q' ln' co' b j
theorem Anj (h0:ilt (ofNat b) (ofNat m) = false):Ah (JL L) (SP a n g m x t k p r q ln co a' n' g' m' x' t' k' p' r' q' ln' co') (Uk a n g m x t k p r q ln co a' n' g' m' x' t' k' p' r' q' ln' co' b j) = some ((.ex 0),⟨(jsV 76 0 (λ_=>.und) [(4,(bV false))]),[]⟩):=by
 exact Aa (ks:=[kn h0]) (by kernel_rfl)
theorem Anh (h0:ilt (ofNat b) (ofNat m) = true) (h15:ile 0 (ofNat b) = true) (h1:ilt (ofNat b) (ofNat m') = true) (h2:Ak (ieq ((x b)).th ((x' b)).th) (Ak (ieq ((x b)).pl ((x' b)).pl) (Ak (ieq ((x b)).dir ((x' b)).dir) (Ak (ieq ((x b)).loc ((x' b)).loc) (Ak (ieq ((x b)).val ((x' b)).val) true)))) = true):Ah (JL L) (SP a n g m x t k p r q ln co a' n' g' m' x' t' k' p' r' q' ln' co') (Uk a n g m x t k p r q ln co a' n' g' m' x' t' k' p' r' q' ln' co' b j) = some (.nm,⟨(jsV 76 0 (λ_=>.und) [(2,(.ptr 0 0)),(3,(.ptr 1 0)),(4,(bV false)),(5,(iV (wr .i64 (Af (ofNat b) 1))))]),[(.cells (shL a n g m x t k p r q ln co)),(.cells (shL a' n' g' m' x' t' k' p' r' q' ln' co'))]⟩):=by
 exact Aa (ks:=[kn h0,kA (kn h15) (kn h0),kA (kn h15) (kn h1),kN (kn h2)]) (by kernel_rfl)
theorem Ani (h0:ilt (ofNat b) (ofNat m) = true) (h15:ile 0 (ofNat b) = true) (h1:ilt (ofNat b) (ofNat m') = true) (h2:Ak (ieq ((x b)).th ((x' b)).th) (Ak (ieq ((x b)).pl ((x' b)).pl) (Ak (ieq ((x b)).dir ((x' b)).dir) (Ak (ieq ((x b)).loc ((x' b)).loc) (Ak (ieq ((x b)).val ((x' b)).val) true)))) = false):Ah (JL L) (SP a n g m x t k p r q ln co a' n' g' m' x' t' k' p' r' q' ln' co') (Uk a n g m x t k p r q ln co a' n' g' m' x' t' k' p' r' q' ln' co' b j) = some (.rt,⟨(jsV 76 0 (λ_=>.und) [(4,(bV false))]),[]⟩):=by
 exact Aa (ks:=[kn h0,kA (kn h15) (kn h0),kA (kn h15) (kn h1),kN (kn h2)]) (by kernel_rfl)
end
def Al1 (a:Int) (n:Nat) (g:Nat->E6) (m:Nat) (x:Nat->Ev5) (t k:Int) (p:Nat) (r:Nat->Int) (q:Nat) (ln:Nat->Nat) (co:Nat->Nat->Int) (a':Int) (n':Nat) (g':Nat->E6) (m':Nat) (x':Nat->Ev5) (t' k':Int) (p':Nat) (r':Nat->Int) (q':Nat) (ln':Nat->Nat) (co':Nat->Nat->Int) :Nat->V:=lkV A9 [(0,(.agg (shL a n g m x t k p r q ln co))),(1,(.agg (shL a' n' g' m' x' t' k' p' r' q' ln' co'))),(6,(.ptr 0 0)),(7,(iV a)),(8,(.ptr 1 0)),(9,(iV a')),(10,(bV (AG (ieq a a')))),(11,(bV (AG (ieq a a')))),(12,(.ptr 0 3)),(13,(iV t)),(14,(.ptr 1 3)),(15,(iV t')),(16,(bV (AG (ieq t t')))),(17,(bV (AG (ieq t t')))),(18,(bV (AG (ieq t t')))),(19,(.ptr 0 4)),(20,(iV k)),(21,(.ptr 1 4)),(22,(iV k')),(23,(bV (AG (ieq k k')))),(24,(bV (AG (ieq k k')))),(25,(bV (AG (ieq k k')))),(26,(.ptr 0 1)),(27,(.sl 6 n (λi=>eV (g i)))),(28,(.ptr 1 1)),(29,(.sl 6 n' (λi=>eV (g' i)))),(30,(bV (BG n g n' g'))),(31,(bV (AG (BG n g n' g')))),(32,(bV (AG (BG n g n' g')))),(33,(bV (AG (BG n g n' g')))),(34,(.ptr 0 2)),(35,(.sl 5 m (λi=>evV (x i)))),(36,(nV m)),(37,(.ptr 1 2)),(38,(.sl 5 m' (λi=>evV (x' i)))),(39,(iV (ofNat m'))),(40,(bV (AG (ieq (ofNat m) (ofNat m'))))),(41,(bV (AG (ieq (ofNat m) (ofNat m'))))),(42,(bV (AG (ieq (ofNat m) (ofNat m'))))),(43,(.ptr 0 5)),(44,(.sl 1 p (λi=>iV (r i)))),(45,(.ptr 1 5)),(46,(.sl 1 p' (λi=>iV (r' i)))),(47,(bV (B3 p r p' r'))),(48,(bV (AG (B3 p r p' r')))),(49,(bV (AG (B3 p r p' r')))),(50,(bV (AG (B3 p r p' r')))),(51,(.ptr 0 6)),(52,(.sl 1 q (λu=>.sl 1 (ln u) (λi=>iV (co u i))))),(53,(.ptr 1 6)),(54,(.sl 1 q' (λu=>.sl 1 (ln' u) (λi=>iV (co' u i))))),(55,(bV (CA q ln (λi i_1=>co i i_1) q' ln' (λi i_1=>co' i i_1)))),(56,(bV (AG (CA q ln (λi i_1=>co i i_1) q' ln' (λi i_1=>co' i i_1))))),(57,(bV (AG (CA q ln (λi i_1=>co i i_1) q' ln' (λi i_1=>co' i i_1)))))]
section
variable (L:LT) (p0:PT) (a:Int) (n:Nat) (g:Nat->E6) (m:Nat) (x:Nat->Ev5) (t k:Int) (p:Nat) (r:Nat->Int) (q:Nat) (ln:Nat->Nat) (co:Nat->Nat->Int) (a':Int) (n':Nat) (g':Nat->E6) (m':Nat) (x':Nat->Ev5) (t' k':Int) (p':Nat) (r':Nat->Int) (q':Nat) (ln':Nat->Nat) (co':Nat->Nat->Int) (z:Nat)
include L p0 a n g m x t k p r q ln co a' n' g' m' x' t' k' p' r' q' ln' co' z
theorem AmK (h0:ieq a a' = true) (h1:ieq t t' = true) (h2:ieq k k' = true) (h19:Ag n = true) (h3:BG n g n' g' = true) (h4:ieq (ofNat m) (ofNat m') = true) (h20:Ag p = true) (h5:B3 p r p' r' = true) (h21:A5 q (λi=>(A5 (ln i) (λ_=>true))) = true) (h22:A5 q' (λi=>(A5 (ln' i) (λ_=>true))) = true) (h23:Ag q = true) (h24:A5 q (λi=>(Ag (ln i))) = true) (h6:CA q ln (λi i_1=>(co i i_1)) q' ln' (λi i_1=>(co' i i_1)) = true) (hp0:p0 (JL (onP 0 p0 (AaM a n g m x t k p r q ln co a' n' g' m' x' t' k' p' r' q' ln' co' z) L)) (Uk a n g m x t k p r q ln co a' n' g' m' x' t' k' p' r' q' ln' co' 0 (Al1 a n g m x t k p r q ln co a' n' g' m' x' t' k' p' r' q' ln' co' )) = true):(Ar (Ai tab ⟨Am M8,(onP 0 p0 (AaM a n g m x t k p r q ln co a' n' g' m' x' t' k' p' r' q' ln' co' z) L),Gl⟩ Try.f16 [.agg (shL a n g m x t k p r q ln co),.agg (shL a' n' g' m' x' t' k' p' r' q' ln' co')] [])).sem = some ((bV false),[]):=by
 exact Aa (ks:=[kN (kn h0),kN (kn h0),kN (kn h0),kN (kn h0),kN (kn h0),kN (kn h0),kN (kn h1),kN (kn h1),kN (kn h1),kN (kn h1),kN (kn h1),kN (kn h1),kN (kn h2),kN (kn h2),kN (kn h2),kN (kn h2),kN (kn h2),kL n,kL n',kn h19,kN (kn h2),kN (kn h2),kN (kn h3),kN (kn h3),kN (kn h3),kN (kn h3),kN (kn h3),kN (kn h3),kN (kn h3),kN (kn h3),kN (kn h4),kN (kn h4),kN (kn h4),kN (kn h4),kN (kn h4),kL p,kL p',kn h20,kN (kn h4),kN (kn h4),kN (kn h5),kN (kn h5),kN (kn h5),kN (kn h5),kN (kn h5),kn h21,kn h22,kn h23,kn h24,kN (kn h5),kN (kn h5),kN (kn h6),kn hp0]) (by kernel_rfl)
theorem AmL (h0:ieq a a' = true) (h1:ieq t t' = true) (h2:ieq k k' = true) (h19:Ag n = true) (h3:BG n g n' g' = true) (h4:ieq (ofNat m) (ofNat m') = true) (h20:Ag p = true) (h5:B3 p r p' r' = true) (h21:A5 q (λi=>(A5 (ln i) (λ_=>true))) = true) (h22:A5 q' (λi=>(A5 (ln' i) (λ_=>true))) = true) (h23:Ag q = true) (h24:A5 q (λi=>(Ag (ln i))) = true) (h6:CA q ln (λi i_1=>(co i i_1)) q' ln' (λi i_1=>(co' i i_1)) = true) (hp0:p0 (JL (onP 0 p0 (AaN a n g m x t k p r q ln co a' n' g' m' x' t' k' p' r' q' ln' co' z) L)) (Uk a n g m x t k p r q ln co a' n' g' m' x' t' k' p' r' q' ln' co' 0 (Al1 a n g m x t k p r q ln co a' n' g' m' x' t' k' p' r' q' ln' co' )) = true):(Ar (Ai tab ⟨Am M8,(onP 0 p0 (AaN a n g m x t k p r q ln co a' n' g' m' x' t' k' p' r' q' ln' co' z) L),Gl⟩ Try.f16 [.agg (shL a n g m x t k p r q ln co),.agg (shL a' n' g' m' x' t' k' p' r' q' ln' co')] [])).sem = some ((bV true),[]):=by
 exact Aa (ks:=[kN (kn h0),kN (kn h0),kN (kn h0),kN (kn h0),kN (kn h0),kN (kn h0),kN (kn h1),kN (kn h1),kN (kn h1),kN (kn h1),kN (kn h1),kN (kn h1),kN (kn h2),kN (kn h2),kN (kn h2),kN (kn h2),kN (kn h2),kL n,kL n',kn h19,kN (kn h2),kN (kn h2),kN (kn h3),kN (kn h3),kN (kn h3),kN (kn h3),kN (kn h3),kN (kn h3),kN (kn h3),kN (kn h3),kN (kn h4),kN (kn h4),kN (kn h4),kN (kn h4),kN (kn h4),kL p,kL p',kn h20,kN (kn h4),kN (kn h4),kN (kn h5),kN (kn h5),kN (kn h5),kN (kn h5),kN (kn h5),kn h21,kn h22,kn h23,kn h24,kN (kn h5),kN (kn h5),kN (kn h6),kn hp0]) (by kernel_rfl)
end
theorem Aeh (L:LT) (a:Int) (n:Nat) (g:Nat->E6) (m:Nat) (x:Nat->Ev5) (t k:Int) (p:Nat) (r:Nat->Int) (q:Nat) (ln:Nat->Nat) (co:Nat->Nat->Int) (a':Int) (n':Nat) (g':Nat->E6) (m':Nat) (x':Nat->Ev5) (t' k':Int) (p':Nat) (r':Nat->Int) (q':Nat) (ln':Nat->Nat) (co':Nat->Nat->Int) (hn:m <= 4611686018427387904) (hm:m = m'):∀ (e b:Nat) (j:Nat->V) (z:Nat),m = b+e->e < z->(∀ k,k < b->CR (x k) (x' k) = true) ->
  ((A4 (JL L) (SP a n g m x t k p r q ln co a' n' g' m' x' t' k' p' r' q' ln' co') z (Uk a n g m x t k p r q ln co a' n' g' m' x' t' k' p' r' q' ln' co' b j)).sem = some (AaM a n g m x t k p r q ln co a' n' g' m' x' t' k' p' r' q' ln' co' 0) ∧ (A5 m λk=>CR (x k) (x' k)) = false) ∨ ((A4 (JL L) (SP a n g m x t k p r q ln co a' n' g' m' x' t' k' p' r' q' ln' co') z (Uk a n g m x t k p r q ln co a' n' g' m' x' t' k' p' r' q' ln' co' b j)).sem = some (AaN a n g m x t k p r q ln co a' n' g' m' x' t' k' p' r' q' ln' co' 0) ∧ (A5 m λk=>CR (x k) (x' k)) = true)
 | 0,b,j,z+1,h,_,hb=>by
  have:m = b:=by omega
  subst this
  exact .inr ⟨Ab (Anj L a n g m x t k p r q ln co a' n' g' m' x' t' k' p' r' q' ln' co' m j (A6 (Nat.le_refl _))),A3.2 hb⟩
 | e+1,b,j,z+1,h,h2,hb=>by
  have hl:b < m:=by omega
  cases hp:CR (x b) (x' b) with
  | false =>
   refine .inl ⟨?_,?_⟩
   ·rw [Ab (Ani L a n g m x t k p r q ln co a' n' g' m' x' t' k' p' r' q' ln' co' b j (ofNat_lt hl) (AF b) (ofNat_lt (by omega)) hp),Dw]
    rfl
   ·cases ha:(A5 m λk=>CR (x k) (x' k)) with
    | false=>rfl
    | true =>
     have:=A3.1 ha b hl
     rw [hp] at this
     cases this
  | true =>
   have next:=Aeh L a n g m x t k p r q ln co a' n' g' m' x' t' k' p' r' q' ln' co' hn hm e (b+1) (λ_=>.und) z (by omega) (by omega) λk hk=>by
    by_cases hki:k = b
    ·rw [hki]; exact hp
    ·exact hb k (by omega)
   rw [Ab (Anh L a n g m x t k p r q ln co a' n' g' m' x' t' k' p' r' q' ln' co' b j (ofNat_lt hl) (AF b) (ofNat_lt (by omega)) hp),Aq,Ao hl hn]
   exact next
def N4 (s s':Sh7):Bool:=Ak (ieq s.arch s'.arch) (Ak (ieq s.tt s'.tt) (Ak (ieq s.kk s'.kk) (Ak (BG s.ne s.E s'.ne s'.E) (Ak (ieq (ofNat s.nx) (ofNat s'.nx)) (Ak (B3 s.nr s.R s'.nr s'.R)
 (Ak (CA s.nc (λi=>(s.C i).1) (λi=>(s.C i).2) s'.nc (λi=>(s'.C i).1) (λi=>(s'.C i).2)) (A5 s.nx λk=>CR (s.X k) (s'.X k))))))))
def CH (s:Sh7):Bool:=Ak (Ag s.ne) (Ak (Ag s.nx) (Ak (Ag s.nr) (Ak (Ag s.nc) (A5 s.nc λi=>Ag (s.C i).1))))
def Jx:List V->T (V × List Blk)
 | [v,u]=>apS v λs=>apS u λs'=>.br (CH s) (.leaf (bV (N4 s s'),[])) .fail
 | _=>.fail
theorem p16:A7 Try.prog Gl 16 Jx:=by
 refine Av AL AN Try.func16 (by kernel_rfl) (by kernel_rfl) λvs v h' h=>?_
 unfold Jx at h
 split at h
 ·rename_i v1 u1
  obtain ⟨s,a1,h⟩:=BI h
  obtain ⟨s',a2,h⟩:=BI h
  obtain ⟨hn,h⟩:=Ad h
  have:=Ac h
  simp only [Prod.mk.injEq] at this
  obtain ⟨rfl,rfl⟩:=this
  obtain ⟨a,n,g,m,x,t,k,p,r,q,C⟩:=s
  obtain ⟨a',n',g',m',x',t',k',p',r',q',D⟩:=s'
  have hA:Bp [v1,u1] [.agg [iV a,.sl 6 n (λi=>eV (g i)),.sl 5 m (λi=>evV (x i)),iV t,iV k,.sl 1 p (λi=>iV (r i)),.sl 1 q (λu=>.sl 1 (C u).1 (λi=>iV ((C u).2 i)))],
    .agg [iV a',.sl 6 n' (λi=>eV (g' i)),.sl 5 m' (λi=>evV (x' i)),iV t',iV k',.sl 1 p' (λi=>iV (r' i)),.sl 1 q' (λu=>.sl 1 (D u).1 (λi=>iV ((D u).2 i)))]]:=λS w cs hv=>by
   obtain ⟨c,l,rfl,q1,c',l',rfl,q2,q3⟩:=hv
   exact ⟨c,_,rfl,a1 S w c q1,c',l',rfl,a2 S w c' q2,q3⟩
  have hn:Ag n = true ∧ Ag m = true ∧ Ag p = true ∧ Ag q = true ∧ (A5 q λi=>Ag (C i).1) = true:=by simpa [CH,Ak] using hn
  obtain ⟨n1,n2,n3,n4,n5⟩:=hn
  unfold N4
  dsimp only
  generalize hln:(λi=>(C i).1) = ln
  generalize hco:(λi=>(C i).2) = co
  generalize hln':(λi=>(D i).1) = ln'
  generalize hco':(λi=>(D i).2) = co'
  have hx:=AO AbZ [(0,SP a n g m x t k p r q ln co a' n' g' m' x' t' k' p' r' q' ln' co')] (G:=Gl)
  have hL:=AE [(0,SP a n g m x t k p r q ln co a' n' g' m' x' t' k' p' r' q' ln' co')]
  refine ⟨_,AI Gl M8 [(0,SP a n g m x t k p r q ln co a' n' g' m' x' t' k' p' r' q' ln' co')],_,hA,rfl,hx.1,hx.2,?_,A8.refl _⟩
  have e1:∀ u,(C u).1 = ln u:=λu=>by rw [<- hln]
  have e2:∀ u,(C u).2 = co u:=λu=>by rw [<- hco]
  have e3:∀ u,(D u).1 = ln' u:=λu=>by rw [<- hln']
  have e4:∀ u,(D u).2 = co' u:=λu=>by rw [<- hco']
  simp only [e1,e2,e3,e4] at n5 ⊢
  have C4:∀ (q:Nat) (ln:Nat->Nat),(A5 q λi=>A5 (ln i) λ_=>true) = true:=λ_ _=>A3.2 λ_ _=>A3.2 λ_ _=>rfl
  cases c0:ieq a a' with
  | false=>rw [C1 rfl]; exact Ajs _ a n g m x t k p r q ln co a' n' g' m' x' t' k' p' r' q' ln' co' c0
  | true =>
  rw [Bg rfl]
  cases c1:ieq t t' with
  | false=>rw [C1 rfl]; exact Ajr _ a n g m x t k p r q ln co a' n' g' m' x' t' k' p' r' q' ln' co' c0 c1
  | true =>
  rw [Bg rfl]
  cases c2:ieq k k' with
  | false=>rw [C1 rfl]; exact Ajq _ a n g m x t k p r q ln co a' n' g' m' x' t' k' p' r' q' ln' co' c0 c1 c2
  | true =>
  rw [Bg rfl]
  cases c3:BG n g n' g' with
  | false=>rw [C1 rfl]; exact Ajp _ a n g m x t k p r q ln co a' n' g' m' x' t' k' p' r' q' ln' co' c0 c1 c2 n1 c3
  | true =>
  rw [Bg rfl]
  cases c4:ieq (ofNat m) (ofNat m') with
  | false=>rw [C1 rfl]; exact Ajo _ a n g m x t k p r q ln co a' n' g' m' x' t' k' p' r' q' ln' co' c0 c1 c2 n1 c3 c4
  | true =>
  rw [Bg rfl]
  cases c5:B3 p r p' r' with
  | false=>rw [C1 rfl]; exact Ajn _ a n g m x t k p r q ln co a' n' g' m' x' t' k' p' r' q' ln' co' c0 c1 c2 n1 c3 c4 n3 c5
  | true =>
  rw [Bg rfl]
  cases c6:CA q ln co q' ln' co' with
  | false=>rw [C1 rfl]; exact Ajm _ a n g m x t k p r q ln co a' n' g' m' x' t' k' p' r' q' ln' co' c0 c1 c2 n1 c3 c4 n3 c5 (C4 _ _) (C4 _ _) n4 n5 c6
  | true =>
  rw [Bg rfl]
  have h0:=λL j=>Aeh L a n g m x t k p r q ln co a' n' g' m' x' t' k' p' r' q' ln' co' (Fx n2) (DJ c4) m 0 j (m+1) (by omega) (by omega) (λk hk=>absurd hk (Nat.not_lt_zero _))
  cases ha:(A5 m λk=>CR (x k) (x' k)) with
  | false=>exact A2 (As hL hL) _ (AmK _ _ a n g m x t k p r q ln co a' n' g' m' x' t' k' p' r' q' ln' co' 0 c0 c1 c2 n1 c3 c4 n3 c5 (C4 _ _) (C4 _ _) n4 n5 c6 (Aj ((h0 _ _).elim (λh=>h.1) λh=>by have:=h.2; rw [ha] at this; cases this)))
  | true=>exact A2 (As hL hL) _ (AmL _ _ a n g m x t k p r q ln co a' n' g' m' x' t' k' p' r' q' ln' co' 0 c0 c1 c2 n1 c3 c4 n3 c5 (C4 _ _) (C4 _ _) n4 n5 c6 (Aj ((h0 _ _).elim (λh=>by have:=h.2; rw [ha] at this; cases this) λh=>h.1)))
 ·cases h
end Go.Proofs.Ytjhnfomefcngfaa.Sh
