/-
  Layer 7: whether shapes are the same, the program's (by slices.Equal). No conditions.
-/
import Derived.Test.YtjhnfomefcngfaaShZ
namespace Go.Proofs.Ytjhnfomefcngfaa.Sh
open Go.Sy Ed
open Int (ofNat)
set_option maxHeartbeats 1000000
set_option maxRecDepth 4000
theorem Abb {n:Nat} {f:Nat->E6} {m:Nat} {g:Nat->E6} (h:ieq (ofNat n) (ofNat m) = false):CY n f m g = false:=by
 unfold CY
 rw [h]
 rfl
theorem ZG {a b:E6}:eqE a b = true ↔ a = b:=by
 have h:=@Nv 1 (λ_=>a) 1 (λ_=>b)
 have e:CY 1 (λ_=>a) 1 (λ_=>b) = eqE a b:=by
  show sel (eqE a b) true false = _
  cases eqE a b <;> rfl
 rw [e] at h
 exact ⟨λhh=>(h.1 hh).2 0 (by omega),λhh=>h.2 ⟨rfl,λ_ _=>hh⟩⟩
theorem Aba {n:Nat} {f:Nat->E6} {m:Nat} {g:Nat->E6} (h:ieq (ofNat n) (ofNat m) = true):CY n f m g = Au n λk=>eqE (f k) (g k):=by
 rw [Bool.eq_iff_iff,Nv,AJ]
 exact ⟨λhh k hk=>ZG.2 (hh.2 k hk),λhh=>⟨GS h,λk hk=>ZG.1 (hh k hk)⟩⟩
def Iu (n:Nat) (f:Nat->Ev5) (m:Nat) (g:Nat->Ev5):Bool:=Af (ieq (ofNat n) (ofNat m)) (Au n λk=>FK (f k) (g k))
def Ua:List V->T (V × List Blk)
 | [v,u]=>apG Xx v λn f=>apG Xx u λm g=>.br (Ah n) (.leaf (bV (CY n f m g),[])) .fail
 | _=>.fail
def TZ:List V->T (V × List Blk)
 | [v,u]=>apG Xv v λn f=>apG Xv u λm g=>.br (Ah n) (.leaf (bV (Iu n f m g),[])) .fail
 | _=>.fail
def Qw:List V->T (V × List Blk)
 | [v,u,.fn 105 []]=>apG Aco v λn C=>apG Aco u λm D=>.br (Ah n) (.br (Au n λi=>Ah (C i).1) (.leaf (bV (Gj n (λi=>(C i).1) (λi=>(C i).2) m (λi=>(D i).1) (λi=>(D i).2)),[])) .fail) .fail
 | _=>.fail
def lp103 (n:Nat) (_:Nat->E6) (_:Nat) (_:Nat->E6):Lp:=⟨(bmK 26 0 [0,1,4,12,13]),0,bmK 26 0 [4],0,n+1⟩
def st103 (n:Nat) (f:Nat->E6) (m:Nat) (g:Nat->E6) (b:Nat) (j:Nat->V):St:=⟨(jsV 26 0 j [(0,.sl 6 n (λi=>eV (f i))),(1,.sl 6 m (λi=>eV (g i))),(4,bV false),(12,nV n),(13,nV b)]),[]⟩
def en103f (_:Nat) (_:Nat->E6) (_:Nat) (_:Nat->E6) (_:Nat):Ex × St:=(.rt,⟨(jsV 26 0 (λ_=>.und) [(4,bV false)]),[]⟩)
def en103e (_:Nat) (_:Nat->E6) (_:Nat) (_:Nat->E6) (_:Nat):Ex × St:=(.ex 0,⟨(jsV 26 0 (λ_=>.und) [(4,bV false)]),[]⟩)
noncomputable def body103 (L:LT):St->T (Ex × St):=λst=>AF tab ⟨Ap tb0,L,Gl⟩ (A1 Try.f103 0) 0 st
theorem Ajd (L:LT) (n:Nat) (f:Nat->E6) (m:Nat) (g:Nat->E6) (b:Nat)  (j:Nat->V) (h0:ilt (ofNat b) (ofNat n) = false):Ai (body103 L) (lp103 n f m g) (st103 n f m g b j) = some ((.ex 0),⟨(jsV 26 0 (λ_=>.und) [(4,(bV false))]),[]⟩):=Aa [false] [ilt (ofNat b) (ofNat n)] (by kernel_rfl) (by simp only [h0] <;> rfl)
section
variable (L:LT) (n:Nat) (f:Nat->E6) (m:Nat) (g:Nat->E6) (b:Nat) (j:Nat->V)
include L n f m g b j
theorem Ajc (h0:ilt (ofNat b) (ofNat n) = true) (h17:ile 0 (ofNat b) = true) (h1:ilt (ofNat b) (ofNat m) = true) (h2:eqE (f b) (g b) = false):Ai (body103 L) (lp103 n f m g) (st103 n f m g b j) = some (.rt,⟨(jsV 26 0 (λ_=>.und) [(4,(bV false))]),[]⟩):=Aa [true,true,true,true] [ilt (ofNat b) (ofNat n),Af (ile 0 (ofNat b)) (ilt (ofNat b) (ofNat n)),Af (ile 0 (ofNat b)) (ilt (ofNat b) (ofNat m)),An (eqE (f b) (g b))] (by kernel_rfl) (by simp only [*] <;> rfl)
theorem Ajb (h0:ilt (ofNat b) (ofNat n) = true) (h17:ile 0 (ofNat b) = true) (h1:ilt (ofNat b) (ofNat m) = true) (h2:eqE (f b) (g b) = true):Ai (body103 L) (lp103 n f m g) (st103 n f m g b j) = some (.nm,⟨(jsV 26 0 (λ_=>.und) [(0,(.sl 6 n (λi=>eV (f i)))),(1,(.sl 6 m (λi=>eV (g i)))),(4,(bV false)),(12,(nV n)),(13,(iV (wr .i64 (Ae (ofNat b) 1))))]),[]⟩):=Aa [true,true,true,false] [ilt (ofNat b) (ofNat n),Af (ile 0 (ofNat b)) (ilt (ofNat b) (ofNat n)),Af (ile 0 (ofNat b)) (ilt (ofNat b) (ofNat m)),An (eqE (f b) (g b))] (by kernel_rfl) (by simp only [*] <;> rfl)
end
def jk103 (n:Nat) (f:Nat->E6) (m:Nat) (g:Nat->E6) :Nat->V:=lkV AA [(6,(.sl 6 n (λi=>eV (f i)))),(7,(nV n)),(8,(.sl 6 m (λi=>eV (g i)))),(9,(nV m)),(10,(bV (An (ieq (ofNat n) (ofNat m))))),(11,(.sl 6 n (λi=>eV (f i))))]
theorem AhH (L:LT) (n:Nat) (f:Nat->E6) (m:Nat) (g:Nat->E6) (h0:ieq (ofNat n) (ofNat m) = false):(Az (Ak tab ⟨Ap tb0,L,Gl⟩ Try.f103 [.sl 6 n (λi=>eV (f i)),.sl 6 m (λi=>eV (g i))] [])).sem = some ((bV false),[]):=Aa [true] [An (ieq (ofNat n) (ofNat m))] (by kernel_rfl) (by simp only [h0] <;> rfl)
section
variable (L:LT) (p0:PT) (n:Nat) (f:Nat->E6) (m:Nat) (g:Nat->E6) (q:Nat)
include L p0 n f m g q
theorem AhI (h0:ieq (ofNat n) (ofNat m) = true) (hp0:p0 (body103 (onP 0 p0 (en103f n f m g q) L)) (st103 n f m g 0 (jk103 n f m g )) = true):(Az (Ak tab ⟨Ap tb0,onP 0 p0 (en103f n f m g q) L,Gl⟩ Try.f103 [.sl 6 n (λi=>eV (f i)),.sl 6 m (λi=>eV (g i))] [])).sem = some ((bV false),[]):=Aa [false,true] [An (ieq (ofNat n) (ofNat m)),p0 (body103 (onP 0 p0 (en103f n f m g q) L)) (st103 n f m g 0 (jk103 n f m g ))] (by kernel_rfl) (by simp only [hp0] <;> simp only [h0] <;> rfl)
theorem AhJ (h0:ieq (ofNat n) (ofNat m) = true) (hp0:p0 (body103 (onP 0 p0 (en103e n f m g q) L)) (st103 n f m g 0 (jk103 n f m g )) = true):(Az (Ak tab ⟨Ap tb0,onP 0 p0 (en103e n f m g q) L,Gl⟩ Try.f103 [.sl 6 n (λi=>eV (f i)),.sl 6 m (λi=>eV (g i))] [])).sem = some ((bV true),[]):=Aa [false,true] [An (ieq (ofNat n) (ofNat m)),p0 (body103 (onP 0 p0 (en103e n f m g q) L)) (st103 n f m g 0 (jk103 n f m g ))] (by kernel_rfl) (by simp only [hp0] <;> simp only [h0] <;> rfl)
end
theorem run103 (L:LT) (n:Nat) (f:Nat->E6) (m:Nat) (g:Nat->E6) (hn:n <= 4611686018427387904) (hm:n = m):∀ (e b:Nat) (j:Nat->V) (q:Nat),n = b+e->e < q->(∀ k,k < b->eqE (f k) (g k) = true) ->
  ((A9 (body103 L) (lp103 n f m g) q (st103 n f m g b j)).sem = some (en103f n f m g 0) ∧ (Au n λk=>eqE (f k) (g k)) = false) ∨ ((A9 (body103 L) (lp103 n f m g) q (st103 n f m g b j)).sem = some (en103e n f m g 0) ∧ (Au n λk=>eqE (f k) (g k)) = true)
 | 0,b,j,q+1,h,_,hb=>by
  have:n = b:=by omega
  subst this
  exact .inr ⟨Ad (Ajd L n f m g n j (AD (Nat.le_refl _))),AJ.2 hb⟩
 | e+1,b,j,q+1,h,h2,hb=>by
  have hl:b < n:=by omega
  cases hp:eqE (f b) (g b) with
  | false =>
   refine .inl ⟨?_,?_⟩
   ·rw [Ad (Ajc L n f m g b j (ofNat_lt hl) (AI b) (ofNat_lt (by omega)) hp),EK]
    rfl
   ·cases ha:(Au n λk=>eqE (f k) (g k)) with
    | false=>rfl
    | true =>
     have:=AJ.1 ha b hl
     rw [hp] at this
     cases this
  | true =>
   have next:=run103 L n f m g hn hm e (b+1) (λ_=>.und) q (by omega) (by omega) λk hk=>by
    by_cases hki:k = b
    ·rw [hki]; exact hp
    ·exact hb k (by omega)
   rw [Ad (Ajb L n f m g b j (ofNat_lt hl) (AI b) (ofNat_lt (by omega)) hp),Ax,Ao hl hn]
   exact next
theorem p103:A6 Try.prog Gl 103 Ua:=by
 refine A5 AO AP Try.func103 (by kernel_rfl) (by kernel_rfl) λvs v h' h=>?_
 unfold Ua at h
 split at h
 ·rename_i v1 u1
  obtain ⟨n,f,a1,h⟩:=CT h
  obtain ⟨m,g,a2,h⟩:=CT h
  obtain ⟨hn,h⟩:=Ag h
  have:=Ac h
  simp only [Prod.mk.injEq] at this
  obtain ⟨rfl,rfl⟩:=this
  have hA:BJ [v1,u1] [NI Xx n f,NI Xx m g]:=λS w cs hv=>by
   obtain ⟨c,l,rfl,q1,c',l',rfl,q2,q3⟩:=hv
   exact ⟨c,_,rfl,a1 S w c q1,c',l',rfl,a2 S w c' q2,q3⟩
  have hx:=AQ Dd [(0,lp103 n f m g)] (G:=Gl)
  have hL:=AL [(0,lp103 n f m g)]
  refine ⟨_,AS Gl tb0 [(0,lp103 n f m g)],_,hA,rfl,hx.1,hx.2,?_,AC.refl _⟩
  cases hl:ieq (ofNat n) (ofNat m) with
  | false =>
   rw [show CY n f m g = false from Abb hl]
   exact AhH _ n f m g hl
  | true =>
   rw [show CY n f m g = _ from Aba hl]
   have h0:=λL j=>run103 L n f m g (Kl hn) (GS hl) n 0 j (n+1) (by omega) (by omega) (λk hk=>absurd hk (Nat.not_lt_zero _))
   cases ha:(Au n λk=>eqE (f k) (g k)) with
   | false=>exact A7 (Ay hL hL) _ (AhI _ _ n f m g 0 hl (Am ((h0 _ _).elim (λh=>h.1) λh=>by have:=h.2; rw [ha] at this; cases this)))
   | true=>exact A7 (Ay hL hL) _ (AhJ _ _ n f m g 0 hl (Am ((h0 _ _).elim (λh=>by have:=h.2; rw [ha] at this; cases this) λh=>h.1)))
 ·cases h
def lp104 (n:Nat) (_:Nat->Ev5) (_:Nat) (_:Nat->Ev5):Lp:=⟨(bmK 26 0 [0,1,4,12,13]),0,bmK 26 0 [4],0,n+1⟩
def st104 (n:Nat) (f:Nat->Ev5) (m:Nat) (g:Nat->Ev5) (b:Nat) (j:Nat->V):St:=⟨(jsV 26 0 j [(0,.sl 5 n (λi=>evV (f i))),(1,.sl 5 m (λi=>evV (g i))),(4,bV false),(12,nV n),(13,nV b)]),[]⟩
def Ru (_:Nat) (_:Nat->Ev5) (_:Nat) (_:Nat->Ev5) (_:Nat):Ex × St:=(.rt,⟨(jsV 26 0 (λ_=>.und) [(4,bV false)]),[]⟩)
def en104e (_:Nat) (_:Nat->Ev5) (_:Nat) (_:Nat->Ev5) (_:Nat):Ex × St:=(.ex 0,⟨(jsV 26 0 (λ_=>.und) [(4,bV false)]),[]⟩)
noncomputable def body104 (L:LT):St->T (Ex × St):=λst=>AF tab ⟨Ap tb0,L,Gl⟩ (A1 Try.f104 0) 0 st
theorem Aja (L:LT) (n:Nat) (f:Nat->Ev5) (m:Nat) (g:Nat->Ev5) (b:Nat)  (j:Nat->V) (h0:ilt (ofNat b) (ofNat n) = false):Ai (body104 L) (lp104 n f m g) (st104 n f m g b j) = some ((.ex 0),⟨(jsV 26 0 (λ_=>.und) [(4,(bV false))]),[]⟩):=Aa [false] [ilt (ofNat b) (ofNat n)] (by kernel_rfl) (by simp only [h0] <;> rfl)
section
variable (L:LT) (n:Nat) (f:Nat->Ev5) (m:Nat) (g:Nat->Ev5) (b:Nat) (j:Nat->V)
include L n f m g b j
theorem AiZ (h0:ilt (ofNat b) (ofNat n) = true) (h17:ile 0 (ofNat b) = true) (h1:ilt (ofNat b) (ofNat m) = true) (h2:Af (ieq ((f b)).th ((g b)).th) (Af (ieq ((f b)).pl ((g b)).pl) (Af (ieq ((f b)).dir ((g b)).dir) (Af (ieq ((f b)).loc ((g b)).loc) (Af (ieq ((f b)).val ((g b)).val) true)))) = false):Ai (body104 L) (lp104 n f m g) (st104 n f m g b j) = some (.rt,⟨(jsV 26 0 (λ_=>.und) [(4,(bV false))]),[]⟩):=Aa [true,true,true,true] [ilt (ofNat b) (ofNat n),Af (ile 0 (ofNat b)) (ilt (ofNat b) (ofNat n)),Af (ile 0 (ofNat b)) (ilt (ofNat b) (ofNat m)),An (Af (ieq ((f b)).th ((g b)).th) (Af (ieq ((f b)).pl ((g b)).pl) (Af (ieq ((f b)).dir ((g b)).dir) (Af (ieq ((f b)).loc ((g b)).loc) (Af (ieq ((f b)).val ((g b)).val) true)))))] (by kernel_rfl) (by simp only [h2] <;> simp only [*] <;> rfl)
theorem AiY (h0:ilt (ofNat b) (ofNat n) = true) (h17:ile 0 (ofNat b) = true) (h1:ilt (ofNat b) (ofNat m) = true) (h2:Af (ieq ((f b)).th ((g b)).th) (Af (ieq ((f b)).pl ((g b)).pl) (Af (ieq ((f b)).dir ((g b)).dir) (Af (ieq ((f b)).loc ((g b)).loc) (Af (ieq ((f b)).val ((g b)).val) true)))) = true):Ai (body104 L) (lp104 n f m g) (st104 n f m g b j) = some (.nm,⟨(jsV 26 0 (λ_=>.und) [(0,(.sl 5 n (λi=>evV (f i)))),(1,(.sl 5 m (λi=>evV (g i)))),(4,(bV false)),(12,(nV n)),(13,(iV (wr .i64 (Ae (ofNat b) 1))))]),[]⟩):=Aa [true,true,true,false] [ilt (ofNat b) (ofNat n),Af (ile 0 (ofNat b)) (ilt (ofNat b) (ofNat n)),Af (ile 0 (ofNat b)) (ilt (ofNat b) (ofNat m)),An (Af (ieq ((f b)).th ((g b)).th) (Af (ieq ((f b)).pl ((g b)).pl) (Af (ieq ((f b)).dir ((g b)).dir) (Af (ieq ((f b)).loc ((g b)).loc) (Af (ieq ((f b)).val ((g b)).val) true)))))] (by kernel_rfl) (by simp only [h2] <;> simp only [*] <;> rfl)
end
def jk104 (n:Nat) (f:Nat->Ev5) (m:Nat) (g:Nat->Ev5) :Nat->V:=lkV AA [(6,(.sl 5 n (λi=>evV (f i)))),(7,(nV n)),(8,(.sl 5 m (λi=>evV (g i)))),(9,(nV m)),(10,(bV (An (ieq (ofNat n) (ofNat m))))),(11,(.sl 5 n (λi=>evV (f i))))]
theorem AhE (L:LT) (n:Nat) (f:Nat->Ev5) (m:Nat) (g:Nat->Ev5) (h0:ieq (ofNat n) (ofNat m) = false):(Az (Ak tab ⟨Ap tb0,L,Gl⟩ Try.f104 [.sl 5 n (λi=>evV (f i)),.sl 5 m (λi=>evV (g i))] [])).sem = some ((bV false),[]):=Aa [true] [An (ieq (ofNat n) (ofNat m))] (by kernel_rfl) (by simp only [h0] <;> rfl)
section
variable (L:LT) (p0:PT) (n:Nat) (f:Nat->Ev5) (m:Nat) (g:Nat->Ev5) (q:Nat)
include L p0 n f m g q
theorem AhF (h0:ieq (ofNat n) (ofNat m) = true) (hp0:p0 (body104 (onP 0 p0 (Ru n f m g q) L)) (st104 n f m g 0 (jk104 n f m g )) = true):(Az (Ak tab ⟨Ap tb0,onP 0 p0 (Ru n f m g q) L,Gl⟩ Try.f104 [.sl 5 n (λi=>evV (f i)),.sl 5 m (λi=>evV (g i))] [])).sem = some ((bV false),[]):=Aa [false,true] [An (ieq (ofNat n) (ofNat m)),p0 (body104 (onP 0 p0 (Ru n f m g q) L)) (st104 n f m g 0 (jk104 n f m g ))] (by kernel_rfl) (by simp only [hp0] <;> simp only [h0] <;> rfl)
theorem AhG (h0:ieq (ofNat n) (ofNat m) = true) (hp0:p0 (body104 (onP 0 p0 (en104e n f m g q) L)) (st104 n f m g 0 (jk104 n f m g )) = true):(Az (Ak tab ⟨Ap tb0,onP 0 p0 (en104e n f m g q) L,Gl⟩ Try.f104 [.sl 5 n (λi=>evV (f i)),.sl 5 m (λi=>evV (g i))] [])).sem = some ((bV true),[]):=Aa [false,true] [An (ieq (ofNat n) (ofNat m)),p0 (body104 (onP 0 p0 (en104e n f m g q) L)) (st104 n f m g 0 (jk104 n f m g ))] (by kernel_rfl) (by simp only [hp0] <;> simp only [h0] <;> rfl)
end
theorem run104 (L:LT) (n:Nat) (f:Nat->Ev5) (m:Nat) (g:Nat->Ev5) (hn:n <= 4611686018427387904) (hm:n = m):∀ (e b:Nat) (j:Nat->V) (q:Nat),n = b+e->e < q->(∀ k,k < b->FK (f k) (g k) = true) ->
  ((A9 (body104 L) (lp104 n f m g) q (st104 n f m g b j)).sem = some (Ru n f m g 0) ∧ (Au n λk=>FK (f k) (g k)) = false) ∨ ((A9 (body104 L) (lp104 n f m g) q (st104 n f m g b j)).sem = some (en104e n f m g 0) ∧ (Au n λk=>FK (f k) (g k)) = true)
 | 0,b,j,q+1,h,_,hb=>by
  have:n = b:=by omega
  subst this
  exact .inr ⟨Ad (Aja L n f m g n j (AD (Nat.le_refl _))),AJ.2 hb⟩
 | e+1,b,j,q+1,h,h2,hb=>by
  have hl:b < n:=by omega
  cases hp:FK (f b) (g b) with
  | false =>
   refine .inl ⟨?_,?_⟩
   ·rw [Ad (AiZ L n f m g b j (ofNat_lt hl) (AI b) (ofNat_lt (by omega)) hp),EK]
    rfl
   ·cases ha:(Au n λk=>FK (f k) (g k)) with
    | false=>rfl
    | true =>
     have:=AJ.1 ha b hl
     rw [hp] at this
     cases this
  | true =>
   have next:=run104 L n f m g hn hm e (b+1) (λ_=>.und) q (by omega) (by omega) λk hk=>by
    by_cases hki:k = b
    ·rw [hki]; exact hp
    ·exact hb k (by omega)
   rw [Ad (AiY L n f m g b j (ofNat_lt hl) (AI b) (ofNat_lt (by omega)) hp),Ax,Ao hl hn]
   exact next
theorem p104:A6 Try.prog Gl 104 TZ:=by
 refine A5 AO AP Try.func104 (by kernel_rfl) (by kernel_rfl) λvs v h' h=>?_
 unfold TZ at h
 split at h
 ·rename_i v1 u1
  obtain ⟨n,f,a1,h⟩:=CT h
  obtain ⟨m,g,a2,h⟩:=CT h
  obtain ⟨hn,h⟩:=Ag h
  have:=Ac h
  simp only [Prod.mk.injEq] at this
  obtain ⟨rfl,rfl⟩:=this
  have hA:BJ [v1,u1] [NI Xv n f,NI Xv m g]:=λS w cs hv=>by
   obtain ⟨c,l,rfl,q1,c',l',rfl,q2,q3⟩:=hv
   exact ⟨c,_,rfl,a1 S w c q1,c',l',rfl,a2 S w c' q2,q3⟩
  have hx:=AQ Dd [(0,lp104 n f m g)] (G:=Gl)
  have hL:=AL [(0,lp104 n f m g)]
  refine ⟨_,AS Gl tb0 [(0,lp104 n f m g)],_,hA,rfl,hx.1,hx.2,?_,AC.refl _⟩
  cases hl:ieq (ofNat n) (ofNat m) with
  | false =>
   rw [show Iu n f m g = false from GG hl]
   exact AhE _ n f m g hl
  | true =>
   rw [show Iu n f m g = _ from B5 hl]
   have h0:=λL j=>run104 L n f m g (Kl hn) (GS hl) n 0 j (n+1) (by omega) (by omega) (λk hk=>absurd hk (Nat.not_lt_zero _))
   cases ha:(Au n λk=>FK (f k) (g k)) with
   | false=>exact A7 (Ay hL hL) _ (AhF _ _ n f m g 0 hl (Am ((h0 _ _).elim (λh=>h.1) λh=>by have:=h.2; rw [ha] at this; cases this)))
   | true=>exact A7 (Ay hL hL) _ (AhG _ _ n f m g 0 hl (Am ((h0 _ _).elim (λh=>by have:=h.2; rw [ha] at this; cases this) λh=>h.1)))
 ·cases h
def Mo (n:Nat) (_:Nat->Int) (_:Nat) (_:Nat->Int):Lp:=⟨(bmK 26 0 [0,1,4,12,13]),0,bmK 26 0 [4],0,n+1⟩
def Kk (n:Nat) (f:Nat->Int) (m:Nat) (g:Nat->Int) (b:Nat) (j:Nat->V):St:=⟨(jsV 26 0 j [(0,.sl 1 n (λi=>iV (f i))),(1,.sl 1 m (λi=>iV (g i))),(4,bV false),(12,nV n),(13,nV b)]),[]⟩
def Rs (_:Nat) (_:Nat->Int) (_:Nat) (_:Nat->Int) (_:Nat):Ex × St:=(.rt,⟨(jsV 26 0 (λ_=>.und) [(4,bV false)]),[]⟩)
def Rt (_:Nat) (_:Nat->Int) (_:Nat) (_:Nat->Int) (_:Nat):Ex × St:=(.ex 0,⟨(jsV 26 0 (λ_=>.und) [(4,bV false)]),[]⟩)
noncomputable def F6 (L:LT):St->T (Ex × St):=λst=>AF tab ⟨Ap tb0,L,Gl⟩ (A1 Try.f105 0) 0 st
theorem AiX (L:LT) (n:Nat) (f:Nat->Int) (m:Nat) (g:Nat->Int) (b:Nat)  (j:Nat->V) (h0:ilt (ofNat b) (ofNat n) = false):Ai (F6 L) (Mo n f m g) (Kk n f m g b j) = some ((.ex 0),⟨(jsV 26 0 (λ_=>.und) [(4,(bV false))]),[]⟩):=Aa [false] [ilt (ofNat b) (ofNat n)] (by kernel_rfl) (by simp only [h0] <;> rfl)
section
variable (L:LT) (n:Nat) (f:Nat->Int) (m:Nat) (g:Nat->Int) (b:Nat) (j:Nat->V)
include L n f m g b j
theorem AiW (h0:ilt (ofNat b) (ofNat n) = true) (h17:ile 0 (ofNat b) = true) (h1:ilt (ofNat b) (ofNat m) = true) (h2:ieq (f b) (g b) = false):Ai (F6 L) (Mo n f m g) (Kk n f m g b j) = some (.rt,⟨(jsV 26 0 (λ_=>.und) [(4,(bV false))]),[]⟩):=Aa [true,true,true,true] [ilt (ofNat b) (ofNat n),Af (ile 0 (ofNat b)) (ilt (ofNat b) (ofNat n)),Af (ile 0 (ofNat b)) (ilt (ofNat b) (ofNat m)),An (ieq (f b) (g b))] (by kernel_rfl) (by simp only [*] <;> rfl)
theorem AiV (h0:ilt (ofNat b) (ofNat n) = true) (h17:ile 0 (ofNat b) = true) (h1:ilt (ofNat b) (ofNat m) = true) (h2:ieq (f b) (g b) = true):Ai (F6 L) (Mo n f m g) (Kk n f m g b j) = some (.nm,⟨(jsV 26 0 (λ_=>.und) [(0,(.sl 1 n (λi=>iV (f i)))),(1,(.sl 1 m (λi=>iV (g i)))),(4,(bV false)),(12,(nV n)),(13,(iV (wr .i64 (Ae (ofNat b) 1))))]),[]⟩):=Aa [true,true,true,false] [ilt (ofNat b) (ofNat n),Af (ile 0 (ofNat b)) (ilt (ofNat b) (ofNat n)),Af (ile 0 (ofNat b)) (ilt (ofNat b) (ofNat m)),An (ieq (f b) (g b))] (by kernel_rfl) (by simp only [*] <;> rfl)
end
def VW (n:Nat) (f:Nat->Int) (m:Nat) (g:Nat->Int) :Nat->V:=lkV AA [(6,(.sl 1 n (λi=>iV (f i)))),(7,(nV n)),(8,(.sl 1 m (λi=>iV (g i)))),(9,(nV m)),(10,(bV (An (ieq (ofNat n) (ofNat m))))),(11,(.sl 1 n (λi=>iV (f i))))]
theorem AhB (L:LT) (n:Nat) (f:Nat->Int) (m:Nat) (g:Nat->Int) (h0:ieq (ofNat n) (ofNat m) = false):(Az (Ak tab ⟨Ap tb0,L,Gl⟩ Try.f105 [.sl 1 n (λi=>iV (f i)),.sl 1 m (λi=>iV (g i))] [])).sem = some ((bV false),[]):=Aa [true] [An (ieq (ofNat n) (ofNat m))] (by kernel_rfl) (by simp only [h0] <;> rfl)
section
variable (L:LT) (p0:PT) (n:Nat) (f:Nat->Int) (m:Nat) (g:Nat->Int) (q:Nat)
include L p0 n f m g q
theorem AhC (h0:ieq (ofNat n) (ofNat m) = true) (hp0:p0 (F6 (onP 0 p0 (Rs n f m g q) L)) (Kk n f m g 0 (VW n f m g )) = true):(Az (Ak tab ⟨Ap tb0,onP 0 p0 (Rs n f m g q) L,Gl⟩ Try.f105 [.sl 1 n (λi=>iV (f i)),.sl 1 m (λi=>iV (g i))] [])).sem = some ((bV false),[]):=Aa [false,true] [An (ieq (ofNat n) (ofNat m)),p0 (F6 (onP 0 p0 (Rs n f m g q) L)) (Kk n f m g 0 (VW n f m g ))] (by kernel_rfl) (by simp only [hp0] <;> simp only [h0] <;> rfl)
theorem AhD (h0:ieq (ofNat n) (ofNat m) = true) (hp0:p0 (F6 (onP 0 p0 (Rt n f m g q) L)) (Kk n f m g 0 (VW n f m g )) = true):(Az (Ak tab ⟨Ap tb0,onP 0 p0 (Rt n f m g q) L,Gl⟩ Try.f105 [.sl 1 n (λi=>iV (f i)),.sl 1 m (λi=>iV (g i))] [])).sem = some ((bV true),[]):=Aa [false,true] [An (ieq (ofNat n) (ofNat m)),p0 (F6 (onP 0 p0 (Rt n f m g q) L)) (Kk n f m g 0 (VW n f m g ))] (by kernel_rfl) (by simp only [hp0] <;> simp only [h0] <;> rfl)
end
theorem Y7 (L:LT) (n:Nat) (f:Nat->Int) (m:Nat) (g:Nat->Int) (hn:n <= 4611686018427387904) (hm:n = m):∀ (e b:Nat) (j:Nat->V) (q:Nat),n = b+e->e < q->(∀ k,k < b->ieq (f k) (g k) = true) ->
  ((A9 (F6 L) (Mo n f m g) q (Kk n f m g b j)).sem = some (Rs n f m g 0) ∧ (Au n λk=>ieq (f k) (g k)) = false) ∨ ((A9 (F6 L) (Mo n f m g) q (Kk n f m g b j)).sem = some (Rt n f m g 0) ∧ (Au n λk=>ieq (f k) (g k)) = true)
 | 0,b,j,q+1,h,_,hb=>by
  have:n = b:=by omega
  subst this
  exact .inr ⟨Ad (AiX L n f m g n j (AD (Nat.le_refl _))),AJ.2 hb⟩
 | e+1,b,j,q+1,h,h2,hb=>by
  have hl:b < n:=by omega
  cases hp:ieq (f b) (g b) with
  | false =>
   refine .inl ⟨?_,?_⟩
   ·rw [Ad (AiW L n f m g b j (ofNat_lt hl) (AI b) (ofNat_lt (by omega)) hp),EK]
    rfl
   ·cases ha:(Au n λk=>ieq (f k) (g k)) with
    | false=>rfl
    | true =>
     have:=AJ.1 ha b hl
     rw [hp] at this
     cases this
  | true =>
   have next:=Y7 L n f m g hn hm e (b+1) (λ_=>.und) q (by omega) (by omega) λk hk=>by
    by_cases hki:k = b
    ·rw [hki]; exact hp
    ·exact hb k (by omega)
   rw [Ad (AiV L n f m g b j (ofNat_lt hl) (AI b) (ofNat_lt (by omega)) hp),Ax,Ao hl hn]
   exact next
theorem Ajg:A6 Try.prog Gl 105 Qx:=by
 refine A5 AO AP Try.func105 (by kernel_rfl) (by kernel_rfl) λvs v h' h=>?_
 unfold Qx at h
 split at h
 ·rename_i v1 u1
  obtain ⟨n,f,a1,h⟩:=CT h
  obtain ⟨m,g,a2,h⟩:=CT h
  obtain ⟨hn,h⟩:=Ag h
  have:=Ac h
  simp only [Prod.mk.injEq] at this
  obtain ⟨rfl,rfl⟩:=this
  have hA:BJ [v1,u1] [NI Xw n f,NI Xw m g]:=λS w cs hv=>by
   obtain ⟨c,l,rfl,q1,c',l',rfl,q2,q3⟩:=hv
   exact ⟨c,_,rfl,a1 S w c q1,c',l',rfl,a2 S w c' q2,q3⟩
  have hx:=AQ Dd [(0,Mo n f m g)] (G:=Gl)
  have hL:=AL [(0,Mo n f m g)]
  refine ⟨_,AS Gl tb0 [(0,Mo n f m g)],_,hA,rfl,hx.1,hx.2,?_,AC.refl _⟩
  cases hl:ieq (ofNat n) (ofNat m) with
  | false =>
   rw [show CF n f m g = false from GG hl]
   exact AhB _ n f m g hl
  | true =>
   rw [show CF n f m g = _ from B5 hl]
   have h0:=λL j=>Y7 L n f m g (Kl hn) (GS hl) n 0 j (n+1) (by omega) (by omega) (λk hk=>absurd hk (Nat.not_lt_zero _))
   cases ha:(Au n λk=>ieq (f k) (g k)) with
   | false=>exact A7 (Ay hL hL) _ (AhC _ _ n f m g 0 hl (Am ((h0 _ _).elim (λh=>h.1) λh=>by have:=h.2; rw [ha] at this; cases this)))
   | true=>exact A7 (Ay hL hL) _ (AhD _ _ n f m g 0 hl (Am ((h0 _ _).elim (λh=>by have:=h.2; rw [ha] at this; cases this) λh=>h.1)))
 ·cases h
noncomputable def Pf:List (Nat × (List V->T (V × List Blk))):=[(105,Qx)]
theorem Ya:AB Try.prog Gl Pf:=.cons Ajg .nil
def Mn (n:Nat) (_:Nat->Nat) (_:Nat->Nat->Int) (_:Nat) (_:Nat->Nat) (_:Nat->Nat->Int):Lp:=⟨(bmK 32 0 [0,1,2,6,15,16,17]),0,bmK 32 0 [6],0,n+1⟩
def Kj (n:Nat) (ln:Nat->Nat) (co:Nat->Nat->Int) (m:Nat) (ln':Nat->Nat) (co':Nat->Nat->Int) (b:Nat) (j:Nat->V):St:=⟨(jsV 32 0 j [(0,.sl 1 n (λu=>.sl 1 (ln u) (λi=>iV (co u i)))),(1,.sl 1 m (λu=>.sl 1 (ln' u) (λi=>iV (co' u i)))),(2,.fn 105 []),(6,bV false),(15,.sl 1 n (λu=>.sl 1 (ln u) (λi=>iV (co u i)))),(16,nV n),(17,nV b)]),[]⟩
def Rq (_:Nat) (_:Nat->Nat) (_:Nat->Nat->Int) (_:Nat) (_:Nat->Nat) (_:Nat->Nat->Int) (_:Nat):Ex × St:=(.rt,⟨(jsV 32 0 (λ_=>.und) [(6,bV false)]),[]⟩)
def Rr (_:Nat) (_:Nat->Nat) (_:Nat->Nat->Int) (_:Nat) (_:Nat->Nat) (_:Nat->Nat->Int) (_:Nat):Ex × St:=(.ex 0,⟨(jsV 32 0 (λ_=>.und) [(6,bV false)]),[]⟩)
noncomputable def F5 (L:LT):St->T (Ex × St):=λst=>AF tab ⟨Ap Pf,L,Gl⟩ (A1 Try.f106 0) 0 st
section
variable (L:LT) (n:Nat) (ln:Nat->Nat) (co:Nat->Nat->Int) (m:Nat) (ln':Nat->Nat) (co':Nat->Nat->Int) (b:Nat)  (j:Nat->V)
include L n ln co m ln' co' b j
theorem AiU (h0:ilt (ofNat b) (ofNat n) = false):Ai (F5 L) (Mn n ln co m ln' co') (Kj n ln co m ln' co' b j) = some ((.ex 0),⟨(jsV 32 0 (λ_=>.und) [(6,(bV false))]),[]⟩):=Aa [false] [ilt (ofNat b) (ofNat n)] (by kernel_rfl) (by simp only [h0] <;> rfl)
theorem AiT (h0:ilt (ofNat b) (ofNat n) = true) (h17:ile 0 (ofNat b) = true) (h1:ilt (ofNat b) (ofNat m) = true) (h18:Ah (ln b) = true) (h2:CF (ln b) (co b) (ln' b) (co' b) = false):Ai (F5 L) (Mn n ln co m ln' co') (Kj n ln co m ln' co' b j) = some (.rt,⟨(jsV 32 0 (λ_=>.und) [(6,(bV false))]),[]⟩):=Aa (bbK 7 127) [ilt (ofNat b) (ofNat n),Af (ile 0 (ofNat b)) (ilt (ofNat b) (ofNat n)),Af (ile 0 (ofNat b)) (ilt (ofNat b) (ofNat m)),Au (ln b) (λ_=>true),Au (ln' b) (λ_=>true),Ah (ln b),An (CF (ln b) (co b) (ln' b) (co' b))] (by kernel_rfl) (by simp only [*,Aw] <;> rfl)
theorem AiS (h0:ilt (ofNat b) (ofNat n) = true) (h17:ile 0 (ofNat b) = true) (h1:ilt (ofNat b) (ofNat m) = true) (h18:Ah (ln b) = true) (h2:CF (ln b) (co b) (ln' b) (co' b) = true):Ai (F5 L) (Mn n ln co m ln' co') (Kj n ln co m ln' co' b j) = some (.nm,⟨(jsV 32 0 (λ_=>.und) [(0,(.sl 1 n (λu=>.sl 1 (ln u) (λi=>iV (co u i))))),(1,(.sl 1 m (λu=>.sl 1 (ln' u) (λi=>iV (co' u i))))),(2,(.fn 105 [])),(6,(bV false)),(15,(.sl 1 n (λu=>.sl 1 (ln u) (λi=>iV (co u i))))),(16,(nV n)),(17,(iV (wr .i64 (Ae (ofNat b) 1))))]),[]⟩):=Aa (bbK 7 63) [ilt (ofNat b) (ofNat n),Af (ile 0 (ofNat b)) (ilt (ofNat b) (ofNat n)),Af (ile 0 (ofNat b)) (ilt (ofNat b) (ofNat m)),Au (ln b) (λ_=>true),Au (ln' b) (λ_=>true),Ah (ln b),An (CF (ln b) (co b) (ln' b) (co' b))] (by kernel_rfl) (by simp only [*,Aw] <;> rfl)
end
def VV (n:Nat) (ln:Nat->Nat) (co:Nat->Nat->Int) (m:Nat) (ln':Nat->Nat) (co':Nat->Nat->Int) :Nat->V:=lkV AA [(10,(.sl 1 n (λu=>.sl 1 (ln u) (λi=>iV (co u i))))),(11,(nV n)),(12,(.sl 1 m (λu=>.sl 1 (ln' u) (λi=>iV (co' u i))))),(13,(nV m)),(14,(bV (An (ieq (ofNat n) (ofNat m)))))]
theorem Ah8 (L:LT) (n:Nat) (ln:Nat->Nat) (co:Nat->Nat->Int) (m:Nat) (ln':Nat->Nat) (co':Nat->Nat->Int) (h0:ieq (ofNat n) (ofNat m) = false):(Az (Ak tab ⟨Ap Pf,L,Gl⟩ Try.f106 [.sl 1 n (λu=>.sl 1 (ln u) (λi=>iV (co u i))),.sl 1 m (λu=>.sl 1 (ln' u) (λi=>iV (co' u i))),.fn 105 []] [])).sem = some ((bV false),[]):=Aa [true] [An (ieq (ofNat n) (ofNat m))] (by kernel_rfl) (by simp only [h0] <;> rfl)
section
variable (L:LT) (p0:PT) (n:Nat) (ln:Nat->Nat) (co:Nat->Nat->Int) (m:Nat) (ln':Nat->Nat) (co':Nat->Nat->Int) (q:Nat)
include L p0 n ln co m ln' co' q
theorem Ah9 (h0:ieq (ofNat n) (ofNat m) = true) (hp0:p0 (F5 (onP 0 p0 (Rq n ln co m ln' co' q) L)) (Kj n ln co m ln' co' 0 (VV n ln co m ln' co' )) = true):(Az (Ak tab ⟨Ap Pf,onP 0 p0 (Rq n ln co m ln' co' q) L,Gl⟩ Try.f106 [.sl 1 n (λu=>.sl 1 (ln u) (λi=>iV (co u i))),.sl 1 m (λu=>.sl 1 (ln' u) (λi=>iV (co' u i))),.fn 105 []] [])).sem = some ((bV false),[]):=Aa [false,true] [An (ieq (ofNat n) (ofNat m)),p0 (F5 (onP 0 p0 (Rq n ln co m ln' co' q) L)) (Kj n ln co m ln' co' 0 (VV n ln co m ln' co' ))] (by kernel_rfl) (by simp only [hp0] <;> simp only [h0] <;> rfl)
theorem AhA (h0:ieq (ofNat n) (ofNat m) = true) (hp0:p0 (F5 (onP 0 p0 (Rr n ln co m ln' co' q) L)) (Kj n ln co m ln' co' 0 (VV n ln co m ln' co' )) = true):(Az (Ak tab ⟨Ap Pf,onP 0 p0 (Rr n ln co m ln' co' q) L,Gl⟩ Try.f106 [.sl 1 n (λu=>.sl 1 (ln u) (λi=>iV (co u i))),.sl 1 m (λu=>.sl 1 (ln' u) (λi=>iV (co' u i))),.fn 105 []] [])).sem = some ((bV true),[]):=Aa [false,true] [An (ieq (ofNat n) (ofNat m)),p0 (F5 (onP 0 p0 (Rr n ln co m ln' co' q) L)) (Kj n ln co m ln' co' 0 (VV n ln co m ln' co' ))] (by kernel_rfl) (by simp only [hp0] <;> simp only [h0] <;> rfl)
end
theorem Y6 (L:LT) (n:Nat) (ln:Nat->Nat) (co:Nat->Nat->Int) (m:Nat) (ln':Nat->Nat) (co':Nat->Nat->Int) (hn:n <= 4611686018427387904) (hm:n = m) (hs:∀ k,k < n->Ah (ln k) = true):∀ (e b:Nat) (j:Nat->V) (q:Nat),n = b+e->e < q->(∀ k,k < b->CF (ln k) (co k) (ln' k) (co' k) = true) ->
  ((A9 (F5 L) (Mn n ln co m ln' co') q (Kj n ln co m ln' co' b j)).sem = some (Rq n ln co m ln' co' 0) ∧ (Au n λk=>CF (ln k) (co k) (ln' k) (co' k)) = false) ∨ ((A9 (F5 L) (Mn n ln co m ln' co') q (Kj n ln co m ln' co' b j)).sem = some (Rr n ln co m ln' co' 0) ∧ (Au n λk=>CF (ln k) (co k) (ln' k) (co' k)) = true)
 | 0,b,j,q+1,h,_,hb=>by
  have:n = b:=by omega
  subst this
  exact .inr ⟨Ad (AiU L n ln co m ln' co' n j (AD (Nat.le_refl _))),AJ.2 hb⟩
 | e+1,b,j,q+1,h,h2,hb=>by
  have hl:b < n:=by omega
  cases hp:CF (ln b) (co b) (ln' b) (co' b) with
  | false =>
   refine .inl ⟨?_,?_⟩
   ·rw [Ad (AiT L n ln co m ln' co' b j (ofNat_lt hl) (AI b) (ofNat_lt (by omega)) (hs b hl) hp),EK]
    rfl
   ·cases ha:(Au n λk=>CF (ln k) (co k) (ln' k) (co' k)) with
    | false=>rfl
    | true =>
     have:=AJ.1 ha b hl
     rw [hp] at this
     cases this
  | true =>
   have next:=Y6 L n ln co m ln' co' hn hm hs e (b+1) (λ_=>.und) q (by omega) (by omega) λk hk=>by
    by_cases hki:k = b
    ·rw [hki]; exact hp
    ·exact hb k (by omega)
   rw [Ad (AiS L n ln co m ln' co' b j (ofNat_lt hl) (AI b) (ofNat_lt (by omega)) (hs b hl) hp),Ax,Ao hl hn]
   exact next
theorem AkE:A6 Try.prog Gl 106 Qw:=by
 refine A5 AO AP Try.func106 (by kernel_rfl) (by kernel_rfl) λvs v h' h=>?_
 unfold Qw at h
 split at h
 ·rename_i v1 u1
  obtain ⟨n,C,a1,h⟩:=CT h
  obtain ⟨m,D,a2,h⟩:=CT h
  obtain ⟨hn,h⟩:=Ag h
  obtain ⟨hs,h⟩:=Ag h
  have hs:=AJ.1 hs
  have:=Ac h
  simp only [Prod.mk.injEq] at this
  obtain ⟨rfl,rfl⟩:=this
  have hA:BJ [v1,u1,.fn 105 []] [.sl 1 n (λu=>.sl 1 (C u).1 (λi=>iV ((C u).2 i))),.sl 1 m (λu=>.sl 1 (D u).1 (λi=>iV ((D u).2 i))),.fn 105 []]:=λS w cs hv=>by
   obtain ⟨c,l,rfl,q1,c',l',rfl,q2,q3⟩:=hv
   exact ⟨c,_,rfl,a1 S w c q1,c',l',rfl,a2 S w c' q2,q3⟩
  generalize hln:(λi=>(C i).1) = ln
  generalize hco:(λi=>(C i).2) = co
  generalize hln':(λi=>(D i).1) = ln'
  generalize hco':(λi=>(D i).2) = co'
  have hx:=AQ Ya [(0,Mn n ln co m ln' co')] (G:=Gl)
  have hL:=AL [(0,Mn n ln co m ln' co')]
  refine ⟨_,AS Gl Pf [(0,Mn n ln co m ln' co')],_,hA,rfl,hx.1,hx.2,?_,AC.refl _⟩
  have hs:∀ k,k < n->Ah (ln k) = true:=λk hk=>by rw [<- hln]; exact hs k hk
  have e1:∀ u,(C u).1 = ln u:=λu=>by rw [<- hln]
  have e2:∀ u,(C u).2 = co u:=λu=>by rw [<- hco]
  have e3:∀ u,(D u).1 = ln' u:=λu=>by rw [<- hln']
  have e4:∀ u,(D u).2 = co' u:=λu=>by rw [<- hco']
  simp only [e1,e2,e3,e4]
  cases hl:ieq (ofNat n) (ofNat m) with
  | false =>
   rw [show Gj n ln co m ln' co' = false from GG hl]
   exact Ah8 _ n ln co m ln' co' hl
  | true =>
   rw [show Gj n ln co m ln' co' = _ from B5 hl]
   have h0:=λL j=>Y6 L n ln co m ln' co' (Kl hn) (GS hl) hs n 0 j (n+1) (by omega) (by omega) (λk hk=>absurd hk (Nat.not_lt_zero _))
   cases ha:(Au n λk=>CF (ln k) (co k) (ln' k) (co' k)) with
   | false=>exact A7 (Ay hL hL) _ (Ah9 _ _ n ln co m ln' co' 0 hl (Am ((h0 _ _).elim (λh=>h.1) λh=>by have:=h.2; rw [ha] at this; cases this)))
   | true=>exact A7 (Ay hL hL) _ (AhA _ _ n ln co m ln' co' 0 hl (Am ((h0 _ _).elim (λh=>by have:=h.2; rw [ha] at this; cases this) λh=>h.1)))
 ·cases h
noncomputable def Qh:List (Nat × (List V->T (V × List Blk))):=[(103,Ua),(104,TZ),(105,Qx),(106,Qw)]
theorem AaL:AB Try.prog Gl Qh:=.cons p103 <| .cons p104 <| .cons Ajg <| .cons AkE .nil
theorem AaZ (a b c d e i j k:Bool):Af a (Af b (Af c (Af d (Af e (Af i (Af j k)))))) = Af a (Af b (Af c (Af d (Af (Af e k) (Af i (Af j true)))))):=by
 cases a <;> cases b <;> cases c <;> cases d <;> cases e <;> cases i <;> cases j <;> cases k <;> rfl
section
variable (L:LT) (a:Int) (n:Nat) (g:Nat->E6) (m:Nat) (x:Nat->Ev5) (t k:Int) (p:Nat) (r:Nat->Int) (q:Nat) (ln:Nat->Nat) (co:Nat->Nat->Int) (a':Int) (n':Nat) (g':Nat->E6) (m':Nat) (x':Nat->Ev5) (t' k':Int) (p':Nat) (r':Nat->Int) (q':Nat) (ln':Nat->Nat) (co':Nat->Nat->Int)
include L a n g m x t k p r q ln co a' n' g' m' x' t' k' p' r' q' ln' co'
theorem Ah7 (h0:ieq a a' = false):(Az (Ak tab ⟨Ap Qh,L,Gl⟩ Try.f72 [.agg (shL a n g m x t k p r q ln co),.agg (shL a' n' g' m' x' t' k' p' r' q' ln' co')] [])).sem = some ((bV false),[]):=Aa (bbK 36 0) ((λc0 c1=>[c0,c0,c0,c0,c0,c0,c1,c1,c1,c1,c1,c1,c1,c1,c1,c1,c1,c1,c1,c1,c1,c1,c1,c1,c1,c1,c1,c1,c1,c1,c1,c1,c1,c1,c1,c1]) (ieq a a') (false)) (by kernel_rfl) (by simp only [h0] <;> rfl)
theorem Ah6 (h0:ieq a a' = true) (h1:ieq t t' = false):(Az (Ak tab ⟨Ap Qh,L,Gl⟩ Try.f72 [.agg (shL a n g m x t k p r q ln co),.agg (shL a' n' g' m' x' t' k' p' r' q' ln' co')] [])).sem = some ((bV false),[]):=Aa (bbK 36 63) ((λc0 c1 c2=>[c0,c0,c0,c0,c0,c0,c1,c1,c1,c1,c1,c1,c2,c2,c2,c2,c2,c2,c2,c2,c2,c2,c2,c2,c2,c2,c2,c2,c2,c2,c2,c2,c2,c2,c2,c2]) (ieq a a') (ieq t t') (false)) (by kernel_rfl) (by simp only [h0,h1] <;> rfl)
theorem Ah5 (h0:ieq a a' = true) (h1:ieq t t' = true) (h2:ieq k k' = false):(Az (Ak tab ⟨Ap Qh,L,Gl⟩ Try.f72 [.agg (shL a n g m x t k p r q ln co),.agg (shL a' n' g' m' x' t' k' p' r' q' ln' co')] [])).sem = some ((bV false),[]):=Aa (bbK 36 4095) ((λc0 c1 c2 c3=>[c0,c0,c0,c0,c0,c0,c1,c1,c1,c1,c1,c1,c2,c2,c2,c2,c2,c2,c3,c3,c3,c3,c3,c3,c3,c3,c3,c3,c3,c3,c3,c3,c3,c3,c3,c3]) (ieq a a') (ieq t t') (ieq k k') (false)) (by kernel_rfl) (by simp only [*] <;> rfl)
theorem Ah4 (h0:ieq a a' = true) (h1:ieq t t' = true) (h2:ieq k k' = true) (h18:Ah n = true) (h3:CY n g n' g' = false):(Az (Ak tab ⟨Ap Qh,L,Gl⟩ Try.f72 [.agg (shL a n g m x t k p r q ln co),.agg (shL a' n' g' m' x' t' k' p' r' q' ln' co')] [])).sem = some ((bV false),[]):=Aa (bbK 39 2097151) ((λc0 c1 c2 c3 c4=>[c0,c0,c0,c0,c0,c0,c1,c1,c1,c1,c1,c1,c2,c2,c2,c2,c2,Au n (λ_=>true),Au n' (λ_=>true),Ah n,c2,c3,c3,c3,c3,c3,c3,c4,c4,c4,c4,c4,c4,c4,c4,c4,c4,c4,c4]) (ieq a a') (ieq t t') (ieq k k') (CY n g n' g') (false)) (by kernel_rfl) (by simp only [*,Aw] <;> rfl)
theorem Ah3 (h0:ieq a a' = true) (h1:ieq t t' = true) (h2:ieq k k' = true) (h19:Ah n = true) (h3:CY n g n' g' = true) (h20:Ah m = true) (h4:Iu m x m' x' = false):(Az (Ak tab ⟨Ap Qh,L,Gl⟩ Try.f72 [.agg (shL a n g m x t k p r q ln co),.agg (shL a' n' g' m' x' t' k' p' r' q' ln' co')] [])).sem = some ((bV false),[]):=Aa (bbK 42 1073741823) ((λc0 c1 c2 c3 c4 c5=>[c0,c0,c0,c0,c0,c0,c1,c1,c1,c1,c1,c1,c2,c2,c2,c2,c2,Au n (λ_=>true),Au n' (λ_=>true),Ah n,c2,c3,c3,c3,c3,c3,Au m (λ_=>true),Au m' (λ_=>true),Ah m,c3,c4,c4,c4,c4,c4,c4,c5,c5,c5,c5,c5,c5]) (ieq a a') (ieq t t') (ieq k k') (CY n g n' g') (Iu m x m' x') (false)) (by kernel_rfl) (by simp only [*,Aw] <;> rfl)
theorem Ah2 (h0:ieq a a' = true) (h1:ieq t t' = true) (h2:ieq k k' = true) (h20:Ah n = true) (h3:CY n g n' g' = true) (h21:Ah m = true) (h4:Iu m x m' x' = true) (h22:Ah p = true) (h5:CF p r p' r' = false):(Az (Ak tab ⟨Ap Qh,L,Gl⟩ Try.f72 [.agg (shL a n g m x t k p r q ln co),.agg (shL a' n' g' m' x' t' k' p' r' q' ln' co')] [])).sem = some ((bV false),[]):=Aa (bbK 45 549755813887) ((λc0 c1 c2 c3 c4 c5=>[c0,c0,c0,c0,c0,c0,c1,c1,c1,c1,c1,c1,c2,c2,c2,c2,c2,Au n (λ_=>true),Au n' (λ_=>true),Ah n,c2,c3,c3,c3,c3,c3,Au m (λ_=>true),Au m' (λ_=>true),Ah m,c3,c4,c4,c4,c4,c4,Au p (λ_=>true),Au p' (λ_=>true),Ah p,c4,c5,c5,c5,c5,c5,c5]) (ieq a a') (ieq t t') (ieq k k') (CY n g n' g') (Iu m x m' x') (CF p r p' r')) (by kernel_rfl) (by simp only [*,Aw] <;> rfl)
theorem AjY (h0:ieq a a' = true) (h1:ieq t t' = true) (h2:ieq k k' = true) (h21:Ah n = true) (h3:CY n g n' g' = true) (h22:Ah m = true) (h4:Iu m x m' x' = true) (h23:Ah p = true) (h5:CF p r p' r' = true) (h24:Au q (λi=>Au (ln i) (λ_=>true)) = true) (h25:Au q' (λi=>Au (ln' i) (λ_=>true)) = true) (h26:Ah q = true) (h27:Au q (λi=>Ah (ln i)) = true):(Az (Ak tab ⟨Ap Qh,L,Gl⟩ Try.f72 [.agg (shL a n g m x t k p r q ln co),.agg (shL a' n' g' m' x' t' k' p' r' q' ln' co')] [])).sem = some ((bV (Gj q ln (λi i_1=>co i i_1) q' ln' (λi i_1=>co' i i_1))),[]):=Aa (bbK 49 562949953421311) ((λc0 c1 c2 c3 c4 c5=>[c0,c0,c0,c0,c0,c0,c1,c1,c1,c1,c1,c1,c2,c2,c2,c2,c2,Au n (λ_=>true),Au n' (λ_=>true),Ah n,c2,c3,c3,c3,c3,c3,Au m (λ_=>true),Au m' (λ_=>true),Ah m,c3,c4,c4,c4,c4,c4,Au p (λ_=>true),Au p' (λ_=>true),Ah p,c4,c5,c5,c5,c5,c5,Au q (λi=>Au (ln i) (λ_=>true)),Au q' (λi=>Au (ln' i) (λ_=>true)),Ah q,Au q (λi=>Ah (ln i)),c5]) (ieq a a') (ieq t t') (ieq k k') (CY n g n' g') (Iu m x m' x') (CF p r p' r')) (by kernel_rfl) (by simp only [*,Aw] <;> rfl)
end
theorem p72:A6 Try.prog Gl 72 TX:=by
 refine A5 AO AP Try.func72 (by kernel_rfl) (by kernel_rfl) λvs v h' h=>?_
 unfold TX at h
 split at h
 ·rename_i v1 u1
  obtain ⟨s,a1,h⟩:=EX h
  obtain ⟨s',a2,h⟩:=EX h
  obtain ⟨hn,h⟩:=Ag h
  have:=Ac h
  simp only [Prod.mk.injEq] at this
  obtain ⟨rfl,rfl⟩:=this
  obtain ⟨a,n,g,m,x,t,k,p,r,q,C⟩:=s
  obtain ⟨a',n',g',m',x',t',k',p',r',q',D⟩:=s'
  have hA:BJ [v1,u1] [.agg [iV a,.sl 6 n (λi=>eV (g i)),.sl 5 m (λi=>evV (x i)),iV t,iV k,.sl 1 p (λi=>iV (r i)),.sl 1 q (λu=>.sl 1 (C u).1 (λi=>iV ((C u).2 i)))],
    .agg [iV a',.sl 6 n' (λi=>eV (g' i)),.sl 5 m' (λi=>evV (x' i)),iV t',iV k',.sl 1 p' (λi=>iV (r' i)),.sl 1 q' (λu=>.sl 1 (D u).1 (λi=>iV ((D u).2 i)))]]:=λS w cs hv=>by
   obtain ⟨c,l,rfl,q1,c',l',rfl,q2,q3⟩:=hv
   exact ⟨c,_,rfl,a1 S w c q1,c',l',rfl,a2 S w c' q2,q3⟩
  have hn:Ah n = true ∧ Ah m = true ∧ Ah p = true ∧ Ah q = true ∧ (Au q λi=>Ah (C i).1) = true:=by simpa [FJ,Af] using hn
  obtain ⟨n1,n2,n3,n4,n5⟩:=hn
  unfold Nu
  dsimp only
  generalize hln:(λi=>(C i).1) = ln
  generalize hco:(λi=>(C i).2) = co
  generalize hln':(λi=>(D i).1) = ln'
  generalize hco':(λi=>(D i).2) = co'
  have hx:=AQ AaL [] (G:=Gl)
  refine ⟨_,AS Gl Qh [],_,hA,rfl,hx.1,hx.2,?_,AC.refl _⟩
  have e1:∀ u,(C u).1 = ln u:=λu=>by rw [<- hln]
  have e2:∀ u,(C u).2 = co u:=λu=>by rw [<- hco]
  have e3:∀ u,(D u).1 = ln' u:=λu=>by rw [<- hln']
  have e4:∀ u,(D u).2 = co' u:=λu=>by rw [<- hco']
  simp only [e1,e2,e3,e4] at n5 ⊢
  have J8:∀ (q:Nat) (ln:Nat->Nat),(Au q λi=>Au (ln i) λ_=>true) = true:=λ_ _=>AJ.2 λ_ _=>AJ.2 λ_ _=>rfl
  rw [AaZ,show (Af (ieq (ofNat m) (ofNat m')) (Au m λk=>FK (x k) (x' k))) = Iu m x m' x' from rfl]
  cases c0:ieq a a' with
  | false=>rw [GG rfl]; exact Ah7 _ a n g m x t k p r q ln co a' n' g' m' x' t' k' p' r' q' ln' co' c0
  | true =>
  rw [B5 rfl]
  cases c1:ieq t t' with
  | false=>rw [GG rfl]; exact Ah6 _ a n g m x t k p r q ln co a' n' g' m' x' t' k' p' r' q' ln' co' c0 c1
  | true =>
  rw [B5 rfl]
  cases c2:ieq k k' with
  | false=>rw [GG rfl]; exact Ah5 _ a n g m x t k p r q ln co a' n' g' m' x' t' k' p' r' q' ln' co' c0 c1 c2
  | true =>
  rw [B5 rfl]
  cases c3:CY n g n' g' with
  | false=>rw [GG rfl]; exact Ah4 _ a n g m x t k p r q ln co a' n' g' m' x' t' k' p' r' q' ln' co' c0 c1 c2 n1 c3
  | true =>
  rw [B5 rfl]
  cases c4:Iu m x m' x' with
  | false=>rw [GG rfl]; exact Ah3 _ a n g m x t k p r q ln co a' n' g' m' x' t' k' p' r' q' ln' co' c0 c1 c2 n1 c3 n2 c4
  | true =>
  rw [B5 rfl]
  cases c5:CF p r p' r' with
  | false=>rw [GG rfl]; exact Ah2 _ a n g m x t k p r q ln co a' n' g' m' x' t' k' p' r' q' ln' co' c0 c1 c2 n1 c3 n2 c4 n3 c5
  | true =>
  rw [B5 rfl]
  rw [show Af (Gj q ln co q' ln' co') true = Gj q ln co q' ln' co' by cases Gj q ln co q' ln' co' <;> rfl]
  exact AjY _ a n g m x t k p r q ln co a' n' g' m' x' t' k' p' r' q' ln' co' c0 c1 c2 n1 c3 n2 c4 n3 c5 (J8 _ _) (J8 _ _) n4 n5
 ·cases h
end Go.Proofs.Ytjhnfomefcngfaa.Sh
