/-
  Layer 7: whether shapes are the same, the program's (by slices.Equal). No conditions.
-/
import Derived.Test.YthlojajaenfidaaGreatDoorShI
namespace Go.Proofs.YthlojajaenfidaaGreatDoor.Sh
open Go.Sy Ed
open Int (ofNat)
set_option maxHeartbeats 1000000
set_option maxRecDepth 4000
theorem AcI {n:Nat} {f:Nat->E6} {m:Nat} {g:Nat->E6} (h:ieq (ofNat n) (ofNat m) = false):DT n f m g = false:=by
 unfold DT
 rw [h]
 rfl
theorem Abf {a b:E6}:eqE a b = true ↔ a = b:=by
 have h:=@N4 1 (λ_=>a) 1 (λ_=>b)
 have e:DT 1 (λ_=>a) 1 (λ_=>b) = eqE a b:=by
  show sel (eqE a b) true false = _
  cases eqE a b <;> rfl
 rw [e] at h
 exact ⟨λhh=>(h.1 hh).2 0 (by omega),λhh=>h.2 ⟨rfl,λ_ _=>hh⟩⟩
theorem AcH {n:Nat} {f:Nat->E6} {m:Nat} {g:Nat->E6} (h:ieq (ofNat n) (ofNat m) = true):DT n f m g = AJ n λk=>eqE (f k) (g k):=by
 rw [Bool.eq_iff_iff,N4,A4]
 exact ⟨λhh k hk=>Abf.2 (hh.2 k hk),λhh=>⟨G8 h,λk hk=>Abf.1 (hh k hk)⟩⟩
def Mk (n:Nat) (f:Nat->Ev5) (m:Nat) (g:Nat->Ev5):Bool:=Al (ieq (ofNat n) (ofNat m)) (AJ n λk=>G2 (f k) (g k))
def U5:List V->T (V × List Blk)
 | [v,u]=>apG Y1 v λn f=>apG Y1 u λm g=>.br (Ao n) (.leaf (bV (DT n f m g),[])) .fail
 | _=>.fail
def U4:List V->T (V × List Blk)
 | [v,u]=>apG Y0 v λn f=>apG Y0 u λm g=>.br (Ao n) (.leaf (bV (Mk n f m g),[])) .fail
 | _=>.fail
def QF:List V->T (V × List Blk)
 | [v,u,.fn 82 []]=>apG AdU v λn C=>apG AdU u λm D=>.br (Ao n) (.br (AJ n λi=>Ao (C i).1) (.leaf (bV (HC n (λi=>(C i).1) (λi=>(C i).2) m (λi=>(D i).1) (λi=>(D i).2)),[])) .fail) .fail
 | _=>.fail
def lp103 (n:Nat) (_:Nat->E6) (_:Nat) (_:Nat->E6):Lp:=⟨(bmK 26 0 [0,1,4,12,13]),0,bmK 26 0 [4],0,n+1⟩
def st103 (n:Nat) (f:Nat->E6) (m:Nat) (g:Nat->E6) (b:Nat) (j:Nat->V):St:=⟨(jsV 26 0 j [(0,.sl 6 n (λi=>eV (f i))),(1,.sl 6 m (λi=>eV (g i))),(4,bV false),(12,nV n),(13,nV b)]),[]⟩
def en103f (_:Nat) (_:Nat->E6) (_:Nat) (_:Nat->E6) (_:Nat):Ex × St:=(.rt,⟨(jsV 26 0 (λ_=>.und) [(4,bV false)]),[]⟩)
def en103e (_:Nat) (_:Nat->E6) (_:Nat) (_:Nat->E6) (_:Nat):Ex × St:=(.ex 0,⟨(jsV 26 0 (λ_=>.und) [(4,bV false)]),[]⟩)
noncomputable def body103 (L:LT):St->T (Ex × St):=λst=>AD tab ⟨Ak tb0,L,Gl⟩ (As Tryz.f80 0) 0 st
theorem AkY (L:LT) (n:Nat) (f:Nat->E6) (m:Nat) (g:Nat->E6) (b:Nat)  (j:Nat->V) (h0:ilt (ofNat b) (ofNat n) = false):Ag (body103 L) (lp103 n f m g) (st103 n f m g b j) = some ((.ex 0),⟨(jsV 26 0 (λ_=>.und) [(4,(bV false))]),[]⟩):=by
 exact Aa (ks:=[kn h0]) (by kernel_rfl)
section
variable (L:LT) (n:Nat) (f:Nat->E6) (m:Nat) (g:Nat->E6) (b:Nat) (j:Nat->V)
include L n f m g b j
theorem AkX (h0:ilt (ofNat b) (ofNat n) = true) (h17:ile 0 (ofNat b) = true) (h1:ilt (ofNat b) (ofNat m) = true) (h2:eqE (f b) (g b) = false):Ag (body103 L) (lp103 n f m g) (st103 n f m g b j) = some (.rt,⟨(jsV 26 0 (λ_=>.und) [(4,(bV false))]),[]⟩):=by
 exact Aa (ks:=[kn h0,kA (kn h17) (kn h0),kA (kn h17) (kn h1),kN (kn h2)]) (by kernel_rfl)
theorem AkW (h0:ilt (ofNat b) (ofNat n) = true) (h17:ile 0 (ofNat b) = true) (h1:ilt (ofNat b) (ofNat m) = true) (h2:eqE (f b) (g b) = true):Ag (body103 L) (lp103 n f m g) (st103 n f m g b j) = some (.nm,⟨(jsV 26 0 (λ_=>.und) [(0,(.sl 6 n (λi=>(eV (f i))))),(1,(.sl 6 m (λi=>(eV (g i))))),(4,(bV false)),(12,(nV n)),(13,(iV (wr .i64 (Af (ofNat b) 1))))]),[]⟩):=by
 exact Aa (ks:=[kn h0,kA (kn h17) (kn h0),kA (kn h17) (kn h1),kN (kn h2)]) (by kernel_rfl)
end
def jk103 (n:Nat) (f:Nat->E6) (m:Nat) (g:Nat->E6) :Nat->V:=lkV A7 [(6,(.sl 6 n (λi=>eV (f i)))),(7,(nV n)),(8,(.sl 6 m (λi=>eV (g i)))),(9,(nV m)),(10,(bV (AG (ieq (ofNat n) (ofNat m))))),(11,(.sl 6 n (λi=>eV (f i))))]
theorem Aj8 (L:LT) (n:Nat) (f:Nat->E6) (m:Nat) (g:Nat->E6) (h0:ieq (ofNat n) (ofNat m) = false):(Au (Ah tab ⟨Ak tb0,L,Gl⟩ Tryz.f80 [.sl 6 n (λi=>eV (f i)),.sl 6 m (λi=>eV (g i))] [])).sem = some ((bV false),[]):=by
 exact Aa (ks:=[kN (kn h0)]) (by kernel_rfl)
section
variable (L:LT) (p0:PT) (n:Nat) (f:Nat->E6) (m:Nat) (g:Nat->E6) (q:Nat)
include L p0 n f m g q
theorem Aj9 (h0:ieq (ofNat n) (ofNat m) = true) (hp0:p0 (body103 (onP 0 p0 (en103f n f m g q) L)) (st103 n f m g 0 (jk103 n f m g )) = true):(Au (Ah tab ⟨Ak tb0,(onP 0 p0 (en103f n f m g q) L),Gl⟩ Tryz.f80 [.sl 6 n (λi=>eV (f i)),.sl 6 m (λi=>eV (g i))] [])).sem = some ((bV false),[]):=by
 exact Aa (ks:=[kN (kn h0),kn hp0]) (by kernel_rfl)
theorem AjA (h0:ieq (ofNat n) (ofNat m) = true) (hp0:p0 (body103 (onP 0 p0 (en103e n f m g q) L)) (st103 n f m g 0 (jk103 n f m g )) = true):(Au (Ah tab ⟨Ak tb0,(onP 0 p0 (en103e n f m g q) L),Gl⟩ Tryz.f80 [.sl 6 n (λi=>eV (f i)),.sl 6 m (λi=>eV (g i))] [])).sem = some ((bV true),[]):=by
 exact Aa (ks:=[kN (kn h0),kn hp0]) (by kernel_rfl)
end
theorem run103 (L:LT) (n:Nat) (f:Nat->E6) (m:Nat) (g:Nat->E6) (hn:n <= 4611686018427387904) (hm:n = m):∀ (e b:Nat) (j:Nat->V) (q:Nat),n = b+e->e < q->(∀ k,k < b->eqE (f k) (g k) = true) ->
  ((AA (body103 L) (lp103 n f m g) q (st103 n f m g b j)).sem = some (en103f n f m g 0) ∧ (AJ n λk=>eqE (f k) (g k)) = false) ∨ ((AA (body103 L) (lp103 n f m g) q (st103 n f m g b j)).sem = some (en103e n f m g 0) ∧ (AJ n λk=>eqE (f k) (g k)) = true)
 | 0,b,j,q+1,h,_,hb=>by
  have:n = b:=by omega
  subst this
  exact .inr ⟨Ab (AkY L n f m g n j (A9 (Nat.le_refl _))),A4.2 hb⟩
 | e+1,b,j,q+1,h,h2,hb=>by
  have hl:b < n:=by omega
  cases hp:eqE (f b) (g b) with
  | false =>
   refine .inl ⟨?_,?_⟩
   ·rw [Ab (AkX L n f m g b j (ofNat_lt hl) (AE b) (ofNat_lt (by omega)) hp),Er]
    rfl
   ·cases ha:(AJ n λk=>eqE (f k) (g k)) with
    | false=>rfl
    | true =>
     have:=A4.1 ha b hl
     rw [hp] at this
     cases this
  | true =>
   have next:=run103 L n f m g hn hm e (b+1) (λ_=>.und) q (by omega) (by omega) λk hk=>by
    by_cases hki:k = b
    ·rw [hki]; exact hp
    ·exact hb k (by omega)
   rw [Ab (AkW L n f m g b j (ofNat_lt hl) (AE b) (ofNat_lt (by omega)) hp),Aq,An hl hn]
   exact next
theorem p103:A6 Tryz.prog Gl 80 U5:=by
 refine Av AI mixed Tryz.func80 (by kernel_rfl) (by kernel_rfl) λvs v h' h=>?_
 unfold U5 at h
 split at h
 ·rename_i v1 u1
  obtain ⟨n,f,a1,h⟩:=B7 h
  obtain ⟨m,g,a2,h⟩:=B7 h
  obtain ⟨hn,h⟩:=Ad h
  have:=Ac h
  simp only [Prod.mk.injEq] at this
  obtain ⟨rfl,rfl⟩:=this
  have hA:Bm [v1,u1] [NQ Y1 n f,NQ Y1 m g]:=λS w cs hv=>by
   obtain ⟨c,l,rfl,q1,c',l',rfl,q2,q3⟩:=hv
   exact ⟨c,_,rfl,a1 S w c q1,c',l',rfl,a2 S w c' q2,q3⟩
  have hx:=AK Dn [(0,lp103 n f m g)] (G:=Gl)
  have hL:=AF [(0,lp103 n f m g)]
  refine ⟨_,AN Gl tb0 [(0,lp103 n f m g)],_,hA,rfl,hx.1,hx.2,?_,A0.refl _⟩
  cases hl:ieq (ofNat n) (ofNat m) with
  | false =>
   rw [show DT n f m g = false from AcI hl]
   exact Aj8 _ n f m g hl
  | true =>
   rw [show DT n f m g = _ from AcH hl]
   have h0:=λL j=>run103 L n f m g (Kc hn) (G8 hl) n 0 j (n+1) (by omega) (by omega) (λk hk=>absurd hk (Nat.not_lt_zero _))
   cases ha:(AJ n λk=>eqE (f k) (g k)) with
   | false=>exact A1 (Ar hL hL) _ (Aj9 _ _ n f m g 0 hl (Ai ((h0 _ _).elim (λh=>h.1) λh=>by have:=h.2; rw [ha] at this; cases this)))
   | true=>exact A1 (Ar hL hL) _ (AjA _ _ n f m g 0 hl (Ai ((h0 _ _).elim (λh=>by have:=h.2; rw [ha] at this; cases this) λh=>h.1)))
 ·cases h
def lp104 (n:Nat) (_:Nat->Ev5) (_:Nat) (_:Nat->Ev5):Lp:=⟨(bmK 26 0 [0,1,4,12,13]),0,bmK 26 0 [4],0,n+1⟩
def st104 (n:Nat) (f:Nat->Ev5) (m:Nat) (g:Nat->Ev5) (b:Nat) (j:Nat->V):St:=⟨(jsV 26 0 j [(0,.sl 5 n (λi=>evV (f i))),(1,.sl 5 m (λi=>evV (g i))),(4,bV false),(12,nV n),(13,nV b)]),[]⟩
def VD (_:Nat) (_:Nat->Ev5) (_:Nat) (_:Nat->Ev5) (_:Nat):Ex × St:=(.rt,⟨(jsV 26 0 (λ_=>.und) [(4,bV false)]),[]⟩)
def en104e (_:Nat) (_:Nat->Ev5) (_:Nat) (_:Nat->Ev5) (_:Nat):Ex × St:=(.ex 0,⟨(jsV 26 0 (λ_=>.und) [(4,bV false)]),[]⟩)
noncomputable def body104 (L:LT):St->T (Ex × St):=λst=>AD tab ⟨Ak tb0,L,Gl⟩ (As Tryz.f81 0) 0 st
theorem AkV (L:LT) (n:Nat) (f:Nat->Ev5) (m:Nat) (g:Nat->Ev5) (b:Nat)  (j:Nat->V) (h0:ilt (ofNat b) (ofNat n) = false):Ag (body104 L) (lp104 n f m g) (st104 n f m g b j) = some ((.ex 0),⟨(jsV 26 0 (λ_=>.und) [(4,(bV false))]),[]⟩):=by
 exact Aa (ks:=[kn h0]) (by kernel_rfl)
section
variable (L:LT) (n:Nat) (f:Nat->Ev5) (m:Nat) (g:Nat->Ev5) (b:Nat) (j:Nat->V)
include L n f m g b j
theorem AkU (h0:ilt (ofNat b) (ofNat n) = true) (h17:ile 0 (ofNat b) = true) (h1:ilt (ofNat b) (ofNat m) = true) (h2:Al (ieq ((f b)).th ((g b)).th) (Al (ieq ((f b)).pl ((g b)).pl) (Al (ieq ((f b)).dir ((g b)).dir) (Al (ieq ((f b)).loc ((g b)).loc) (Al (ieq ((f b)).val ((g b)).val) true)))) = false):Ag (body104 L) (lp104 n f m g) (st104 n f m g b j) = some (.rt,⟨(jsV 26 0 (λ_=>.und) [(4,(bV false))]),[]⟩):=by
 exact Aa (ks:=[kn h0,kA (kn h17) (kn h0),kA (kn h17) (kn h1),kN (kn h2)]) (by kernel_rfl)
theorem AkT (h0:ilt (ofNat b) (ofNat n) = true) (h17:ile 0 (ofNat b) = true) (h1:ilt (ofNat b) (ofNat m) = true) (h2:Al (ieq ((f b)).th ((g b)).th) (Al (ieq ((f b)).pl ((g b)).pl) (Al (ieq ((f b)).dir ((g b)).dir) (Al (ieq ((f b)).loc ((g b)).loc) (Al (ieq ((f b)).val ((g b)).val) true)))) = true):Ag (body104 L) (lp104 n f m g) (st104 n f m g b j) = some (.nm,⟨(jsV 26 0 (λ_=>.und) [(0,(.sl 5 n (λi=>(evV (f i))))),(1,(.sl 5 m (λi=>(evV (g i))))),(4,(bV false)),(12,(nV n)),(13,(iV (wr .i64 (Af (ofNat b) 1))))]),[]⟩):=by
 exact Aa (ks:=[kn h0,kA (kn h17) (kn h0),kA (kn h17) (kn h1),kN (kn h2)]) (by kernel_rfl)
end
def jk104 (n:Nat) (f:Nat->Ev5) (m:Nat) (g:Nat->Ev5) :Nat->V:=lkV A7 [(6,(.sl 5 n (λi=>evV (f i)))),(7,(nV n)),(8,(.sl 5 m (λi=>evV (g i)))),(9,(nV m)),(10,(bV (AG (ieq (ofNat n) (ofNat m))))),(11,(.sl 5 n (λi=>evV (f i))))]
theorem Aj5 (L:LT) (n:Nat) (f:Nat->Ev5) (m:Nat) (g:Nat->Ev5) (h0:ieq (ofNat n) (ofNat m) = false):(Au (Ah tab ⟨Ak tb0,L,Gl⟩ Tryz.f81 [.sl 5 n (λi=>evV (f i)),.sl 5 m (λi=>evV (g i))] [])).sem = some ((bV false),[]):=by
 exact Aa (ks:=[kN (kn h0)]) (by kernel_rfl)
section
variable (L:LT) (p0:PT) (n:Nat) (f:Nat->Ev5) (m:Nat) (g:Nat->Ev5) (q:Nat)
include L p0 n f m g q
theorem Aj6 (h0:ieq (ofNat n) (ofNat m) = true) (hp0:p0 (body104 (onP 0 p0 (VD n f m g q) L)) (st104 n f m g 0 (jk104 n f m g )) = true):(Au (Ah tab ⟨Ak tb0,(onP 0 p0 (VD n f m g q) L),Gl⟩ Tryz.f81 [.sl 5 n (λi=>evV (f i)),.sl 5 m (λi=>evV (g i))] [])).sem = some ((bV false),[]):=by
 exact Aa (ks:=[kN (kn h0),kn hp0]) (by kernel_rfl)
theorem Aj7 (h0:ieq (ofNat n) (ofNat m) = true) (hp0:p0 (body104 (onP 0 p0 (en104e n f m g q) L)) (st104 n f m g 0 (jk104 n f m g )) = true):(Au (Ah tab ⟨Ak tb0,(onP 0 p0 (en104e n f m g q) L),Gl⟩ Tryz.f81 [.sl 5 n (λi=>evV (f i)),.sl 5 m (λi=>evV (g i))] [])).sem = some ((bV true),[]):=by
 exact Aa (ks:=[kN (kn h0),kn hp0]) (by kernel_rfl)
end
theorem run104 (L:LT) (n:Nat) (f:Nat->Ev5) (m:Nat) (g:Nat->Ev5) (hn:n <= 4611686018427387904) (hm:n = m):∀ (e b:Nat) (j:Nat->V) (q:Nat),n = b+e->e < q->(∀ k,k < b->G2 (f k) (g k) = true) ->
  ((AA (body104 L) (lp104 n f m g) q (st104 n f m g b j)).sem = some (VD n f m g 0) ∧ (AJ n λk=>G2 (f k) (g k)) = false) ∨ ((AA (body104 L) (lp104 n f m g) q (st104 n f m g b j)).sem = some (en104e n f m g 0) ∧ (AJ n λk=>G2 (f k) (g k)) = true)
 | 0,b,j,q+1,h,_,hb=>by
  have:n = b:=by omega
  subst this
  exact .inr ⟨Ab (AkV L n f m g n j (A9 (Nat.le_refl _))),A4.2 hb⟩
 | e+1,b,j,q+1,h,h2,hb=>by
  have hl:b < n:=by omega
  cases hp:G2 (f b) (g b) with
  | false =>
   refine .inl ⟨?_,?_⟩
   ·rw [Ab (AkU L n f m g b j (ofNat_lt hl) (AE b) (ofNat_lt (by omega)) hp),Er]
    rfl
   ·cases ha:(AJ n λk=>G2 (f k) (g k)) with
    | false=>rfl
    | true =>
     have:=A4.1 ha b hl
     rw [hp] at this
     cases this
  | true =>
   have next:=run104 L n f m g hn hm e (b+1) (λ_=>.und) q (by omega) (by omega) λk hk=>by
    by_cases hki:k = b
    ·rw [hki]; exact hp
    ·exact hb k (by omega)
   rw [Ab (AkT L n f m g b j (ofNat_lt hl) (AE b) (ofNat_lt (by omega)) hp),Aq,An hl hn]
   exact next
theorem p104:A6 Tryz.prog Gl 81 U4:=by
 refine Av AI mixed Tryz.func81 (by kernel_rfl) (by kernel_rfl) λvs v h' h=>?_
 unfold U4 at h
 split at h
 ·rename_i v1 u1
  obtain ⟨n,f,a1,h⟩:=B7 h
  obtain ⟨m,g,a2,h⟩:=B7 h
  obtain ⟨hn,h⟩:=Ad h
  have:=Ac h
  simp only [Prod.mk.injEq] at this
  obtain ⟨rfl,rfl⟩:=this
  have hA:Bm [v1,u1] [NQ Y0 n f,NQ Y0 m g]:=λS w cs hv=>by
   obtain ⟨c,l,rfl,q1,c',l',rfl,q2,q3⟩:=hv
   exact ⟨c,_,rfl,a1 S w c q1,c',l',rfl,a2 S w c' q2,q3⟩
  have hx:=AK Dn [(0,lp104 n f m g)] (G:=Gl)
  have hL:=AF [(0,lp104 n f m g)]
  refine ⟨_,AN Gl tb0 [(0,lp104 n f m g)],_,hA,rfl,hx.1,hx.2,?_,A0.refl _⟩
  cases hl:ieq (ofNat n) (ofNat m) with
  | false =>
   rw [show Mk n f m g = false from Gr hl]
   exact Aj5 _ n f m g hl
  | true =>
   rw [show Mk n f m g = _ from B0 hl]
   have h0:=λL j=>run104 L n f m g (Kc hn) (G8 hl) n 0 j (n+1) (by omega) (by omega) (λk hk=>absurd hk (Nat.not_lt_zero _))
   cases ha:(AJ n λk=>G2 (f k) (g k)) with
   | false=>exact A1 (Ar hL hL) _ (Aj6 _ _ n f m g 0 hl (Ai ((h0 _ _).elim (λh=>h.1) λh=>by have:=h.2; rw [ha] at this; cases this)))
   | true=>exact A1 (Ar hL hL) _ (Aj7 _ _ n f m g 0 hl (Ai ((h0 _ _).elim (λh=>by have:=h.2; rw [ha] at this; cases this) λh=>h.1)))
 ·cases h
def Mv (n:Nat) (_:Nat->Int) (_:Nat) (_:Nat->Int):Lp:=⟨(bmK 26 0 [0,1,4,12,13]),0,bmK 26 0 [4],0,n+1⟩
def Nw (n:Nat) (f:Nat->Int) (m:Nat) (g:Nat->Int) (b:Nat) (j:Nat->V):St:=⟨(jsV 26 0 j [(0,.sl 1 n (λi=>iV (f i))),(1,.sl 1 m (λi=>iV (g i))),(4,bV false),(12,nV n),(13,nV b)]),[]⟩
def VB (_:Nat) (_:Nat->Int) (_:Nat) (_:Nat->Int) (_:Nat):Ex × St:=(.rt,⟨(jsV 26 0 (λ_=>.und) [(4,bV false)]),[]⟩)
def VC (_:Nat) (_:Nat->Int) (_:Nat) (_:Nat->Int) (_:Nat):Ex × St:=(.ex 0,⟨(jsV 26 0 (λ_=>.und) [(4,bV false)]),[]⟩)
noncomputable def H4 (L:LT):St->T (Ex × St):=λst=>AD tab ⟨Ak tb0,L,Gl⟩ (As Tryz.f82 0) 0 st
theorem AkS (L:LT) (n:Nat) (f:Nat->Int) (m:Nat) (g:Nat->Int) (b:Nat)  (j:Nat->V) (h0:ilt (ofNat b) (ofNat n) = false):Ag (H4 L) (Mv n f m g) (Nw n f m g b j) = some ((.ex 0),⟨(jsV 26 0 (λ_=>.und) [(4,(bV false))]),[]⟩):=by
 exact Aa (ks:=[kn h0]) (by kernel_rfl)
section
variable (L:LT) (n:Nat) (f:Nat->Int) (m:Nat) (g:Nat->Int) (b:Nat) (j:Nat->V)
include L n f m g b j
theorem AkR (h0:ilt (ofNat b) (ofNat n) = true) (h17:ile 0 (ofNat b) = true) (h1:ilt (ofNat b) (ofNat m) = true) (h2:ieq (f b) (g b) = false):Ag (H4 L) (Mv n f m g) (Nw n f m g b j) = some (.rt,⟨(jsV 26 0 (λ_=>.und) [(4,(bV false))]),[]⟩):=by
 exact Aa (ks:=[kn h0,kA (kn h17) (kn h0),kA (kn h17) (kn h1),kN (kn h2)]) (by kernel_rfl)
theorem AkQ (h0:ilt (ofNat b) (ofNat n) = true) (h17:ile 0 (ofNat b) = true) (h1:ilt (ofNat b) (ofNat m) = true) (h2:ieq (f b) (g b) = true):Ag (H4 L) (Mv n f m g) (Nw n f m g b j) = some (.nm,⟨(jsV 26 0 (λ_=>.und) [(0,(.sl 1 n (λi=>(iV (f i))))),(1,(.sl 1 m (λi=>(iV (g i))))),(4,(bV false)),(12,(nV n)),(13,(iV (wr .i64 (Af (ofNat b) 1))))]),[]⟩):=by
 exact Aa (ks:=[kn h0,kA (kn h17) (kn h0),kA (kn h17) (kn h1),kN (kn h2)]) (by kernel_rfl)
end
def AeQ (n:Nat) (f:Nat->Int) (m:Nat) (g:Nat->Int) :Nat->V:=lkV A7 [(6,(.sl 1 n (λi=>iV (f i)))),(7,(nV n)),(8,(.sl 1 m (λi=>iV (g i)))),(9,(nV m)),(10,(bV (AG (ieq (ofNat n) (ofNat m))))),(11,(.sl 1 n (λi=>iV (f i))))]
theorem Aj2 (L:LT) (n:Nat) (f:Nat->Int) (m:Nat) (g:Nat->Int) (h0:ieq (ofNat n) (ofNat m) = false):(Au (Ah tab ⟨Ak tb0,L,Gl⟩ Tryz.f82 [.sl 1 n (λi=>iV (f i)),.sl 1 m (λi=>iV (g i))] [])).sem = some ((bV false),[]):=by
 exact Aa (ks:=[kN (kn h0)]) (by kernel_rfl)
section
variable (L:LT) (p0:PT) (n:Nat) (f:Nat->Int) (m:Nat) (g:Nat->Int) (q:Nat)
include L p0 n f m g q
theorem Aj3 (h0:ieq (ofNat n) (ofNat m) = true) (hp0:p0 (H4 (onP 0 p0 (VB n f m g q) L)) (Nw n f m g 0 (AeQ n f m g )) = true):(Au (Ah tab ⟨Ak tb0,(onP 0 p0 (VB n f m g q) L),Gl⟩ Tryz.f82 [.sl 1 n (λi=>iV (f i)),.sl 1 m (λi=>iV (g i))] [])).sem = some ((bV false),[]):=by
 exact Aa (ks:=[kN (kn h0),kn hp0]) (by kernel_rfl)
theorem Aj4 (h0:ieq (ofNat n) (ofNat m) = true) (hp0:p0 (H4 (onP 0 p0 (VC n f m g q) L)) (Nw n f m g 0 (AeQ n f m g )) = true):(Au (Ah tab ⟨Ak tb0,(onP 0 p0 (VC n f m g q) L),Gl⟩ Tryz.f82 [.sl 1 n (λi=>iV (f i)),.sl 1 m (λi=>iV (g i))] [])).sem = some ((bV true),[]):=by
 exact Aa (ks:=[kN (kn h0),kn hp0]) (by kernel_rfl)
end
theorem ZI (L:LT) (n:Nat) (f:Nat->Int) (m:Nat) (g:Nat->Int) (hn:n <= 4611686018427387904) (hm:n = m):∀ (e b:Nat) (j:Nat->V) (q:Nat),n = b+e->e < q->(∀ k,k < b->ieq (f k) (g k) = true) ->
  ((AA (H4 L) (Mv n f m g) q (Nw n f m g b j)).sem = some (VB n f m g 0) ∧ (AJ n λk=>ieq (f k) (g k)) = false) ∨ ((AA (H4 L) (Mv n f m g) q (Nw n f m g b j)).sem = some (VC n f m g 0) ∧ (AJ n λk=>ieq (f k) (g k)) = true)
 | 0,b,j,q+1,h,_,hb=>by
  have:n = b:=by omega
  subst this
  exact .inr ⟨Ab (AkS L n f m g n j (A9 (Nat.le_refl _))),A4.2 hb⟩
 | e+1,b,j,q+1,h,h2,hb=>by
  have hl:b < n:=by omega
  cases hp:ieq (f b) (g b) with
  | false =>
   refine .inl ⟨?_,?_⟩
   ·rw [Ab (AkR L n f m g b j (ofNat_lt hl) (AE b) (ofNat_lt (by omega)) hp),Er]
    rfl
   ·cases ha:(AJ n λk=>ieq (f k) (g k)) with
    | false=>rfl
    | true =>
     have:=A4.1 ha b hl
     rw [hp] at this
     cases this
  | true =>
   have next:=ZI L n f m g hn hm e (b+1) (λ_=>.und) q (by omega) (by omega) λk hk=>by
    by_cases hki:k = b
    ·rw [hki]; exact hp
    ·exact hb k (by omega)
   rw [Ab (AkQ L n f m g b j (ofNat_lt hl) (AE b) (ofNat_lt (by omega)) hp),Aq,An hl hn]
   exact next
theorem Ala:A6 Tryz.prog Gl 82 QG:=by
 refine Av AI mixed Tryz.func82 (by kernel_rfl) (by kernel_rfl) λvs v h' h=>?_
 unfold QG at h
 split at h
 ·rename_i v1 u1
  obtain ⟨n,f,a1,h⟩:=B7 h
  obtain ⟨m,g,a2,h⟩:=B7 h
  obtain ⟨hn,h⟩:=Ad h
  have:=Ac h
  simp only [Prod.mk.injEq] at this
  obtain ⟨rfl,rfl⟩:=this
  have hA:Bm [v1,u1] [NQ TD n f,NQ TD m g]:=λS w cs hv=>by
   obtain ⟨c,l,rfl,q1,c',l',rfl,q2,q3⟩:=hv
   exact ⟨c,_,rfl,a1 S w c q1,c',l',rfl,a2 S w c' q2,q3⟩
  have hx:=AK Dn [(0,Mv n f m g)] (G:=Gl)
  have hL:=AF [(0,Mv n f m g)]
  refine ⟨_,AN Gl tb0 [(0,Mv n f m g)],_,hA,rfl,hx.1,hx.2,?_,A0.refl _⟩
  cases hl:ieq (ofNat n) (ofNat m) with
  | false =>
   rw [show D8 n f m g = false from Gr hl]
   exact Aj2 _ n f m g hl
  | true =>
   rw [show D8 n f m g = _ from B0 hl]
   have h0:=λL j=>ZI L n f m g (Kc hn) (G8 hl) n 0 j (n+1) (by omega) (by omega) (λk hk=>absurd hk (Nat.not_lt_zero _))
   cases ha:(AJ n λk=>ieq (f k) (g k)) with
   | false=>exact A1 (Ar hL hL) _ (Aj3 _ _ n f m g 0 hl (Ai ((h0 _ _).elim (λh=>h.1) λh=>by have:=h.2; rw [ha] at this; cases this)))
   | true=>exact A1 (Ar hL hL) _ (Aj4 _ _ n f m g 0 hl (Ai ((h0 _ _).elim (λh=>by have:=h.2; rw [ha] at this; cases this) λh=>h.1)))
 ·cases h
noncomputable def Pj:List (Nat × (List V->T (V × List Blk))):=(82,QG) :: []
theorem Zo:A8 Tryz.prog Gl Pj:=.cons Ala .nil
def Mu (n:Nat) (_:Nat->Nat) (_:Nat->Nat->Int) (_:Nat) (_:Nat->Nat) (_:Nat->Nat->Int):Lp:=⟨(bmK 32 0 [0,1,2,6,15,16,17]),0,bmK 32 0 [6],0,n+1⟩
def Nv (n:Nat) (ln:Nat->Nat) (co:Nat->Nat->Int) (m:Nat) (ln':Nat->Nat) (co':Nat->Nat->Int) (b:Nat) (j:Nat->V):St:=⟨(jsV 32 0 j [(0,.sl 1 n (λu=>.sl 1 (ln u) (λi=>iV (co u i)))),(1,.sl 1 m (λu=>.sl 1 (ln' u) (λi=>iV (co' u i)))),(2,.fn 82 []),(6,bV false),(15,.sl 1 n (λu=>.sl 1 (ln u) (λi=>iV (co u i)))),(16,nV n),(17,nV b)]),[]⟩
def V9 (_:Nat) (_:Nat->Nat) (_:Nat->Nat->Int) (_:Nat) (_:Nat->Nat) (_:Nat->Nat->Int) (_:Nat):Ex × St:=(.rt,⟨(jsV 32 0 (λ_=>.und) [(6,bV false)]),[]⟩)
def VA (_:Nat) (_:Nat->Nat) (_:Nat->Nat->Int) (_:Nat) (_:Nat->Nat) (_:Nat->Nat->Int) (_:Nat):Ex × St:=(.ex 0,⟨(jsV 32 0 (λ_=>.und) [(6,bV false)]),[]⟩)
noncomputable def H3 (L:LT):St->T (Ex × St):=λst=>AD tab ⟨Ak Pj,L,Gl⟩ (As Tryz.f83 0) 0 st
section
variable (L:LT) (n:Nat) (ln:Nat->Nat) (co:Nat->Nat->Int) (m:Nat) (ln':Nat->Nat) (co':Nat->Nat->Int) (b:Nat)  (j:Nat->V)
include L n ln co m ln' co' b j
theorem AkP (h0:ilt (ofNat b) (ofNat n) = false):Ag (H3 L) (Mu n ln co m ln' co') (Nv n ln co m ln' co' b j) = some ((.ex 0),⟨(jsV 32 0 (λ_=>.und) [(6,(bV false))]),[]⟩):=by
 exact Aa (ks:=[kn h0]) (by kernel_rfl)
theorem AkO (h0:ilt (ofNat b) (ofNat n) = true) (h17:ile 0 (ofNat b) = true) (h1:ilt (ofNat b) (ofNat m) = true) (h18:Ao (ln b) = true) (h2:D8 (ln b) (co b) (ln' b) (co' b) = false):Ag (H3 L) (Mu n ln co m ln' co') (Nv n ln co m ln' co' b j) = some (.rt,⟨(jsV 32 0 (λ_=>.und) [(6,(bV false))]),[]⟩):=by
 exact Aa (ks:=[kn h0,kA (kn h17) (kn h0),kA (kn h17) (kn h1),kL (ln b),kL (ln' b),kn h18,kN (kn h2)]) (by kernel_rfl)
theorem AkN (h0:ilt (ofNat b) (ofNat n) = true) (h17:ile 0 (ofNat b) = true) (h1:ilt (ofNat b) (ofNat m) = true) (h18:Ao (ln b) = true) (h2:D8 (ln b) (co b) (ln' b) (co' b) = true):Ag (H3 L) (Mu n ln co m ln' co') (Nv n ln co m ln' co' b j) = some (.nm,⟨(jsV 32 0 (λ_=>.und) [(0,(.sl 1 n (λu=>(.sl 1 (ln u) (λi=>(iV (co u i))))))),(1,(.sl 1 m (λu=>(.sl 1 (ln' u) (λi=>(iV (co' u i))))))),(2,(.fn 82 [])),(6,(bV false)),(15,(.sl 1 n (λu=>(.sl 1 (ln u) (λi=>(iV (co u i))))))),(16,(nV n)),(17,(iV (wr .i64 (Af (ofNat b) 1))))]),[]⟩):=by
 exact Aa (ks:=[kn h0,kA (kn h17) (kn h0),kA (kn h17) (kn h1),kL (ln b),kL (ln' b),kn h18,kN (kn h2)]) (by kernel_rfl)
end
def AeP (n:Nat) (ln:Nat->Nat) (co:Nat->Nat->Int) (m:Nat) (ln':Nat->Nat) (co':Nat->Nat->Int) :Nat->V:=lkV A7 [(10,(.sl 1 n (λu=>.sl 1 (ln u) (λi=>iV (co u i))))),(11,(nV n)),(12,(.sl 1 m (λu=>.sl 1 (ln' u) (λi=>iV (co' u i))))),(13,(nV m)),(14,(bV (AG (ieq (ofNat n) (ofNat m)))))]
theorem Ajz (L:LT) (n:Nat) (ln:Nat->Nat) (co:Nat->Nat->Int) (m:Nat) (ln':Nat->Nat) (co':Nat->Nat->Int) (h0:ieq (ofNat n) (ofNat m) = false):(Au (Ah tab ⟨Ak Pj,L,Gl⟩ Tryz.f83 [.sl 1 n (λu=>.sl 1 (ln u) (λi=>iV (co u i))),.sl 1 m (λu=>.sl 1 (ln' u) (λi=>iV (co' u i))),.fn 82 []] [])).sem = some ((bV false),[]):=by
 exact Aa (ks:=[kN (kn h0)]) (by kernel_rfl)
section
variable (L:LT) (p0:PT) (n:Nat) (ln:Nat->Nat) (co:Nat->Nat->Int) (m:Nat) (ln':Nat->Nat) (co':Nat->Nat->Int) (q:Nat)
include L p0 n ln co m ln' co' q
theorem Aj0 (h0:ieq (ofNat n) (ofNat m) = true) (hp0:p0 (H3 (onP 0 p0 (V9 n ln co m ln' co' q) L)) (Nv n ln co m ln' co' 0 (AeP n ln co m ln' co' )) = true):(Au (Ah tab ⟨Ak Pj,(onP 0 p0 (V9 n ln co m ln' co' q) L),Gl⟩ Tryz.f83 [.sl 1 n (λu=>.sl 1 (ln u) (λi=>iV (co u i))),.sl 1 m (λu=>.sl 1 (ln' u) (λi=>iV (co' u i))),.fn 82 []] [])).sem = some ((bV false),[]):=by
 exact Aa (ks:=[kN (kn h0),kn hp0]) (by kernel_rfl)
theorem Aj1 (h0:ieq (ofNat n) (ofNat m) = true) (hp0:p0 (H3 (onP 0 p0 (VA n ln co m ln' co' q) L)) (Nv n ln co m ln' co' 0 (AeP n ln co m ln' co' )) = true):(Au (Ah tab ⟨Ak Pj,(onP 0 p0 (VA n ln co m ln' co' q) L),Gl⟩ Tryz.f83 [.sl 1 n (λu=>.sl 1 (ln u) (λi=>iV (co u i))),.sl 1 m (λu=>.sl 1 (ln' u) (λi=>iV (co' u i))),.fn 82 []] [])).sem = some ((bV true),[]):=by
 exact Aa (ks:=[kN (kn h0),kn hp0]) (by kernel_rfl)
end
theorem ZH (L:LT) (n:Nat) (ln:Nat->Nat) (co:Nat->Nat->Int) (m:Nat) (ln':Nat->Nat) (co':Nat->Nat->Int) (hn:n <= 4611686018427387904) (hm:n = m) (hs:∀ k,k < n->Ao (ln k) = true):∀ (e b:Nat) (j:Nat->V) (q:Nat),n = b+e->e < q->(∀ k,k < b->D8 (ln k) (co k) (ln' k) (co' k) = true) ->
  ((AA (H3 L) (Mu n ln co m ln' co') q (Nv n ln co m ln' co' b j)).sem = some (V9 n ln co m ln' co' 0) ∧ (AJ n λk=>D8 (ln k) (co k) (ln' k) (co' k)) = false) ∨ ((AA (H3 L) (Mu n ln co m ln' co') q (Nv n ln co m ln' co' b j)).sem = some (VA n ln co m ln' co' 0) ∧ (AJ n λk=>D8 (ln k) (co k) (ln' k) (co' k)) = true)
 | 0,b,j,q+1,h,_,hb=>by
  have:n = b:=by omega
  subst this
  exact .inr ⟨Ab (AkP L n ln co m ln' co' n j (A9 (Nat.le_refl _))),A4.2 hb⟩
 | e+1,b,j,q+1,h,h2,hb=>by
  have hl:b < n:=by omega
  cases hp:D8 (ln b) (co b) (ln' b) (co' b) with
  | false =>
   refine .inl ⟨?_,?_⟩
   ·rw [Ab (AkO L n ln co m ln' co' b j (ofNat_lt hl) (AE b) (ofNat_lt (by omega)) (hs b hl) hp),Er]
    rfl
   ·cases ha:(AJ n λk=>D8 (ln k) (co k) (ln' k) (co' k)) with
    | false=>rfl
    | true =>
     have:=A4.1 ha b hl
     rw [hp] at this
     cases this
  | true =>
   have next:=ZH L n ln co m ln' co' hn hm hs e (b+1) (λ_=>.und) q (by omega) (by omega) λk hk=>by
    by_cases hki:k = b
    ·rw [hki]; exact hp
    ·exact hb k (by omega)
   rw [Ab (AkN L n ln co m ln' co' b j (ofNat_lt hl) (AE b) (ofNat_lt (by omega)) (hs b hl) hp),Aq,An hl hn]
   exact next
theorem AmY:A6 Tryz.prog Gl 83 QF:=by
 refine Av AI mixed Tryz.func83 (by kernel_rfl) (by kernel_rfl) λvs v h' h=>?_
 unfold QF at h
 split at h
 ·rename_i v1 u1
  obtain ⟨n,C,a1,h⟩:=B7 h
  obtain ⟨m,D,a2,h⟩:=B7 h
  obtain ⟨hn,h⟩:=Ad h
  obtain ⟨hs,h⟩:=Ad h
  have hs:=A4.1 hs
  have:=Ac h
  simp only [Prod.mk.injEq] at this
  obtain ⟨rfl,rfl⟩:=this
  have hA:Bm [v1,u1,.fn 82 []] [.sl 1 n (λu=>.sl 1 (C u).1 (λi=>iV ((C u).2 i))),.sl 1 m (λu=>.sl 1 (D u).1 (λi=>iV ((D u).2 i))),.fn 82 []]:=λS w cs hv=>by
   obtain ⟨c,l,rfl,q1,c',l',rfl,q2,q3⟩:=hv
   exact ⟨c,_,rfl,a1 S w c q1,c',l',rfl,a2 S w c' q2,q3⟩
  generalize hln:(λi=>(C i).1) = ln
  generalize hco:(λi=>(C i).2) = co
  generalize hln':(λi=>(D i).1) = ln'
  generalize hco':(λi=>(D i).2) = co'
  have hx:=AK Zo [(0,Mu n ln co m ln' co')] (G:=Gl)
  have hL:=AF [(0,Mu n ln co m ln' co')]
  refine ⟨_,AN Gl Pj [(0,Mu n ln co m ln' co')],_,hA,rfl,hx.1,hx.2,?_,A0.refl _⟩
  have hs:∀ k,k < n->Ao (ln k) = true:=λk hk=>by rw [<- hln]; exact hs k hk
  have e1:∀ u,(C u).1 = ln u:=λu=>by rw [<- hln]
  have e2:∀ u,(C u).2 = co u:=λu=>by rw [<- hco]
  have e3:∀ u,(D u).1 = ln' u:=λu=>by rw [<- hln']
  have e4:∀ u,(D u).2 = co' u:=λu=>by rw [<- hco']
  simp only [e1,e2,e3,e4]
  cases hl:ieq (ofNat n) (ofNat m) with
  | false =>
   rw [show HC n ln co m ln' co' = false from Gr hl]
   exact Ajz _ n ln co m ln' co' hl
  | true =>
   rw [show HC n ln co m ln' co' = _ from B0 hl]
   have h0:=λL j=>ZH L n ln co m ln' co' (Kc hn) (G8 hl) hs n 0 j (n+1) (by omega) (by omega) (λk hk=>absurd hk (Nat.not_lt_zero _))
   cases ha:(AJ n λk=>D8 (ln k) (co k) (ln' k) (co' k)) with
   | false=>exact A1 (Ar hL hL) _ (Aj0 _ _ n ln co m ln' co' 0 hl (Ai ((h0 _ _).elim (λh=>h.1) λh=>by have:=h.2; rw [ha] at this; cases this)))
   | true=>exact A1 (Ar hL hL) _ (Aj1 _ _ n ln co m ln' co' 0 hl (Ai ((h0 _ _).elim (λh=>by have:=h.2; rw [ha] at this; cases this) λh=>h.1)))
 ·cases h
noncomputable def Qu:List (Nat × (List V->T (V × List Blk))):=(80,U5) :: (81,U4) :: (82,QG) :: (83,QF) :: []
theorem Acv:A8 Tryz.prog Gl Qu:=.cons p103 <| .cons p104 <| .cons Ala <| .cons AmY .nil
theorem AcG (a b c d e i j k:Bool):Al a (Al b (Al c (Al d (Al e (Al i (Al j k)))))) = Al a (Al b (Al c (Al d (Al (Al e k) (Al i (Al j true)))))):=by
 cases a <;> cases b <;> cases c <;> cases d <;> cases e <;> cases i <;> cases j <;> cases k <;> rfl
section
variable (L:LT) (a:Int) (n:Nat) (g:Nat->E6) (m:Nat) (x:Nat->Ev5) (t k:Int) (p:Nat) (r:Nat->Int) (q:Nat) (ln:Nat->Nat) (co:Nat->Nat->Int) (a':Int) (n':Nat) (g':Nat->E6) (m':Nat) (x':Nat->Ev5) (t' k':Int) (p':Nat) (r':Nat->Int) (q':Nat) (ln':Nat->Nat) (co':Nat->Nat->Int)
include L a n g m x t k p r q ln co a' n' g' m' x' t' k' p' r' q' ln' co'
theorem Ajy (h0:ieq a a' = false):(Au (Ah tab ⟨Ak Qu,L,Gl⟩ Tryz.f57 [.agg (shL a n g m x t k p r q ln co),.agg (shL a' n' g' m' x' t' k' p' r' q' ln' co')] [])).sem = some ((bV false),[]):=by
 exact Aa (ks:=[kn h0,kn h0,kn h0,kn h0,kn h0,kn h0,kF,kF,kF,kF,kF,kF,kF,kF,kF,kF,kF,kF,kF,kF,kF,kF,kF,kF,kF,kF,kF,kF,kF,kF,kF,kF,kF,kF,kF,kF]) (by kernel_rfl)
theorem Ajx (h0:ieq a a' = true) (h1:ieq t t' = false):(Au (Ah tab ⟨Ak Qu,L,Gl⟩ Tryz.f57 [.agg (shL a n g m x t k p r q ln co),.agg (shL a' n' g' m' x' t' k' p' r' q' ln' co')] [])).sem = some ((bV false),[]):=by
 exact Aa (ks:=[kn h0,kn h0,kn h0,kn h0,kn h0,kn h0,kn h1,kn h1,kn h1,kn h1,kn h1,kn h1,kF,kF,kF,kF,kF,kF,kF,kF,kF,kF,kF,kF,kF,kF,kF,kF,kF,kF,kF,kF,kF,kF,kF,kF]) (by kernel_rfl)
theorem Ajw (h0:ieq a a' = true) (h1:ieq t t' = true) (h2:ieq k k' = false):(Au (Ah tab ⟨Ak Qu,L,Gl⟩ Tryz.f57 [.agg (shL a n g m x t k p r q ln co),.agg (shL a' n' g' m' x' t' k' p' r' q' ln' co')] [])).sem = some ((bV false),[]):=by
 exact Aa (ks:=[kn h0,kn h0,kn h0,kn h0,kn h0,kn h0,kn h1,kn h1,kn h1,kn h1,kn h1,kn h1,kn h2,kn h2,kn h2,kn h2,kn h2,kn h2,kF,kF,kF,kF,kF,kF,kF,kF,kF,kF,kF,kF,kF,kF,kF,kF,kF,kF]) (by kernel_rfl)
theorem Ajv (h0:ieq a a' = true) (h1:ieq t t' = true) (h2:ieq k k' = true) (h18:Ao n = true) (h3:DT n g n' g' = false):(Au (Ah tab ⟨Ak Qu,L,Gl⟩ Tryz.f57 [.agg (shL a n g m x t k p r q ln co),.agg (shL a' n' g' m' x' t' k' p' r' q' ln' co')] [])).sem = some ((bV false),[]):=by
 exact Aa (ks:=[kn h0,kn h0,kn h0,kn h0,kn h0,kn h0,kn h1,kn h1,kn h1,kn h1,kn h1,kn h1,kn h2,kn h2,kn h2,kn h2,kn h2,kL n,kL n',kn h18,kn h2,kn h3,kn h3,kn h3,kn h3,kn h3,kn h3,kF,kF,kF,kF,kF,kF,kF,kF,kF,kF,kF,kF]) (by kernel_rfl)
theorem Aju (h0:ieq a a' = true) (h1:ieq t t' = true) (h2:ieq k k' = true) (h19:Ao n = true) (h3:DT n g n' g' = true) (h20:Ao m = true) (h4:Mk m x m' x' = false):(Au (Ah tab ⟨Ak Qu,L,Gl⟩ Tryz.f57 [.agg (shL a n g m x t k p r q ln co),.agg (shL a' n' g' m' x' t' k' p' r' q' ln' co')] [])).sem = some ((bV false),[]):=by
 exact Aa (ks:=[kn h0,kn h0,kn h0,kn h0,kn h0,kn h0,kn h1,kn h1,kn h1,kn h1,kn h1,kn h1,kn h2,kn h2,kn h2,kn h2,kn h2,kL n,kL n',kn h19,kn h2,kn h3,kn h3,kn h3,kn h3,kn h3,kL m,kL m',kn h20,kn h3,kn h4,kn h4,kn h4,kn h4,kn h4,kn h4,kF,kF,kF,kF,kF,kF]) (by kernel_rfl)
theorem Ajt (h0:ieq a a' = true) (h1:ieq t t' = true) (h2:ieq k k' = true) (h20:Ao n = true) (h3:DT n g n' g' = true) (h21:Ao m = true) (h4:Mk m x m' x' = true) (h22:Ao p = true) (h5:D8 p r p' r' = false):(Au (Ah tab ⟨Ak Qu,L,Gl⟩ Tryz.f57 [.agg (shL a n g m x t k p r q ln co),.agg (shL a' n' g' m' x' t' k' p' r' q' ln' co')] [])).sem = some ((bV false),[]):=by
 exact Aa (ks:=[kn h0,kn h0,kn h0,kn h0,kn h0,kn h0,kn h1,kn h1,kn h1,kn h1,kn h1,kn h1,kn h2,kn h2,kn h2,kn h2,kn h2,kL n,kL n',kn h20,kn h2,kn h3,kn h3,kn h3,kn h3,kn h3,kL m,kL m',kn h21,kn h3,kn h4,kn h4,kn h4,kn h4,kn h4,kL p,kL p',kn h22,kn h4,kn h5,kn h5,kn h5,kn h5,kn h5,kn h5]) (by kernel_rfl)
theorem AlS (h0:ieq a a' = true) (h1:ieq t t' = true) (h2:ieq k k' = true) (h21:Ao n = true) (h3:DT n g n' g' = true) (h22:Ao m = true) (h4:Mk m x m' x' = true) (h23:Ao p = true) (h5:D8 p r p' r' = true) (h24:AJ q (λi=>(AJ (ln i) (λ_=>true))) = true) (h25:AJ q' (λi=>(AJ (ln' i) (λ_=>true))) = true) (h26:Ao q = true) (h27:AJ q (λi=>(Ao (ln i))) = true):(Au (Ah tab ⟨Ak Qu,L,Gl⟩ Tryz.f57 [.agg (shL a n g m x t k p r q ln co),.agg (shL a' n' g' m' x' t' k' p' r' q' ln' co')] [])).sem = some ((bV (HC q ln (λi i_1=>(co i i_1)) q' ln' (λi i_1=>(co' i i_1)))),[]):=by
 exact Aa (ks:=[kn h0,kn h0,kn h0,kn h0,kn h0,kn h0,kn h1,kn h1,kn h1,kn h1,kn h1,kn h1,kn h2,kn h2,kn h2,kn h2,kn h2,kL n,kL n',kn h21,kn h2,kn h3,kn h3,kn h3,kn h3,kn h3,kL m,kL m',kn h22,kn h3,kn h4,kn h4,kn h4,kn h4,kn h4,kL p,kL p',kn h23,kn h4,kn h5,kn h5,kn h5,kn h5,kn h5,kn h24,kn h25,kn h26,kn h27,kn h5]) (by kernel_rfl)
end
theorem p72:A6 Tryz.prog Gl 57 U2:=by
 refine Av AI mixed Tryz.func57 (by kernel_rfl) (by kernel_rfl) λvs v h' h=>?_
 unfold U2 at h
 split at h
 ·rename_i v1 u1
  obtain ⟨s,a1,h⟩:=apS_some h
  obtain ⟨s',a2,h⟩:=apS_some h
  obtain ⟨hn,h⟩:=Ad h
  have:=Ac h
  simp only [Prod.mk.injEq] at this
  obtain ⟨rfl,rfl⟩:=this
  obtain ⟨a,n,g,m,x,t,k,p,r,q,C⟩:=s
  obtain ⟨a',n',g',m',x',t',k',p',r',q',D⟩:=s'
  have hA:Bm [v1,u1] [.agg [iV a,.sl 6 n (λi=>eV (g i)),.sl 5 m (λi=>evV (x i)),iV t,iV k,.sl 1 p (λi=>iV (r i)),.sl 1 q (λu=>.sl 1 (C u).1 (λi=>iV ((C u).2 i)))],
    .agg [iV a',.sl 6 n' (λi=>eV (g' i)),.sl 5 m' (λi=>evV (x' i)),iV t',iV k',.sl 1 p' (λi=>iV (r' i)),.sl 1 q' (λu=>.sl 1 (D u).1 (λi=>iV ((D u).2 i)))]]:=λS w cs hv=>by
   obtain ⟨c,l,rfl,q1,c',l',rfl,q2,q3⟩:=hv
   exact ⟨c,_,rfl,a1 S w c q1,c',l',rfl,a2 S w c' q2,q3⟩
  have hn:Ao n = true ∧ Ao m = true ∧ Ao p = true ∧ Ao q = true ∧ (AJ q λi=>Ao (C i).1) = true:=by simpa [Cm,Al] using hn
  obtain ⟨n1,n2,n3,n4,n5⟩:=hn
  unfold N2
  dsimp only
  generalize hln:(λi=>(C i).1) = ln
  generalize hco:(λi=>(C i).2) = co
  generalize hln':(λi=>(D i).1) = ln'
  generalize hco':(λi=>(D i).2) = co'
  have hx:=AK Acv [] (G:=Gl)
  refine ⟨_,AN Gl Qu [],_,hA,rfl,hx.1,hx.2,?_,A0.refl _⟩
  have e1:∀ u,(C u).1 = ln u:=λu=>by rw [<- hln]
  have e2:∀ u,(C u).2 = co u:=λu=>by rw [<- hco]
  have e3:∀ u,(D u).1 = ln' u:=λu=>by rw [<- hln']
  have e4:∀ u,(D u).2 = co' u:=λu=>by rw [<- hco']
  simp only [e1,e2,e3,e4] at n5 ⊢
  have Fh:∀ (q:Nat) (ln:Nat->Nat),(AJ q λi=>AJ (ln i) λ_=>true) = true:=λ_ _=>A4.2 λ_ _=>A4.2 λ_ _=>rfl
  rw [AcG,show (Al (ieq (ofNat m) (ofNat m')) (AJ m λk=>G2 (x k) (x' k))) = Mk m x m' x' from rfl]
  cases c0:ieq a a' with
  | false=>rw [Gr rfl]; exact Ajy _ a n g m x t k p r q ln co a' n' g' m' x' t' k' p' r' q' ln' co' c0
  | true =>
  rw [B0 rfl]
  cases c1:ieq t t' with
  | false=>rw [Gr rfl]; exact Ajx _ a n g m x t k p r q ln co a' n' g' m' x' t' k' p' r' q' ln' co' c0 c1
  | true =>
  rw [B0 rfl]
  cases c2:ieq k k' with
  | false=>rw [Gr rfl]; exact Ajw _ a n g m x t k p r q ln co a' n' g' m' x' t' k' p' r' q' ln' co' c0 c1 c2
  | true =>
  rw [B0 rfl]
  cases c3:DT n g n' g' with
  | false=>rw [Gr rfl]; exact Ajv _ a n g m x t k p r q ln co a' n' g' m' x' t' k' p' r' q' ln' co' c0 c1 c2 n1 c3
  | true =>
  rw [B0 rfl]
  cases c4:Mk m x m' x' with
  | false=>rw [Gr rfl]; exact Aju _ a n g m x t k p r q ln co a' n' g' m' x' t' k' p' r' q' ln' co' c0 c1 c2 n1 c3 n2 c4
  | true =>
  rw [B0 rfl]
  cases c5:D8 p r p' r' with
  | false=>rw [Gr rfl]; exact Ajt _ a n g m x t k p r q ln co a' n' g' m' x' t' k' p' r' q' ln' co' c0 c1 c2 n1 c3 n2 c4 n3 c5
  | true =>
  rw [B0 rfl]
  rw [show Al (HC q ln co q' ln' co') true = HC q ln co q' ln' co' by cases HC q ln co q' ln' co' <;> rfl]
  exact AlS _ a n g m x t k p r q ln co a' n' g' m' x' t' k' p' r' q' ln' co' c0 c1 c2 n1 c3 n2 c4 n3 c5 (Fh _ _) (Fh _ _) n4 n5
 ·cases h
end Go.Proofs.YthlojajaenfidaaGreatDoor.Sh
