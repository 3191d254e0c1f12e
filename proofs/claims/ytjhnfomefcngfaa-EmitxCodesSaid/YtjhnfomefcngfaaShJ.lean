/-
  Layer 7: whether shapes are the same, the program's (by slices.Equal). No conditions.
-/
import Derived.Test.YtjhnfomefcngfaaShZs
namespace Go.Proofs.Ytjhnfomefcngfaa.Sh
open Go.Sy Ed
open Int (ofNat)
set_option maxHeartbeats 1000000
set_option maxRecDepth 4000
theorem Acp {n:Nat} {f:Nat->E6} {m:Nat} {g:Nat->E6} (h:ieq (ofNat n) (ofNat m) = false):BG n f m g = false:=by
 unfold BG
 rw [h]
 rfl
theorem Aa4 {a b:E6}:eqE a b = true ↔ a = b:=by
 have h:=@Ka 1 (λ_=>a) 1 (λ_=>b)
 have e:BG 1 (λ_=>a) 1 (λ_=>b) = eqE a b:=by
  show sel (eqE a b) true false = _
  cases eqE a b <;> rfl
 rw [e] at h
 exact ⟨λhh=>(h.1 hh).2 0 (by omega),λhh=>h.2 ⟨rfl,λ_ _=>hh⟩⟩
theorem Aco {n:Nat} {f:Nat->E6} {m:Nat} {g:Nat->E6} (h:ieq (ofNat n) (ofNat m) = true):BG n f m g = A5 n λk=>eqE (f k) (g k):=by
 rw [Bool.eq_iff_iff,Ka,A3]
 exact ⟨λhh k hk=>Aa4.2 (hh.2 k hk),λhh=>⟨DJ h,λk hk=>Aa4.1 (hh k hk)⟩⟩
def Mj (n:Nat) (f:Nat->Ev5) (m:Nat) (g:Nat->Ev5):Bool:=Ak (ieq (ofNat n) (ofNat m)) (A5 n λk=>CR (f k) (g k))
def Ux:List V->T (V × List Blk)
 | [v,u]=>apG R3 v λn f=>apG R3 u λm g=>.br (Ag n) (.leaf (bV (BG n f m g),[])) .fail
 | _=>.fail
def Uw:List V->T (V × List Blk)
 | [v,u]=>apG R0 v λn f=>apG R0 u λm g=>.br (Ag n) (.leaf (bV (Mj n f m g),[])) .fail
 | _=>.fail
def Q8:List V->T (V × List Blk)
 | [v,u,.fn 105 []]=>apG R1 v λn C=>apG R1 u λm D=>.br (Ag n) (.br (A5 n λi=>Ag (C i).1) (.leaf (bV (CA n (λi=>(C i).1) (λi=>(C i).2) m (λi=>(D i).1) (λi=>(D i).2)),[])) .fail) .fail
 | _=>.fail
def lp103 (n:Nat) (_:Nat->E6) (_:Nat) (_:Nat->E6):Lp:=⟨(bmK 26 0 [0,1,4,12,13]),0,bmK 26 0 [4],0,n+1⟩
def st103 (n:Nat) (f:Nat->E6) (m:Nat) (g:Nat->E6) (b:Nat) (j:Nat->V):St:=⟨(jsV 26 0 j [(0,.sl 6 n (λi=>eV (f i))),(1,.sl 6 m (λi=>eV (g i))),(4,bV false),(12,nV n),(13,nV b)]),[]⟩
def en103f (_:Nat) (_:Nat->E6) (_:Nat) (_:Nat->E6) (_:Nat):Ex × St:=(.rt,⟨(jsV 26 0 (λ_=>.und) [(4,bV false)]),[]⟩)
def en103e (_:Nat) (_:Nat->E6) (_:Nat) (_:Nat->E6) (_:Nat):Ex × St:=(.ex 0,⟨(jsV 26 0 (λ_=>.und) [(4,bV false)]),[]⟩)
noncomputable def body103 (L:LT):St->T (Ex × St):=λst=>AC tab ⟨Am tb0,L,Gl⟩ (Au Try.f103 0) 0 st
theorem Alh (L:LT) (n:Nat) (f:Nat->E6) (m:Nat) (g:Nat->E6) (b:Nat)  (j:Nat->V) (h0:ilt (ofNat b) (ofNat n) = false):Ah (body103 L) (lp103 n f m g) (st103 n f m g b j) = some ((.ex 0),⟨(jsV 26 0 (λ_=>.und) [(4,(bV false))]),[]⟩):=by
 exact Aa (ks:=[kn h0]) (by kernel_rfl)
section
variable (L:LT) (n:Nat) (f:Nat->E6) (m:Nat) (g:Nat->E6) (b:Nat) (j:Nat->V)
include L n f m g b j
theorem Alg (h0:ilt (ofNat b) (ofNat n) = true) (h17:ile 0 (ofNat b) = true) (h1:ilt (ofNat b) (ofNat m) = true) (h2:eqE (f b) (g b) = false):Ah (body103 L) (lp103 n f m g) (st103 n f m g b j) = some (.rt,⟨(jsV 26 0 (λ_=>.und) [(4,(bV false))]),[]⟩):=by
 exact Aa (ks:=[kn h0,kA (kn h17) (kn h0),kA (kn h17) (kn h1),kN (kn h2)]) (by kernel_rfl)
theorem Alf (h0:ilt (ofNat b) (ofNat n) = true) (h17:ile 0 (ofNat b) = true) (h1:ilt (ofNat b) (ofNat m) = true) (h2:eqE (f b) (g b) = true):Ah (body103 L) (lp103 n f m g) (st103 n f m g b j) = some (.nm,⟨(jsV 26 0 (λ_=>.und) [(0,(.sl 6 n (λi=>(eV (f i))))),(1,(.sl 6 m (λi=>(eV (g i))))),(4,(bV false)),(12,(nV n)),(13,(iV (wr .i64 (Af (ofNat b) 1))))]),[]⟩):=by
 exact Aa (ks:=[kn h0,kA (kn h17) (kn h0),kA (kn h17) (kn h1),kN (kn h2)]) (by kernel_rfl)
end
def jk103 (n:Nat) (f:Nat->E6) (m:Nat) (g:Nat->E6) :Nat->V:=lkV A9 [(6,(.sl 6 n (λi=>eV (f i)))),(7,(nV n)),(8,(.sl 6 m (λi=>eV (g i)))),(9,(nV m)),(10,(bV (AG (ieq (ofNat n) (ofNat m))))),(11,(.sl 6 n (λi=>eV (f i))))]
theorem Aj2 (L:LT) (n:Nat) (f:Nat->E6) (m:Nat) (g:Nat->E6) (h0:ieq (ofNat n) (ofNat m) = false):(Ar (Ai tab ⟨Am tb0,L,Gl⟩ Try.f103 [.sl 6 n (λi=>eV (f i)),.sl 6 m (λi=>eV (g i))] [])).sem = some ((bV false),[]):=by
 exact Aa (ks:=[kN (kn h0)]) (by kernel_rfl)
section
variable (L:LT) (p0:PT) (n:Nat) (f:Nat->E6) (m:Nat) (g:Nat->E6) (q:Nat)
include L p0 n f m g q
theorem Aj3 (h0:ieq (ofNat n) (ofNat m) = true) (hp0:p0 (body103 (onP 0 p0 (en103f n f m g q) L)) (st103 n f m g 0 (jk103 n f m g )) = true):(Ar (Ai tab ⟨Am tb0,(onP 0 p0 (en103f n f m g q) L),Gl⟩ Try.f103 [.sl 6 n (λi=>eV (f i)),.sl 6 m (λi=>eV (g i))] [])).sem = some ((bV false),[]):=by
 exact Aa (ks:=[kN (kn h0),kn hp0]) (by kernel_rfl)
theorem Aj4 (h0:ieq (ofNat n) (ofNat m) = true) (hp0:p0 (body103 (onP 0 p0 (en103e n f m g q) L)) (st103 n f m g 0 (jk103 n f m g )) = true):(Ar (Ai tab ⟨Am tb0,(onP 0 p0 (en103e n f m g q) L),Gl⟩ Try.f103 [.sl 6 n (λi=>eV (f i)),.sl 6 m (λi=>eV (g i))] [])).sem = some ((bV true),[]):=by
 exact Aa (ks:=[kN (kn h0),kn hp0]) (by kernel_rfl)
end
theorem run103 (L:LT) (n:Nat) (f:Nat->E6) (m:Nat) (g:Nat->E6) (hn:n <= 4611686018427387904) (hm:n = m):∀ (e b:Nat) (j:Nat->V) (q:Nat),n = b+e->e < q->(∀ k,k < b->eqE (f k) (g k) = true) ->
  ((A4 (body103 L) (lp103 n f m g) q (st103 n f m g b j)).sem = some (en103f n f m g 0) ∧ (A5 n λk=>eqE (f k) (g k)) = false) ∨ ((A4 (body103 L) (lp103 n f m g) q (st103 n f m g b j)).sem = some (en103e n f m g 0) ∧ (A5 n λk=>eqE (f k) (g k)) = true)
 | 0,b,j,q+1,h,_,hb=>by
  have:n = b:=by omega
  subst this
  exact .inr ⟨Ab (Alh L n f m g n j (A6 (Nat.le_refl _))),A3.2 hb⟩
 | e+1,b,j,q+1,h,h2,hb=>by
  have hl:b < n:=by omega
  cases hp:eqE (f b) (g b) with
  | false =>
   refine .inl ⟨?_,?_⟩
   ·rw [Ab (Alg L n f m g b j (ofNat_lt hl) (AF b) (ofNat_lt (by omega)) hp),Dw]
    rfl
   ·cases ha:(A5 n λk=>eqE (f k) (g k)) with
    | false=>rfl
    | true =>
     have:=A3.1 ha b hl
     rw [hp] at this
     cases this
  | true =>
   have next:=run103 L n f m g hn hm e (b+1) (λ_=>.und) q (by omega) (by omega) λk hk=>by
    by_cases hki:k = b
    ·rw [hki]; exact hp
    ·exact hb k (by omega)
   rw [Ab (Alf L n f m g b j (ofNat_lt hl) (AF b) (ofNat_lt (by omega)) hp),Aq,Ao hl hn]
   exact next
theorem p103:A7 Try.prog Gl 103 Ux:=by
 refine Av AL AN Try.func103 (by kernel_rfl) (by kernel_rfl) λvs v h' h=>?_
 unfold Ux at h
 split at h
 ·rename_i v1 u1
  obtain ⟨n,f,a1,h⟩:=BJ h
  obtain ⟨m,g,a2,h⟩:=BJ h
  obtain ⟨hn,h⟩:=Ad h
  have:=Ac h
  simp only [Prod.mk.injEq] at this
  obtain ⟨rfl,rfl⟩:=this
  have hA:Bp [v1,u1] [HT R3 n f,HT R3 m g]:=λS w cs hv=>by
   obtain ⟨c,l,rfl,q1,c',l',rfl,q2,q3⟩:=hv
   exact ⟨c,_,rfl,a1 S w c q1,c',l',rfl,a2 S w c' q2,q3⟩
  have hx:=AO C9 [(0,lp103 n f m g)] (G:=Gl)
  have hL:=AE [(0,lp103 n f m g)]
  refine ⟨_,AI Gl tb0 [(0,lp103 n f m g)],_,hA,rfl,hx.1,hx.2,?_,A8.refl _⟩
  cases hl:ieq (ofNat n) (ofNat m) with
  | false =>
   rw [show BG n f m g = false from Acp hl]
   exact Aj2 _ n f m g hl
  | true =>
   rw [show BG n f m g = _ from Aco hl]
   have h0:=λL j=>run103 L n f m g (Fx hn) (DJ hl) n 0 j (n+1) (by omega) (by omega) (λk hk=>absurd hk (Nat.not_lt_zero _))
   cases ha:(A5 n λk=>eqE (f k) (g k)) with
   | false=>exact A2 (As hL hL) _ (Aj3 _ _ n f m g 0 hl (Aj ((h0 _ _).elim (λh=>h.1) λh=>by have:=h.2; rw [ha] at this; cases this)))
   | true=>exact A2 (As hL hL) _ (Aj4 _ _ n f m g 0 hl (Aj ((h0 _ _).elim (λh=>by have:=h.2; rw [ha] at this; cases this) λh=>h.1)))
 ·cases h
def lp104 (n:Nat) (_:Nat->Ev5) (_:Nat) (_:Nat->Ev5):Lp:=⟨(bmK 26 0 [0,1,4,12,13]),0,bmK 26 0 [4],0,n+1⟩
def st104 (n:Nat) (f:Nat->Ev5) (m:Nat) (g:Nat->Ev5) (b:Nat) (j:Nat->V):St:=⟨(jsV 26 0 j [(0,.sl 5 n (λi=>evV (f i))),(1,.sl 5 m (λi=>evV (g i))),(4,bV false),(12,nV n),(13,nV b)]),[]⟩
def Vw (_:Nat) (_:Nat->Ev5) (_:Nat) (_:Nat->Ev5) (_:Nat):Ex × St:=(.rt,⟨(jsV 26 0 (λ_=>.und) [(4,bV false)]),[]⟩)
def en104e (_:Nat) (_:Nat->Ev5) (_:Nat) (_:Nat->Ev5) (_:Nat):Ex × St:=(.ex 0,⟨(jsV 26 0 (λ_=>.und) [(4,bV false)]),[]⟩)
noncomputable def body104 (L:LT):St->T (Ex × St):=λst=>AC tab ⟨Am tb0,L,Gl⟩ (Au Try.f104 0) 0 st
theorem Ale (L:LT) (n:Nat) (f:Nat->Ev5) (m:Nat) (g:Nat->Ev5) (b:Nat)  (j:Nat->V) (h0:ilt (ofNat b) (ofNat n) = false):Ah (body104 L) (lp104 n f m g) (st104 n f m g b j) = some ((.ex 0),⟨(jsV 26 0 (λ_=>.und) [(4,(bV false))]),[]⟩):=by
 exact Aa (ks:=[kn h0]) (by kernel_rfl)
section
variable (L:LT) (n:Nat) (f:Nat->Ev5) (m:Nat) (g:Nat->Ev5) (b:Nat) (j:Nat->V)
include L n f m g b j
theorem Ald (h0:ilt (ofNat b) (ofNat n) = true) (h17:ile 0 (ofNat b) = true) (h1:ilt (ofNat b) (ofNat m) = true) (h2:Ak (ieq ((f b)).th ((g b)).th) (Ak (ieq ((f b)).pl ((g b)).pl) (Ak (ieq ((f b)).dir ((g b)).dir) (Ak (ieq ((f b)).loc ((g b)).loc) (Ak (ieq ((f b)).val ((g b)).val) true)))) = false):Ah (body104 L) (lp104 n f m g) (st104 n f m g b j) = some (.rt,⟨(jsV 26 0 (λ_=>.und) [(4,(bV false))]),[]⟩):=by
 exact Aa (ks:=[kn h0,kA (kn h17) (kn h0),kA (kn h17) (kn h1),kN (kn h2)]) (by kernel_rfl)
theorem Alc (h0:ilt (ofNat b) (ofNat n) = true) (h17:ile 0 (ofNat b) = true) (h1:ilt (ofNat b) (ofNat m) = true) (h2:Ak (ieq ((f b)).th ((g b)).th) (Ak (ieq ((f b)).pl ((g b)).pl) (Ak (ieq ((f b)).dir ((g b)).dir) (Ak (ieq ((f b)).loc ((g b)).loc) (Ak (ieq ((f b)).val ((g b)).val) true)))) = true):Ah (body104 L) (lp104 n f m g) (st104 n f m g b j) = some (.nm,⟨(jsV 26 0 (λ_=>.und) [(0,(.sl 5 n (λi=>(evV (f i))))),(1,(.sl 5 m (λi=>(evV (g i))))),(4,(bV false)),(12,(nV n)),(13,(iV (wr .i64 (Af (ofNat b) 1))))]),[]⟩):=by
 exact Aa (ks:=[kn h0,kA (kn h17) (kn h0),kA (kn h17) (kn h1),kN (kn h2)]) (by kernel_rfl)
end
def jk104 (n:Nat) (f:Nat->Ev5) (m:Nat) (g:Nat->Ev5) :Nat->V:=lkV A9 [(6,(.sl 5 n (λi=>evV (f i)))),(7,(nV n)),(8,(.sl 5 m (λi=>evV (g i)))),(9,(nV m)),(10,(bV (AG (ieq (ofNat n) (ofNat m))))),(11,(.sl 5 n (λi=>evV (f i))))]
theorem Ajz (L:LT) (n:Nat) (f:Nat->Ev5) (m:Nat) (g:Nat->Ev5) (h0:ieq (ofNat n) (ofNat m) = false):(Ar (Ai tab ⟨Am tb0,L,Gl⟩ Try.f104 [.sl 5 n (λi=>evV (f i)),.sl 5 m (λi=>evV (g i))] [])).sem = some ((bV false),[]):=by
 exact Aa (ks:=[kN (kn h0)]) (by kernel_rfl)
section
variable (L:LT) (p0:PT) (n:Nat) (f:Nat->Ev5) (m:Nat) (g:Nat->Ev5) (q:Nat)
include L p0 n f m g q
theorem Aj0 (h0:ieq (ofNat n) (ofNat m) = true) (hp0:p0 (body104 (onP 0 p0 (Vw n f m g q) L)) (st104 n f m g 0 (jk104 n f m g )) = true):(Ar (Ai tab ⟨Am tb0,(onP 0 p0 (Vw n f m g q) L),Gl⟩ Try.f104 [.sl 5 n (λi=>evV (f i)),.sl 5 m (λi=>evV (g i))] [])).sem = some ((bV false),[]):=by
 exact Aa (ks:=[kN (kn h0),kn hp0]) (by kernel_rfl)
theorem Aj1 (h0:ieq (ofNat n) (ofNat m) = true) (hp0:p0 (body104 (onP 0 p0 (en104e n f m g q) L)) (st104 n f m g 0 (jk104 n f m g )) = true):(Ar (Ai tab ⟨Am tb0,(onP 0 p0 (en104e n f m g q) L),Gl⟩ Try.f104 [.sl 5 n (λi=>evV (f i)),.sl 5 m (λi=>evV (g i))] [])).sem = some ((bV true),[]):=by
 exact Aa (ks:=[kN (kn h0),kn hp0]) (by kernel_rfl)
end
theorem run104 (L:LT) (n:Nat) (f:Nat->Ev5) (m:Nat) (g:Nat->Ev5) (hn:n <= 4611686018427387904) (hm:n = m):∀ (e b:Nat) (j:Nat->V) (q:Nat),n = b+e->e < q->(∀ k,k < b->CR (f k) (g k) = true) ->
  ((A4 (body104 L) (lp104 n f m g) q (st104 n f m g b j)).sem = some (Vw n f m g 0) ∧ (A5 n λk=>CR (f k) (g k)) = false) ∨ ((A4 (body104 L) (lp104 n f m g) q (st104 n f m g b j)).sem = some (en104e n f m g 0) ∧ (A5 n λk=>CR (f k) (g k)) = true)
 | 0,b,j,q+1,h,_,hb=>by
  have:n = b:=by omega
  subst this
  exact .inr ⟨Ab (Ale L n f m g n j (A6 (Nat.le_refl _))),A3.2 hb⟩
 | e+1,b,j,q+1,h,h2,hb=>by
  have hl:b < n:=by omega
  cases hp:CR (f b) (g b) with
  | false =>
   refine .inl ⟨?_,?_⟩
   ·rw [Ab (Ald L n f m g b j (ofNat_lt hl) (AF b) (ofNat_lt (by omega)) hp),Dw]
    rfl
   ·cases ha:(A5 n λk=>CR (f k) (g k)) with
    | false=>rfl
    | true =>
     have:=A3.1 ha b hl
     rw [hp] at this
     cases this
  | true =>
   have next:=run104 L n f m g hn hm e (b+1) (λ_=>.und) q (by omega) (by omega) λk hk=>by
    by_cases hki:k = b
    ·rw [hki]; exact hp
    ·exact hb k (by omega)
   rw [Ab (Alc L n f m g b j (ofNat_lt hl) (AF b) (ofNat_lt (by omega)) hp),Aq,Ao hl hn]
   exact next
theorem p104:A7 Try.prog Gl 104 Uw:=by
 refine Av AL AN Try.func104 (by kernel_rfl) (by kernel_rfl) λvs v h' h=>?_
 unfold Uw at h
 split at h
 ·rename_i v1 u1
  obtain ⟨n,f,a1,h⟩:=BJ h
  obtain ⟨m,g,a2,h⟩:=BJ h
  obtain ⟨hn,h⟩:=Ad h
  have:=Ac h
  simp only [Prod.mk.injEq] at this
  obtain ⟨rfl,rfl⟩:=this
  have hA:Bp [v1,u1] [HT R0 n f,HT R0 m g]:=λS w cs hv=>by
   obtain ⟨c,l,rfl,q1,c',l',rfl,q2,q3⟩:=hv
   exact ⟨c,_,rfl,a1 S w c q1,c',l',rfl,a2 S w c' q2,q3⟩
  have hx:=AO C9 [(0,lp104 n f m g)] (G:=Gl)
  have hL:=AE [(0,lp104 n f m g)]
  refine ⟨_,AI Gl tb0 [(0,lp104 n f m g)],_,hA,rfl,hx.1,hx.2,?_,A8.refl _⟩
  cases hl:ieq (ofNat n) (ofNat m) with
  | false =>
   rw [show Mj n f m g = false from C1 hl]
   exact Ajz _ n f m g hl
  | true =>
   rw [show Mj n f m g = _ from Bg hl]
   have h0:=λL j=>run104 L n f m g (Fx hn) (DJ hl) n 0 j (n+1) (by omega) (by omega) (λk hk=>absurd hk (Nat.not_lt_zero _))
   cases ha:(A5 n λk=>CR (f k) (g k)) with
   | false=>exact A2 (As hL hL) _ (Aj0 _ _ n f m g 0 hl (Aj ((h0 _ _).elim (λh=>h.1) λh=>by have:=h.2; rw [ha] at this; cases this)))
   | true=>exact A2 (As hL hL) _ (Aj1 _ _ n f m g 0 hl (Aj ((h0 _ _).elim (λh=>by have:=h.2; rw [ha] at this; cases this) λh=>h.1)))
 ·cases h
def Mt (n:Nat) (_:Nat->Int) (_:Nat) (_:Nat->Int):Lp:=⟨(bmK 26 0 [0,1,4,12,13]),0,bmK 26 0 [4],0,n+1⟩
def N1 (n:Nat) (f:Nat->Int) (m:Nat) (g:Nat->Int) (b:Nat) (j:Nat->V):St:=⟨(jsV 26 0 j [(0,.sl 1 n (λi=>iV (f i))),(1,.sl 1 m (λi=>iV (g i))),(4,bV false),(12,nV n),(13,nV b)]),[]⟩
def Vu (_:Nat) (_:Nat->Int) (_:Nat) (_:Nat->Int) (_:Nat):Ex × St:=(.rt,⟨(jsV 26 0 (λ_=>.und) [(4,bV false)]),[]⟩)
def Vv (_:Nat) (_:Nat->Int) (_:Nat) (_:Nat->Int) (_:Nat):Ex × St:=(.ex 0,⟨(jsV 26 0 (λ_=>.und) [(4,bV false)]),[]⟩)
noncomputable def H4 (L:LT):St->T (Ex × St):=λst=>AC tab ⟨Am tb0,L,Gl⟩ (Au Try.f105 0) 0 st
theorem Alb (L:LT) (n:Nat) (f:Nat->Int) (m:Nat) (g:Nat->Int) (b:Nat)  (j:Nat->V) (h0:ilt (ofNat b) (ofNat n) = false):Ah (H4 L) (Mt n f m g) (N1 n f m g b j) = some ((.ex 0),⟨(jsV 26 0 (λ_=>.und) [(4,(bV false))]),[]⟩):=by
 exact Aa (ks:=[kn h0]) (by kernel_rfl)
section
variable (L:LT) (n:Nat) (f:Nat->Int) (m:Nat) (g:Nat->Int) (b:Nat) (j:Nat->V)
include L n f m g b j
theorem Ala (h0:ilt (ofNat b) (ofNat n) = true) (h17:ile 0 (ofNat b) = true) (h1:ilt (ofNat b) (ofNat m) = true) (h2:ieq (f b) (g b) = false):Ah (H4 L) (Mt n f m g) (N1 n f m g b j) = some (.rt,⟨(jsV 26 0 (λ_=>.und) [(4,(bV false))]),[]⟩):=by
 exact Aa (ks:=[kn h0,kA (kn h17) (kn h0),kA (kn h17) (kn h1),kN (kn h2)]) (by kernel_rfl)
theorem AkZ (h0:ilt (ofNat b) (ofNat n) = true) (h17:ile 0 (ofNat b) = true) (h1:ilt (ofNat b) (ofNat m) = true) (h2:ieq (f b) (g b) = true):Ah (H4 L) (Mt n f m g) (N1 n f m g b j) = some (.nm,⟨(jsV 26 0 (λ_=>.und) [(0,(.sl 1 n (λi=>(iV (f i))))),(1,(.sl 1 m (λi=>(iV (g i))))),(4,(bV false)),(12,(nV n)),(13,(iV (wr .i64 (Af (ofNat b) 1))))]),[]⟩):=by
 exact Aa (ks:=[kn h0,kA (kn h17) (kn h0),kA (kn h17) (kn h1),kN (kn h2)]) (by kernel_rfl)
end
def Ae7 (n:Nat) (f:Nat->Int) (m:Nat) (g:Nat->Int) :Nat->V:=lkV A9 [(6,(.sl 1 n (λi=>iV (f i)))),(7,(nV n)),(8,(.sl 1 m (λi=>iV (g i)))),(9,(nV m)),(10,(bV (AG (ieq (ofNat n) (ofNat m))))),(11,(.sl 1 n (λi=>iV (f i))))]
theorem Ajw (L:LT) (n:Nat) (f:Nat->Int) (m:Nat) (g:Nat->Int) (h0:ieq (ofNat n) (ofNat m) = false):(Ar (Ai tab ⟨Am tb0,L,Gl⟩ Try.f105 [.sl 1 n (λi=>iV (f i)),.sl 1 m (λi=>iV (g i))] [])).sem = some ((bV false),[]):=by
 exact Aa (ks:=[kN (kn h0)]) (by kernel_rfl)
section
variable (L:LT) (p0:PT) (n:Nat) (f:Nat->Int) (m:Nat) (g:Nat->Int) (q:Nat)
include L p0 n f m g q
theorem Ajx (h0:ieq (ofNat n) (ofNat m) = true) (hp0:p0 (H4 (onP 0 p0 (Vu n f m g q) L)) (N1 n f m g 0 (Ae7 n f m g )) = true):(Ar (Ai tab ⟨Am tb0,(onP 0 p0 (Vu n f m g q) L),Gl⟩ Try.f105 [.sl 1 n (λi=>iV (f i)),.sl 1 m (λi=>iV (g i))] [])).sem = some ((bV false),[]):=by
 exact Aa (ks:=[kN (kn h0),kn hp0]) (by kernel_rfl)
theorem Ajy (h0:ieq (ofNat n) (ofNat m) = true) (hp0:p0 (H4 (onP 0 p0 (Vv n f m g q) L)) (N1 n f m g 0 (Ae7 n f m g )) = true):(Ar (Ai tab ⟨Am tb0,(onP 0 p0 (Vv n f m g q) L),Gl⟩ Try.f105 [.sl 1 n (λi=>iV (f i)),.sl 1 m (λi=>iV (g i))] [])).sem = some ((bV true),[]):=by
 exact Aa (ks:=[kN (kn h0),kn hp0]) (by kernel_rfl)
end
theorem Zv (L:LT) (n:Nat) (f:Nat->Int) (m:Nat) (g:Nat->Int) (hn:n <= 4611686018427387904) (hm:n = m):∀ (e b:Nat) (j:Nat->V) (q:Nat),n = b+e->e < q->(∀ k,k < b->ieq (f k) (g k) = true) ->
  ((A4 (H4 L) (Mt n f m g) q (N1 n f m g b j)).sem = some (Vu n f m g 0) ∧ (A5 n λk=>ieq (f k) (g k)) = false) ∨ ((A4 (H4 L) (Mt n f m g) q (N1 n f m g b j)).sem = some (Vv n f m g 0) ∧ (A5 n λk=>ieq (f k) (g k)) = true)
 | 0,b,j,q+1,h,_,hb=>by
  have:n = b:=by omega
  subst this
  exact .inr ⟨Ab (Alb L n f m g n j (A6 (Nat.le_refl _))),A3.2 hb⟩
 | e+1,b,j,q+1,h,h2,hb=>by
  have hl:b < n:=by omega
  cases hp:ieq (f b) (g b) with
  | false =>
   refine .inl ⟨?_,?_⟩
   ·rw [Ab (Ala L n f m g b j (ofNat_lt hl) (AF b) (ofNat_lt (by omega)) hp),Dw]
    rfl
   ·cases ha:(A5 n λk=>ieq (f k) (g k)) with
    | false=>rfl
    | true =>
     have:=A3.1 ha b hl
     rw [hp] at this
     cases this
  | true =>
   have next:=Zv L n f m g hn hm e (b+1) (λ_=>.und) q (by omega) (by omega) λk hk=>by
    by_cases hki:k = b
    ·rw [hki]; exact hp
    ·exact hb k (by omega)
   rw [Ab (AkZ L n f m g b j (ofNat_lt hl) (AF b) (ofNat_lt (by omega)) hp),Aq,Ao hl hn]
   exact next
theorem Alk:A7 Try.prog Gl 105 HO:=by
 refine Av AL AN Try.func105 (by kernel_rfl) (by kernel_rfl) λvs v h' h=>?_
 unfold HO at h
 split at h
 ·rename_i v1 u1
  obtain ⟨n,f,a1,h⟩:=BJ h
  obtain ⟨m,g,a2,h⟩:=BJ h
  obtain ⟨hn,h⟩:=Ad h
  have:=Ac h
  simp only [Prod.mk.injEq] at this
  obtain ⟨rfl,rfl⟩:=this
  have hA:Bp [v1,u1] [HT R2 n f,HT R2 m g]:=λS w cs hv=>by
   obtain ⟨c,l,rfl,q1,c',l',rfl,q2,q3⟩:=hv
   exact ⟨c,_,rfl,a1 S w c q1,c',l',rfl,a2 S w c' q2,q3⟩
  have hx:=AO C9 [(0,Mt n f m g)] (G:=Gl)
  have hL:=AE [(0,Mt n f m g)]
  refine ⟨_,AI Gl tb0 [(0,Mt n f m g)],_,hA,rfl,hx.1,hx.2,?_,A8.refl _⟩
  cases hl:ieq (ofNat n) (ofNat m) with
  | false =>
   rw [show B3 n f m g = false from C1 hl]
   exact Ajw _ n f m g hl
  | true =>
   rw [show B3 n f m g = _ from Bg hl]
   have h0:=λL j=>Zv L n f m g (Fx hn) (DJ hl) n 0 j (n+1) (by omega) (by omega) (λk hk=>absurd hk (Nat.not_lt_zero _))
   cases ha:(A5 n λk=>ieq (f k) (g k)) with
   | false=>exact A2 (As hL hL) _ (Ajx _ _ n f m g 0 hl (Aj ((h0 _ _).elim (λh=>h.1) λh=>by have:=h.2; rw [ha] at this; cases this)))
   | true=>exact A2 (As hL hL) _ (Ajy _ _ n f m g 0 hl (Aj ((h0 _ _).elim (λh=>by have:=h.2; rw [ha] at this; cases this) λh=>h.1)))
 ·cases h
noncomputable def Pl:List (Nat × (List V->T (V × List Blk))):=[(105,HO)]
theorem YJ:AA Try.prog Gl Pl:=.cons Alk .nil
def Ms (n:Nat) (_:Nat->Nat) (_:Nat->Nat->Int) (_:Nat) (_:Nat->Nat) (_:Nat->Nat->Int):Lp:=⟨(bmK 32 0 [0,1,2,6,15,16,17]),0,bmK 32 0 [6],0,n+1⟩
def N0 (n:Nat) (ln:Nat->Nat) (co:Nat->Nat->Int) (m:Nat) (ln':Nat->Nat) (co':Nat->Nat->Int) (b:Nat) (j:Nat->V):St:=⟨(jsV 32 0 j [(0,.sl 1 n (λu=>.sl 1 (ln u) (λi=>iV (co u i)))),(1,.sl 1 m (λu=>.sl 1 (ln' u) (λi=>iV (co' u i)))),(2,.fn 105 []),(6,bV false),(15,.sl 1 n (λu=>.sl 1 (ln u) (λi=>iV (co u i)))),(16,nV n),(17,nV b)]),[]⟩
def Vs (_:Nat) (_:Nat->Nat) (_:Nat->Nat->Int) (_:Nat) (_:Nat->Nat) (_:Nat->Nat->Int) (_:Nat):Ex × St:=(.rt,⟨(jsV 32 0 (λ_=>.und) [(6,bV false)]),[]⟩)
def Vt (_:Nat) (_:Nat->Nat) (_:Nat->Nat->Int) (_:Nat) (_:Nat->Nat) (_:Nat->Nat->Int) (_:Nat):Ex × St:=(.ex 0,⟨(jsV 32 0 (λ_=>.und) [(6,bV false)]),[]⟩)
noncomputable def H3 (L:LT):St->T (Ex × St):=λst=>AC tab ⟨Am Pl,L,Gl⟩ (Au Try.f106 0) 0 st
section
variable (L:LT) (n:Nat) (ln:Nat->Nat) (co:Nat->Nat->Int) (m:Nat) (ln':Nat->Nat) (co':Nat->Nat->Int) (b:Nat)  (j:Nat->V)
include L n ln co m ln' co' b j
theorem AkY (h0:ilt (ofNat b) (ofNat n) = false):Ah (H3 L) (Ms n ln co m ln' co') (N0 n ln co m ln' co' b j) = some ((.ex 0),⟨(jsV 32 0 (λ_=>.und) [(6,(bV false))]),[]⟩):=by
 exact Aa (ks:=[kn h0]) (by kernel_rfl)
theorem AkX (h0:ilt (ofNat b) (ofNat n) = true) (h17:ile 0 (ofNat b) = true) (h1:ilt (ofNat b) (ofNat m) = true) (h18:Ag (ln b) = true) (h2:B3 (ln b) (co b) (ln' b) (co' b) = false):Ah (H3 L) (Ms n ln co m ln' co') (N0 n ln co m ln' co' b j) = some (.rt,⟨(jsV 32 0 (λ_=>.und) [(6,(bV false))]),[]⟩):=by
 exact Aa (ks:=[kn h0,kA (kn h17) (kn h0),kA (kn h17) (kn h1),kL (ln b),kL (ln' b),kn h18,kN (kn h2)]) (by kernel_rfl)
theorem AkW (h0:ilt (ofNat b) (ofNat n) = true) (h17:ile 0 (ofNat b) = true) (h1:ilt (ofNat b) (ofNat m) = true) (h18:Ag (ln b) = true) (h2:B3 (ln b) (co b) (ln' b) (co' b) = true):Ah (H3 L) (Ms n ln co m ln' co') (N0 n ln co m ln' co' b j) = some (.nm,⟨(jsV 32 0 (λ_=>.und) [(0,(.sl 1 n (λu=>(.sl 1 (ln u) (λi=>(iV (co u i))))))),(1,(.sl 1 m (λu=>(.sl 1 (ln' u) (λi=>(iV (co' u i))))))),(2,(.fn 105 [])),(6,(bV false)),(15,(.sl 1 n (λu=>(.sl 1 (ln u) (λi=>(iV (co u i))))))),(16,(nV n)),(17,(iV (wr .i64 (Af (ofNat b) 1))))]),[]⟩):=by
 exact Aa (ks:=[kn h0,kA (kn h17) (kn h0),kA (kn h17) (kn h1),kL (ln b),kL (ln' b),kn h18,kN (kn h2)]) (by kernel_rfl)
end
def Ae6 (n:Nat) (ln:Nat->Nat) (co:Nat->Nat->Int) (m:Nat) (ln':Nat->Nat) (co':Nat->Nat->Int) :Nat->V:=lkV A9 [(10,(.sl 1 n (λu=>.sl 1 (ln u) (λi=>iV (co u i))))),(11,(nV n)),(12,(.sl 1 m (λu=>.sl 1 (ln' u) (λi=>iV (co' u i))))),(13,(nV m)),(14,(bV (AG (ieq (ofNat n) (ofNat m)))))]
theorem Ajt (L:LT) (n:Nat) (ln:Nat->Nat) (co:Nat->Nat->Int) (m:Nat) (ln':Nat->Nat) (co':Nat->Nat->Int) (h0:ieq (ofNat n) (ofNat m) = false):(Ar (Ai tab ⟨Am Pl,L,Gl⟩ Try.f106 [.sl 1 n (λu=>.sl 1 (ln u) (λi=>iV (co u i))),.sl 1 m (λu=>.sl 1 (ln' u) (λi=>iV (co' u i))),.fn 105 []] [])).sem = some ((bV false),[]):=by
 exact Aa (ks:=[kN (kn h0)]) (by kernel_rfl)
section
variable (L:LT) (p0:PT) (n:Nat) (ln:Nat->Nat) (co:Nat->Nat->Int) (m:Nat) (ln':Nat->Nat) (co':Nat->Nat->Int) (q:Nat)
include L p0 n ln co m ln' co' q
theorem Aju (h0:ieq (ofNat n) (ofNat m) = true) (hp0:p0 (H3 (onP 0 p0 (Vs n ln co m ln' co' q) L)) (N0 n ln co m ln' co' 0 (Ae6 n ln co m ln' co' )) = true):(Ar (Ai tab ⟨Am Pl,(onP 0 p0 (Vs n ln co m ln' co' q) L),Gl⟩ Try.f106 [.sl 1 n (λu=>.sl 1 (ln u) (λi=>iV (co u i))),.sl 1 m (λu=>.sl 1 (ln' u) (λi=>iV (co' u i))),.fn 105 []] [])).sem = some ((bV false),[]):=by
 exact Aa (ks:=[kN (kn h0),kn hp0]) (by kernel_rfl)
theorem Ajv (h0:ieq (ofNat n) (ofNat m) = true) (hp0:p0 (H3 (onP 0 p0 (Vt n ln co m ln' co' q) L)) (N0 n ln co m ln' co' 0 (Ae6 n ln co m ln' co' )) = true):(Ar (Ai tab ⟨Am Pl,(onP 0 p0 (Vt n ln co m ln' co' q) L),Gl⟩ Try.f106 [.sl 1 n (λu=>.sl 1 (ln u) (λi=>iV (co u i))),.sl 1 m (λu=>.sl 1 (ln' u) (λi=>iV (co' u i))),.fn 105 []] [])).sem = some ((bV true),[]):=by
 exact Aa (ks:=[kN (kn h0),kn hp0]) (by kernel_rfl)
end
theorem Zu (L:LT) (n:Nat) (ln:Nat->Nat) (co:Nat->Nat->Int) (m:Nat) (ln':Nat->Nat) (co':Nat->Nat->Int) (hn:n <= 4611686018427387904) (hm:n = m) (hs:∀ k,k < n->Ag (ln k) = true):∀ (e b:Nat) (j:Nat->V) (q:Nat),n = b+e->e < q->(∀ k,k < b->B3 (ln k) (co k) (ln' k) (co' k) = true) ->
  ((A4 (H3 L) (Ms n ln co m ln' co') q (N0 n ln co m ln' co' b j)).sem = some (Vs n ln co m ln' co' 0) ∧ (A5 n λk=>B3 (ln k) (co k) (ln' k) (co' k)) = false) ∨ ((A4 (H3 L) (Ms n ln co m ln' co') q (N0 n ln co m ln' co' b j)).sem = some (Vt n ln co m ln' co' 0) ∧ (A5 n λk=>B3 (ln k) (co k) (ln' k) (co' k)) = true)
 | 0,b,j,q+1,h,_,hb=>by
  have:n = b:=by omega
  subst this
  exact .inr ⟨Ab (AkY L n ln co m ln' co' n j (A6 (Nat.le_refl _))),A3.2 hb⟩
 | e+1,b,j,q+1,h,h2,hb=>by
  have hl:b < n:=by omega
  cases hp:B3 (ln b) (co b) (ln' b) (co' b) with
  | false =>
   refine .inl ⟨?_,?_⟩
   ·rw [Ab (AkX L n ln co m ln' co' b j (ofNat_lt hl) (AF b) (ofNat_lt (by omega)) (hs b hl) hp),Dw]
    rfl
   ·cases ha:(A5 n λk=>B3 (ln k) (co k) (ln' k) (co' k)) with
    | false=>rfl
    | true =>
     have:=A3.1 ha b hl
     rw [hp] at this
     cases this
  | true =>
   have next:=Zu L n ln co m ln' co' hn hm hs e (b+1) (λ_=>.und) q (by omega) (by omega) λk hk=>by
    by_cases hki:k = b
    ·rw [hki]; exact hp
    ·exact hb k (by omega)
   rw [Ab (AkW L n ln co m ln' co' b j (ofNat_lt hl) (AF b) (ofNat_lt (by omega)) (hs b hl) hp),Aq,Ao hl hn]
   exact next
theorem Ans:A7 Try.prog Gl 106 Q8:=by
 refine Av AL AN Try.func106 (by kernel_rfl) (by kernel_rfl) λvs v h' h=>?_
 unfold Q8 at h
 split at h
 ·rename_i v1 u1
  obtain ⟨n,C,a1,h⟩:=BJ h
  obtain ⟨m,D,a2,h⟩:=BJ h
  obtain ⟨hn,h⟩:=Ad h
  obtain ⟨hs,h⟩:=Ad h
  have hs:=A3.1 hs
  have:=Ac h
  simp only [Prod.mk.injEq] at this
  obtain ⟨rfl,rfl⟩:=this
  have hA:Bp [v1,u1,.fn 105 []] [.sl 1 n (λu=>.sl 1 (C u).1 (λi=>iV ((C u).2 i))),.sl 1 m (λu=>.sl 1 (D u).1 (λi=>iV ((D u).2 i))),.fn 105 []]:=λS w cs hv=>by
   obtain ⟨c,l,rfl,q1,c',l',rfl,q2,q3⟩:=hv
   exact ⟨c,_,rfl,a1 S w c q1,c',l',rfl,a2 S w c' q2,q3⟩
  generalize hln:(λi=>(C i).1) = ln
  generalize hco:(λi=>(C i).2) = co
  generalize hln':(λi=>(D i).1) = ln'
  generalize hco':(λi=>(D i).2) = co'
  have hx:=AO YJ [(0,Ms n ln co m ln' co')] (G:=Gl)
  have hL:=AE [(0,Ms n ln co m ln' co')]
  refine ⟨_,AI Gl Pl [(0,Ms n ln co m ln' co')],_,hA,rfl,hx.1,hx.2,?_,A8.refl _⟩
  have hs:∀ k,k < n->Ag (ln k) = true:=λk hk=>by rw [<- hln]; exact hs k hk
  have e1:∀ u,(C u).1 = ln u:=λu=>by rw [<- hln]
  have e2:∀ u,(C u).2 = co u:=λu=>by rw [<- hco]
  have e3:∀ u,(D u).1 = ln' u:=λu=>by rw [<- hln']
  have e4:∀ u,(D u).2 = co' u:=λu=>by rw [<- hco']
  simp only [e1,e2,e3,e4]
  cases hl:ieq (ofNat n) (ofNat m) with
  | false =>
   rw [show CA n ln co m ln' co' = false from C1 hl]
   exact Ajt _ n ln co m ln' co' hl
  | true =>
   rw [show CA n ln co m ln' co' = _ from Bg hl]
   have h0:=λL j=>Zu L n ln co m ln' co' (Fx hn) (DJ hl) hs n 0 j (n+1) (by omega) (by omega) (λk hk=>absurd hk (Nat.not_lt_zero _))
   cases ha:(A5 n λk=>B3 (ln k) (co k) (ln' k) (co' k)) with
   | false=>exact A2 (As hL hL) _ (Aju _ _ n ln co m ln' co' 0 hl (Aj ((h0 _ _).elim (λh=>h.1) λh=>by have:=h.2; rw [ha] at this; cases this)))
   | true=>exact A2 (As hL hL) _ (Ajv _ _ n ln co m ln' co' 0 hl (Aj ((h0 _ _).elim (λh=>by have:=h.2; rw [ha] at this; cases this) λh=>h.1)))
 ·cases h
noncomputable def Qp:List (Nat × (List V->T (V × List Blk))):=[(103,Ux),(104,Uw),(105,HO),(106,Q8)]
theorem AbP:AA Try.prog Gl Qp:=.cons p103 <| .cons p104 <| .cons Alk <| .cons Ans .nil
theorem Acn (a b c d e i j k:Bool):Ak a (Ak b (Ak c (Ak d (Ak e (Ak i (Ak j k)))))) = Ak a (Ak b (Ak c (Ak d (Ak (Ak e k) (Ak i (Ak j true)))))):=by
 cases a <;> cases b <;> cases c <;> cases d <;> cases e <;> cases i <;> cases j <;> cases k <;> rfl
section
variable (L:LT) (a:Int) (n:Nat) (g:Nat->E6) (m:Nat) (x:Nat->Ev5) (t k:Int) (p:Nat) (r:Nat->Int) (q:Nat) (ln:Nat->Nat) (co:Nat->Nat->Int) (a':Int) (n':Nat) (g':Nat->E6) (m':Nat) (x':Nat->Ev5) (t' k':Int) (p':Nat) (r':Nat->Int) (q':Nat) (ln':Nat->Nat) (co':Nat->Nat->Int)
include L a n g m x t k p r q ln co a' n' g' m' x' t' k' p' r' q' ln' co'
theorem Ajj (h0:ieq a a' = false):(Ar (Ai tab ⟨Am Qp,L,Gl⟩ Try.f72 [.agg (shL a n g m x t k p r q ln co),.agg (shL a' n' g' m' x' t' k' p' r' q' ln' co')] [])).sem = some ((bV false),[]):=by
 exact Aa (ks:=[kn h0,kn h0,kn h0,kn h0,kn h0,kn h0,kF,kF,kF,kF,kF,kF,kF,kF,kF,kF,kF,kF,kF,kF,kF,kF,kF,kF,kF,kF,kF,kF,kF,kF,kF,kF,kF,kF,kF,kF]) (by kernel_rfl)
theorem Aji (h0:ieq a a' = true) (h1:ieq t t' = false):(Ar (Ai tab ⟨Am Qp,L,Gl⟩ Try.f72 [.agg (shL a n g m x t k p r q ln co),.agg (shL a' n' g' m' x' t' k' p' r' q' ln' co')] [])).sem = some ((bV false),[]):=by
 exact Aa (ks:=[kn h0,kn h0,kn h0,kn h0,kn h0,kn h0,kn h1,kn h1,kn h1,kn h1,kn h1,kn h1,kF,kF,kF,kF,kF,kF,kF,kF,kF,kF,kF,kF,kF,kF,kF,kF,kF,kF,kF,kF,kF,kF,kF,kF]) (by kernel_rfl)
theorem Ajh (h0:ieq a a' = true) (h1:ieq t t' = true) (h2:ieq k k' = false):(Ar (Ai tab ⟨Am Qp,L,Gl⟩ Try.f72 [.agg (shL a n g m x t k p r q ln co),.agg (shL a' n' g' m' x' t' k' p' r' q' ln' co')] [])).sem = some ((bV false),[]):=by
 exact Aa (ks:=[kn h0,kn h0,kn h0,kn h0,kn h0,kn h0,kn h1,kn h1,kn h1,kn h1,kn h1,kn h1,kn h2,kn h2,kn h2,kn h2,kn h2,kn h2,kF,kF,kF,kF,kF,kF,kF,kF,kF,kF,kF,kF,kF,kF,kF,kF,kF,kF]) (by kernel_rfl)
theorem Ajg (h0:ieq a a' = true) (h1:ieq t t' = true) (h2:ieq k k' = true) (h18:Ag n = true) (h3:BG n g n' g' = false):(Ar (Ai tab ⟨Am Qp,L,Gl⟩ Try.f72 [.agg (shL a n g m x t k p r q ln co),.agg (shL a' n' g' m' x' t' k' p' r' q' ln' co')] [])).sem = some ((bV false),[]):=by
 exact Aa (ks:=[kn h0,kn h0,kn h0,kn h0,kn h0,kn h0,kn h1,kn h1,kn h1,kn h1,kn h1,kn h1,kn h2,kn h2,kn h2,kn h2,kn h2,kL n,kL n',kn h18,kn h2,kn h3,kn h3,kn h3,kn h3,kn h3,kn h3,kF,kF,kF,kF,kF,kF,kF,kF,kF,kF,kF,kF]) (by kernel_rfl)
theorem Ajf (h0:ieq a a' = true) (h1:ieq t t' = true) (h2:ieq k k' = true) (h19:Ag n = true) (h3:BG n g n' g' = true) (h20:Ag m = true) (h4:Mj m x m' x' = false):(Ar (Ai tab ⟨Am Qp,L,Gl⟩ Try.f72 [.agg (shL a n g m x t k p r q ln co),.agg (shL a' n' g' m' x' t' k' p' r' q' ln' co')] [])).sem = some ((bV false),[]):=by
 exact Aa (ks:=[kn h0,kn h0,kn h0,kn h0,kn h0,kn h0,kn h1,kn h1,kn h1,kn h1,kn h1,kn h1,kn h2,kn h2,kn h2,kn h2,kn h2,kL n,kL n',kn h19,kn h2,kn h3,kn h3,kn h3,kn h3,kn h3,kL m,kL m',kn h20,kn h3,kn h4,kn h4,kn h4,kn h4,kn h4,kn h4,kF,kF,kF,kF,kF,kF]) (by kernel_rfl)
theorem Aje (h0:ieq a a' = true) (h1:ieq t t' = true) (h2:ieq k k' = true) (h20:Ag n = true) (h3:BG n g n' g' = true) (h21:Ag m = true) (h4:Mj m x m' x' = true) (h22:Ag p = true) (h5:B3 p r p' r' = false):(Ar (Ai tab ⟨Am Qp,L,Gl⟩ Try.f72 [.agg (shL a n g m x t k p r q ln co),.agg (shL a' n' g' m' x' t' k' p' r' q' ln' co')] [])).sem = some ((bV false),[]):=by
 exact Aa (ks:=[kn h0,kn h0,kn h0,kn h0,kn h0,kn h0,kn h1,kn h1,kn h1,kn h1,kn h1,kn h1,kn h2,kn h2,kn h2,kn h2,kn h2,kL n,kL n',kn h20,kn h2,kn h3,kn h3,kn h3,kn h3,kn h3,kL m,kL m',kn h21,kn h3,kn h4,kn h4,kn h4,kn h4,kn h4,kL p,kL p',kn h22,kn h4,kn h5,kn h5,kn h5,kn h5,kn h5,kn h5]) (by kernel_rfl)
theorem Amq (h0:ieq a a' = true) (h1:ieq t t' = true) (h2:ieq k k' = true) (h21:Ag n = true) (h3:BG n g n' g' = true) (h22:Ag m = true) (h4:Mj m x m' x' = true) (h23:Ag p = true) (h5:B3 p r p' r' = true) (h24:A5 q (λi=>(A5 (ln i) (λ_=>true))) = true) (h25:A5 q' (λi=>(A5 (ln' i) (λ_=>true))) = true) (h26:Ag q = true) (h27:A5 q (λi=>(Ag (ln i))) = true):(Ar (Ai tab ⟨Am Qp,L,Gl⟩ Try.f72 [.agg (shL a n g m x t k p r q ln co),.agg (shL a' n' g' m' x' t' k' p' r' q' ln' co')] [])).sem = some ((bV (CA q ln (λi i_1=>(co i i_1)) q' ln' (λi i_1=>(co' i i_1)))),[]):=by
 exact Aa (ks:=[kn h0,kn h0,kn h0,kn h0,kn h0,kn h0,kn h1,kn h1,kn h1,kn h1,kn h1,kn h1,kn h2,kn h2,kn h2,kn h2,kn h2,kL n,kL n',kn h21,kn h2,kn h3,kn h3,kn h3,kn h3,kn h3,kL m,kL m',kn h22,kn h3,kn h4,kn h4,kn h4,kn h4,kn h4,kL p,kL p',kn h23,kn h4,kn h5,kn h5,kn h5,kn h5,kn h5,kn h24,kn h25,kn h26,kn h27,kn h5]) (by kernel_rfl)
end
theorem p72:A7 Try.prog Gl 72 Jx:=by
 refine Av AL AN Try.func72 (by kernel_rfl) (by kernel_rfl) λvs v h' h=>?_
 unfold Jx at h
 split at h
 ·rename_i v1 u1
  obtain ⟨s,a1,h⟩:=BI h
  obtain ⟨s',a2,h⟩:=BI h
  obtain ⟨hn,h⟩:=Ad h
  have:=Ac h
  simp only [Prod.mk.injEq] at this
  obtain ⟨rfl,rfl⟩:=this
  obtain ⟨a,n,g,m,x,t,k,p,r,q,C⟩:=s
  obtain ⟨a',n',g',m',x',t',k',p',r',q',D⟩:=s'
  have hA:Bp [v1,u1] [.agg [iV a,.sl 6 n (λi=>eV (g i)),.sl 5 m (λi=>evV (x i)),iV t,iV k,.sl 1 p (λi=>iV (r i)),.sl 1 q (λu=>.sl 1 (C u).1 (λi=>iV ((C u).2 i)))],
    .agg [iV a',.sl 6 n' (λi=>eV (g' i)),.sl 5 m' (λi=>evV (x' i)),iV t',iV k',.sl 1 p' (λi=>iV (r' i)),.sl 1 q' (λu=>.sl 1 (D u).1 (λi=>iV ((D u).2 i)))]]:=λS w cs hv=>by
   obtain ⟨c,l,rfl,q1,c',l',rfl,q2,q3⟩:=hv
   exact ⟨c,_,rfl,a1 S w c q1,c',l',rfl,a2 S w c' q2,q3⟩
  have hn:Ag n = true ∧ Ag m = true ∧ Ag p = true ∧ Ag q = true ∧ (A5 q λi=>Ag (C i).1) = true:=by simpa [CH,Ak] using hn
  obtain ⟨n1,n2,n3,n4,n5⟩:=hn
  unfold N4
  dsimp only
  generalize hln:(λi=>(C i).1) = ln
  generalize hco:(λi=>(C i).2) = co
  generalize hln':(λi=>(D i).1) = ln'
  generalize hco':(λi=>(D i).2) = co'
  have hx:=AO AbP [] (G:=Gl)
  refine ⟨_,AI Gl Qp [],_,hA,rfl,hx.1,hx.2,?_,A8.refl _⟩
  have e1:∀ u,(C u).1 = ln u:=λu=>by rw [<- hln]
  have e2:∀ u,(C u).2 = co u:=λu=>by rw [<- hco]
  have e3:∀ u,(D u).1 = ln' u:=λu=>by rw [<- hln']
  have e4:∀ u,(D u).2 = co' u:=λu=>by rw [<- hco']
  simp only [e1,e2,e3,e4] at n5 ⊢
  have C4:∀ (q:Nat) (ln:Nat->Nat),(A5 q λi=>A5 (ln i) λ_=>true) = true:=λ_ _=>A3.2 λ_ _=>A3.2 λ_ _=>rfl
  rw [Acn,show (Ak (ieq (ofNat m) (ofNat m')) (A5 m λk=>CR (x k) (x' k))) = Mj m x m' x' from rfl]
  cases c0:ieq a a' with
  | false=>rw [C1 rfl]; exact Ajj _ a n g m x t k p r q ln co a' n' g' m' x' t' k' p' r' q' ln' co' c0
  | true =>
  rw [Bg rfl]
  cases c1:ieq t t' with
  | false=>rw [C1 rfl]; exact Aji _ a n g m x t k p r q ln co a' n' g' m' x' t' k' p' r' q' ln' co' c0 c1
  | true =>
  rw [Bg rfl]
  cases c2:ieq k k' with
  | false=>rw [C1 rfl]; exact Ajh _ a n g m x t k p r q ln co a' n' g' m' x' t' k' p' r' q' ln' co' c0 c1 c2
  | true =>
  rw [Bg rfl]
  cases c3:BG n g n' g' with
  | false=>rw [C1 rfl]; exact Ajg _ a n g m x t k p r q ln co a' n' g' m' x' t' k' p' r' q' ln' co' c0 c1 c2 n1 c3
  | true =>
  rw [Bg rfl]
  cases c4:Mj m x m' x' with
  | false=>rw [C1 rfl]; exact Ajf _ a n g m x t k p r q ln co a' n' g' m' x' t' k' p' r' q' ln' co' c0 c1 c2 n1 c3 n2 c4
  | true =>
  rw [Bg rfl]
  cases c5:B3 p r p' r' with
  | false=>rw [C1 rfl]; exact Aje _ a n g m x t k p r q ln co a' n' g' m' x' t' k' p' r' q' ln' co' c0 c1 c2 n1 c3 n2 c4 n3 c5
  | true =>
  rw [Bg rfl]
  rw [show Ak (CA q ln co q' ln' co') true = CA q ln co q' ln' co' by cases CA q ln co q' ln' co' <;> rfl]
  exact Amq _ a n g m x t k p r q ln co a' n' g' m' x' t' k' p' r' q' ln' co' c0 c1 c2 n1 c3 n2 c4 n3 c5 (C4 _ _) (C4 _ _) n4 n5
 ·cases h
end Go.Proofs.Ytjhnfomefcngfaa.Sh
