/-
  Layer 7: whether shapes are the same, the program's (by slices.Equal). No conditions.
-/
import Derived.Test.YtjhnfomefcngfaaShZ
namespace Go.Proofs.Ytjhnfomefcngfaa.Sh
open Go.Sy Ed
open Int (ofNat)
set_option maxHeartbeats 1000000
set_option maxRecDepth 4000
theorem AaW {n:Nat} {f:Nat->E6} {m:Nat} {g:Nat->E6} (h:ieq (ofNat n) (ofNat m) = false):Dd n f m g = false:=by
 unfold Dd
 rw [h]
 rfl
theorem ZB {a b:E6}:eqE a b = true ↔ a = b:=by
 have h:=@Nu 1 (λ_=>a) 1 (λ_=>b)
 have e:Dd 1 (λ_=>a) 1 (λ_=>b) = eqE a b:=by
  show sel (eqE a b) true false = _
  cases eqE a b <;> rfl
 rw [e] at h
 exact ⟨λhh=>(h.1 hh).2 0 (by omega),λhh=>h.2 ⟨rfl,λ_ _=>hh⟩⟩
theorem AaV {n:Nat} {f:Nat->E6} {m:Nat} {g:Nat->E6} (h:ieq (ofNat n) (ofNat m) = true):Dd n f m g = Ay n λk=>eqE (f k) (g k):=by
 rw [Bool.eq_iff_iff,Nu,AJ]
 exact ⟨λhh k hk=>ZB.2 (hh.2 k hk),λhh=>⟨GT h,λk hk=>ZB.1 (hh k hk)⟩⟩
def Iu (n:Nat) (f:Nat->Ev5) (m:Nat) (g:Nat->Ev5):Bool:=Af (ieq (ofNat n) (ofNat m)) (Ay n λk=>FH (f k) (g k))
def TV:List V->T (V × List Blk)
 | [v,u]=>apG Xo v λn f=>apG Xo u λm g=>.br (Ai n) (.leaf (bV (Dd n f m g),[])) .fail
 | _=>.fail
def TU:List V->T (V × List Blk)
 | [v,u]=>apG Xm v λn f=>apG Xm u λm g=>.br (Ai n) (.leaf (bV (Iu n f m g),[])) .fail
 | _=>.fail
def Qr:List V->T (V × List Blk)
 | [v,u,.fn 105 []]=>apG Acl v λn C=>apG Acl u λm D=>.br (Ai n) (.br (Ay n λi=>Ai (C i).1) (.leaf (bV (Gh n (λi=>(C i).1) (λi=>(C i).2) m (λi=>(D i).1) (λi=>(D i).2)),[])) .fail) .fail
 | _=>.fail
def lp103 (n:Nat) (_:Nat->E6) (_:Nat) (_:Nat->E6):Lp:=⟨(bmK 26 0 [0,1,4,12,13]),0,bmK 26 0 [4],0,n+1⟩
def st103 (n:Nat) (f:Nat->E6) (m:Nat) (g:Nat->E6) (b:Nat) (j:Nat->V):St:=⟨(jsV 26 0 j [(0,.sl 6 n (λi=>eV (f i))),(1,.sl 6 m (λi=>eV (g i))),(4,bV false),(12,nV n),(13,nV b)]),[]⟩
def en103f (_:Nat) (_:Nat->E6) (_:Nat) (_:Nat->E6) (_:Nat):Ex × St:=(.rt,⟨(jsV 26 0 (λ_=>.und) [(4,bV false)]),[]⟩)
def en103e (_:Nat) (_:Nat->E6) (_:Nat) (_:Nat->E6) (_:Nat):Ex × St:=(.ex 0,⟨(jsV 26 0 (λ_=>.und) [(4,bV false)]),[]⟩)
noncomputable def body103 (L:LT):St->T (Ex × St):=λst=>AG tab ⟨Aq tb0,L,Gl⟩ (A1 Try.f103 0) 0 st
theorem AiL (L:LT) (n:Nat) (f:Nat->E6) (m:Nat) (g:Nat->E6) (b:Nat)  (j:Nat->V) (h0:ilt (ofNat b) (ofNat n) = false):Aj (body103 L) (lp103 n f m g) (st103 n f m g b j) = some ((.ex 0),⟨(jsV 26 0 (λ_=>.und) [(4,(bV false))]),[]⟩):=Aa [false] [ilt (ofNat b) (ofNat n)] (by kernel_rfl) (by simp only [h0] <;> rfl)
section
variable (L:LT) (n:Nat) (f:Nat->E6) (m:Nat) (g:Nat->E6) (b:Nat) (j:Nat->V)
include L n f m g b j
theorem AiK (h0:ilt (ofNat b) (ofNat n) = true) (h17:ile 0 (ofNat b) = true) (h1:ilt (ofNat b) (ofNat m) = true) (h2:eqE (f b) (g b) = false):Aj (body103 L) (lp103 n f m g) (st103 n f m g b j) = some (.rt,⟨(jsV 26 0 (λ_=>.und) [(4,(bV false))]),[]⟩):=Aa [true,true,true,true] [ilt (ofNat b) (ofNat n),Af (ile 0 (ofNat b)) (ilt (ofNat b) (ofNat n)),Af (ile 0 (ofNat b)) (ilt (ofNat b) (ofNat m)),Ah (eqE (f b) (g b))] (by kernel_rfl) (by simp only [*] <;> rfl)
theorem AiJ (h0:ilt (ofNat b) (ofNat n) = true) (h17:ile 0 (ofNat b) = true) (h1:ilt (ofNat b) (ofNat m) = true) (h2:eqE (f b) (g b) = true):Aj (body103 L) (lp103 n f m g) (st103 n f m g b j) = some (.nm,⟨(jsV 26 0 (λ_=>.und) [(0,(.sl 6 n (λi=>eV (f i)))),(1,(.sl 6 m (λi=>eV (g i)))),(4,(bV false)),(12,(nV n)),(13,(iV (wr .i64 (Ae (ofNat b) 1))))]),[]⟩):=Aa [true,true,true,false] [ilt (ofNat b) (ofNat n),Af (ile 0 (ofNat b)) (ilt (ofNat b) (ofNat n)),Af (ile 0 (ofNat b)) (ilt (ofNat b) (ofNat m)),Ah (eqE (f b) (g b))] (by kernel_rfl) (by simp only [*] <;> rfl)
end
def jk103 (n:Nat) (f:Nat->E6) (m:Nat) (g:Nat->E6) :Nat->V:=lkV A9 [(6,(.sl 6 n (λi=>eV (f i)))),(7,(nV n)),(8,(.sl 6 m (λi=>eV (g i)))),(9,(nV m)),(10,(bV (Ah (ieq (ofNat n) (ofNat m))))),(11,(.sl 6 n (λi=>eV (f i))))]
theorem Ah0 (L:LT) (n:Nat) (f:Nat->E6) (m:Nat) (g:Nat->E6) (h0:ieq (ofNat n) (ofNat m) = false):(A2 (An tab ⟨Aq tb0,L,Gl⟩ Try.f103 [.sl 6 n (λi=>eV (f i)),.sl 6 m (λi=>eV (g i))] [])).sem = some ((bV false),[]):=Aa [true] [Ah (ieq (ofNat n) (ofNat m))] (by kernel_rfl) (by simp only [h0] <;> rfl)
section
variable (L:LT) (p0:PT) (n:Nat) (f:Nat->E6) (m:Nat) (g:Nat->E6) (q:Nat)
include L p0 n f m g q
theorem Ah1 (h0:ieq (ofNat n) (ofNat m) = true) (hp0:p0 (body103 (onP 0 p0 (en103f n f m g q) L)) (st103 n f m g 0 (jk103 n f m g )) = true):(A2 (An tab ⟨Aq tb0,onP 0 p0 (en103f n f m g q) L,Gl⟩ Try.f103 [.sl 6 n (λi=>eV (f i)),.sl 6 m (λi=>eV (g i))] [])).sem = some ((bV false),[]):=Aa [false,true] [Ah (ieq (ofNat n) (ofNat m)),p0 (body103 (onP 0 p0 (en103f n f m g q) L)) (st103 n f m g 0 (jk103 n f m g ))] (by kernel_rfl) (by simp only [hp0] <;> simp only [h0] <;> rfl)
theorem Ah2 (h0:ieq (ofNat n) (ofNat m) = true) (hp0:p0 (body103 (onP 0 p0 (en103e n f m g q) L)) (st103 n f m g 0 (jk103 n f m g )) = true):(A2 (An tab ⟨Aq tb0,onP 0 p0 (en103e n f m g q) L,Gl⟩ Try.f103 [.sl 6 n (λi=>eV (f i)),.sl 6 m (λi=>eV (g i))] [])).sem = some ((bV true),[]):=Aa [false,true] [Ah (ieq (ofNat n) (ofNat m)),p0 (body103 (onP 0 p0 (en103e n f m g q) L)) (st103 n f m g 0 (jk103 n f m g ))] (by kernel_rfl) (by simp only [hp0] <;> simp only [h0] <;> rfl)
end
theorem run103 (L:LT) (n:Nat) (f:Nat->E6) (m:Nat) (g:Nat->E6) (hn:n <= 4611686018427387904) (hm:n = m):∀ (e b:Nat) (j:Nat->V) (q:Nat),n = b+e->e < q->(∀ k,k < b->eqE (f k) (g k) = true) ->
  ((A8 (body103 L) (lp103 n f m g) q (st103 n f m g b j)).sem = some (en103f n f m g 0) ∧ (Ay n λk=>eqE (f k) (g k)) = false) ∨ ((A8 (body103 L) (lp103 n f m g) q (st103 n f m g b j)).sem = some (en103e n f m g 0) ∧ (Ay n λk=>eqE (f k) (g k)) = true)
 | 0,b,j,q+1,h,_,hb=>by
  have:n = b:=by omega
  subst this
  exact .inr ⟨Ad (AiL L n f m g n j (AF (Nat.le_refl _))),AJ.2 hb⟩
 | e+1,b,j,q+1,h,h2,hb=>by
  have hl:b < n:=by omega
  cases hp:eqE (f b) (g b) with
  | false =>
   refine .inl ⟨?_,?_⟩
   ·rw [Ad (AiK L n f m g b j (ofNat_lt hl) (AK b) (ofNat_lt (by omega)) hp),EM]
    rfl
   ·cases ha:(Ay n λk=>eqE (f k) (g k)) with
    | false=>rfl
    | true =>
     have:=AJ.1 ha b hl
     rw [hp] at this
     cases this
  | true =>
   have next:=run103 L n f m g hn hm e (b+1) (λ_=>.und) q (by omega) (by omega) λk hk=>by
    by_cases hki:k = b
    ·rw [hki]; exact hp
    ·exact hb k (by omega)
   rw [Ad (AiJ L n f m g b j (ofNat_lt hl) (AK b) (ofNat_lt (by omega)) hp),Aw,Ao hl hn]
   exact next
theorem p103:AA Try.prog Gl 103 TV:=by
 refine A5 AQ AR Try.func103 (by kernel_rfl) (by kernel_rfl) λvs v h' h=>?_
 unfold TV at h
 split at h
 ·rename_i v1 u1
  obtain ⟨n,f,a1,h⟩:=CX h
  obtain ⟨m,g,a2,h⟩:=CX h
  obtain ⟨hn,h⟩:=Ag h
  have:=Ac h
  simp only [Prod.mk.injEq] at this
  obtain ⟨rfl,rfl⟩:=this
  have hA:BL [v1,u1] [NH Xo n f,NH Xo m g]:=λS w cs hv=>by
   obtain ⟨c,l,rfl,q1,c',l',rfl,q2,q3⟩:=hv
   exact ⟨c,_,rfl,a1 S w c q1,c',l',rfl,a2 S w c' q2,q3⟩
  have hx:=AS Ee [(0,lp103 n f m g)] (G:=Gl)
  have hL:=AL [(0,lp103 n f m g)]
  refine ⟨_,AT Gl tb0 [(0,lp103 n f m g)],_,hA,rfl,hx.1,hx.2,?_,AE.refl _⟩
  cases hl:ieq (ofNat n) (ofNat m) with
  | false =>
   rw [show Dd n f m g = false from AaW hl]
   exact Ah0 _ n f m g hl
  | true =>
   rw [show Dd n f m g = _ from AaV hl]
   have h0:=λL j=>run103 L n f m g (Kl hn) (GT hl) n 0 j (n+1) (by omega) (by omega) (λk hk=>absurd hk (Nat.not_lt_zero _))
   cases ha:(Ay n λk=>eqE (f k) (g k)) with
   | false=>exact A6 (Az hL hL) _ (Ah1 _ _ n f m g 0 hl (Am ((h0 _ _).elim (λh=>h.1) λh=>by have:=h.2; rw [ha] at this; cases this)))
   | true=>exact A6 (Az hL hL) _ (Ah2 _ _ n f m g 0 hl (Am ((h0 _ _).elim (λh=>by have:=h.2; rw [ha] at this; cases this) λh=>h.1)))
 ·cases h
def lp104 (n:Nat) (_:Nat->Ev5) (_:Nat) (_:Nat->Ev5):Lp:=⟨(bmK 26 0 [0,1,4,12,13]),0,bmK 26 0 [4],0,n+1⟩
def st104 (n:Nat) (f:Nat->Ev5) (m:Nat) (g:Nat->Ev5) (b:Nat) (j:Nat->V):St:=⟨(jsV 26 0 j [(0,.sl 5 n (λi=>evV (f i))),(1,.sl 5 m (λi=>evV (g i))),(4,bV false),(12,nV n),(13,nV b)]),[]⟩
def Rq (_:Nat) (_:Nat->Ev5) (_:Nat) (_:Nat->Ev5) (_:Nat):Ex × St:=(.rt,⟨(jsV 26 0 (λ_=>.und) [(4,bV false)]),[]⟩)
def en104e (_:Nat) (_:Nat->Ev5) (_:Nat) (_:Nat->Ev5) (_:Nat):Ex × St:=(.ex 0,⟨(jsV 26 0 (λ_=>.und) [(4,bV false)]),[]⟩)
noncomputable def body104 (L:LT):St->T (Ex × St):=λst=>AG tab ⟨Aq tb0,L,Gl⟩ (A1 Try.f104 0) 0 st
theorem AiI (L:LT) (n:Nat) (f:Nat->Ev5) (m:Nat) (g:Nat->Ev5) (b:Nat)  (j:Nat->V) (h0:ilt (ofNat b) (ofNat n) = false):Aj (body104 L) (lp104 n f m g) (st104 n f m g b j) = some ((.ex 0),⟨(jsV 26 0 (λ_=>.und) [(4,(bV false))]),[]⟩):=Aa [false] [ilt (ofNat b) (ofNat n)] (by kernel_rfl) (by simp only [h0] <;> rfl)
section
variable (L:LT) (n:Nat) (f:Nat->Ev5) (m:Nat) (g:Nat->Ev5) (b:Nat) (j:Nat->V)
include L n f m g b j
theorem AiH (h0:ilt (ofNat b) (ofNat n) = true) (h17:ile 0 (ofNat b) = true) (h1:ilt (ofNat b) (ofNat m) = true) (h2:Af (ieq ((f b)).th ((g b)).th) (Af (ieq ((f b)).pl ((g b)).pl) (Af (ieq ((f b)).dir ((g b)).dir) (Af (ieq ((f b)).loc ((g b)).loc) (Af (ieq ((f b)).val ((g b)).val) true)))) = false):Aj (body104 L) (lp104 n f m g) (st104 n f m g b j) = some (.rt,⟨(jsV 26 0 (λ_=>.und) [(4,(bV false))]),[]⟩):=Aa [true,true,true,true] [ilt (ofNat b) (ofNat n),Af (ile 0 (ofNat b)) (ilt (ofNat b) (ofNat n)),Af (ile 0 (ofNat b)) (ilt (ofNat b) (ofNat m)),Ah (Af (ieq ((f b)).th ((g b)).th) (Af (ieq ((f b)).pl ((g b)).pl) (Af (ieq ((f b)).dir ((g b)).dir) (Af (ieq ((f b)).loc ((g b)).loc) (Af (ieq ((f b)).val ((g b)).val) true)))))] (by kernel_rfl) (by simp only [h2] <;> simp only [*] <;> rfl)
theorem AiG (h0:ilt (ofNat b) (ofNat n) = true) (h17:ile 0 (ofNat b) = true) (h1:ilt (ofNat b) (ofNat m) = true) (h2:Af (ieq ((f b)).th ((g b)).th) (Af (ieq ((f b)).pl ((g b)).pl) (Af (ieq ((f b)).dir ((g b)).dir) (Af (ieq ((f b)).loc ((g b)).loc) (Af (ieq ((f b)).val ((g b)).val) true)))) = true):Aj (body104 L) (lp104 n f m g) (st104 n f m g b j) = some (.nm,⟨(jsV 26 0 (λ_=>.und) [(0,(.sl 5 n (λi=>evV (f i)))),(1,(.sl 5 m (λi=>evV (g i)))),(4,(bV false)),(12,(nV n)),(13,(iV (wr .i64 (Ae (ofNat b) 1))))]),[]⟩):=Aa [true,true,true,false] [ilt (ofNat b) (ofNat n),Af (ile 0 (ofNat b)) (ilt (ofNat b) (ofNat n)),Af (ile 0 (ofNat b)) (ilt (ofNat b) (ofNat m)),Ah (Af (ieq ((f b)).th ((g b)).th) (Af (ieq ((f b)).pl ((g b)).pl) (Af (ieq ((f b)).dir ((g b)).dir) (Af (ieq ((f b)).loc ((g b)).loc) (Af (ieq ((f b)).val ((g b)).val) true)))))] (by kernel_rfl) (by simp only [h2] <;> simp only [*] <;> rfl)
end
def jk104 (n:Nat) (f:Nat->Ev5) (m:Nat) (g:Nat->Ev5) :Nat->V:=lkV A9 [(6,(.sl 5 n (λi=>evV (f i)))),(7,(nV n)),(8,(.sl 5 m (λi=>evV (g i)))),(9,(nV m)),(10,(bV (Ah (ieq (ofNat n) (ofNat m))))),(11,(.sl 5 n (λi=>evV (f i))))]
theorem Ahx (L:LT) (n:Nat) (f:Nat->Ev5) (m:Nat) (g:Nat->Ev5) (h0:ieq (ofNat n) (ofNat m) = false):(A2 (An tab ⟨Aq tb0,L,Gl⟩ Try.f104 [.sl 5 n (λi=>evV (f i)),.sl 5 m (λi=>evV (g i))] [])).sem = some ((bV false),[]):=Aa [true] [Ah (ieq (ofNat n) (ofNat m))] (by kernel_rfl) (by simp only [h0] <;> rfl)
section
variable (L:LT) (p0:PT) (n:Nat) (f:Nat->Ev5) (m:Nat) (g:Nat->Ev5) (q:Nat)
include L p0 n f m g q
theorem Ahy (h0:ieq (ofNat n) (ofNat m) = true) (hp0:p0 (body104 (onP 0 p0 (Rq n f m g q) L)) (st104 n f m g 0 (jk104 n f m g )) = true):(A2 (An tab ⟨Aq tb0,onP 0 p0 (Rq n f m g q) L,Gl⟩ Try.f104 [.sl 5 n (λi=>evV (f i)),.sl 5 m (λi=>evV (g i))] [])).sem = some ((bV false),[]):=Aa [false,true] [Ah (ieq (ofNat n) (ofNat m)),p0 (body104 (onP 0 p0 (Rq n f m g q) L)) (st104 n f m g 0 (jk104 n f m g ))] (by kernel_rfl) (by simp only [hp0] <;> simp only [h0] <;> rfl)
theorem Ahz (h0:ieq (ofNat n) (ofNat m) = true) (hp0:p0 (body104 (onP 0 p0 (en104e n f m g q) L)) (st104 n f m g 0 (jk104 n f m g )) = true):(A2 (An tab ⟨Aq tb0,onP 0 p0 (en104e n f m g q) L,Gl⟩ Try.f104 [.sl 5 n (λi=>evV (f i)),.sl 5 m (λi=>evV (g i))] [])).sem = some ((bV true),[]):=Aa [false,true] [Ah (ieq (ofNat n) (ofNat m)),p0 (body104 (onP 0 p0 (en104e n f m g q) L)) (st104 n f m g 0 (jk104 n f m g ))] (by kernel_rfl) (by simp only [hp0] <;> simp only [h0] <;> rfl)
end
theorem run104 (L:LT) (n:Nat) (f:Nat->Ev5) (m:Nat) (g:Nat->Ev5) (hn:n <= 4611686018427387904) (hm:n = m):∀ (e b:Nat) (j:Nat->V) (q:Nat),n = b+e->e < q->(∀ k,k < b->FH (f k) (g k) = true) ->
  ((A8 (body104 L) (lp104 n f m g) q (st104 n f m g b j)).sem = some (Rq n f m g 0) ∧ (Ay n λk=>FH (f k) (g k)) = false) ∨ ((A8 (body104 L) (lp104 n f m g) q (st104 n f m g b j)).sem = some (en104e n f m g 0) ∧ (Ay n λk=>FH (f k) (g k)) = true)
 | 0,b,j,q+1,h,_,hb=>by
  have:n = b:=by omega
  subst this
  exact .inr ⟨Ad (AiI L n f m g n j (AF (Nat.le_refl _))),AJ.2 hb⟩
 | e+1,b,j,q+1,h,h2,hb=>by
  have hl:b < n:=by omega
  cases hp:FH (f b) (g b) with
  | false =>
   refine .inl ⟨?_,?_⟩
   ·rw [Ad (AiH L n f m g b j (ofNat_lt hl) (AK b) (ofNat_lt (by omega)) hp),EM]
    rfl
   ·cases ha:(Ay n λk=>FH (f k) (g k)) with
    | false=>rfl
    | true =>
     have:=AJ.1 ha b hl
     rw [hp] at this
     cases this
  | true =>
   have next:=run104 L n f m g hn hm e (b+1) (λ_=>.und) q (by omega) (by omega) λk hk=>by
    by_cases hki:k = b
    ·rw [hki]; exact hp
    ·exact hb k (by omega)
   rw [Ad (AiG L n f m g b j (ofNat_lt hl) (AK b) (ofNat_lt (by omega)) hp),Aw,Ao hl hn]
   exact next
theorem p104:AA Try.prog Gl 104 TU:=by
 refine A5 AQ AR Try.func104 (by kernel_rfl) (by kernel_rfl) λvs v h' h=>?_
 unfold TU at h
 split at h
 ·rename_i v1 u1
  obtain ⟨n,f,a1,h⟩:=CX h
  obtain ⟨m,g,a2,h⟩:=CX h
  obtain ⟨hn,h⟩:=Ag h
  have:=Ac h
  simp only [Prod.mk.injEq] at this
  obtain ⟨rfl,rfl⟩:=this
  have hA:BL [v1,u1] [NH Xm n f,NH Xm m g]:=λS w cs hv=>by
   obtain ⟨c,l,rfl,q1,c',l',rfl,q2,q3⟩:=hv
   exact ⟨c,_,rfl,a1 S w c q1,c',l',rfl,a2 S w c' q2,q3⟩
  have hx:=AS Ee [(0,lp104 n f m g)] (G:=Gl)
  have hL:=AL [(0,lp104 n f m g)]
  refine ⟨_,AT Gl tb0 [(0,lp104 n f m g)],_,hA,rfl,hx.1,hx.2,?_,AE.refl _⟩
  cases hl:ieq (ofNat n) (ofNat m) with
  | false =>
   rw [show Iu n f m g = false from GG hl]
   exact Ahx _ n f m g hl
  | true =>
   rw [show Iu n f m g = _ from B6 hl]
   have h0:=λL j=>run104 L n f m g (Kl hn) (GT hl) n 0 j (n+1) (by omega) (by omega) (λk hk=>absurd hk (Nat.not_lt_zero _))
   cases ha:(Ay n λk=>FH (f k) (g k)) with
   | false=>exact A6 (Az hL hL) _ (Ahy _ _ n f m g 0 hl (Am ((h0 _ _).elim (λh=>h.1) λh=>by have:=h.2; rw [ha] at this; cases this)))
   | true=>exact A6 (Az hL hL) _ (Ahz _ _ n f m g 0 hl (Am ((h0 _ _).elim (λh=>by have:=h.2; rw [ha] at this; cases this) λh=>h.1)))
 ·cases h
def Mq (n:Nat) (_:Nat->Int) (_:Nat) (_:Nat->Int):Lp:=⟨(bmK 26 0 [0,1,4,12,13]),0,bmK 26 0 [4],0,n+1⟩
def Kk (n:Nat) (f:Nat->Int) (m:Nat) (g:Nat->Int) (b:Nat) (j:Nat->V):St:=⟨(jsV 26 0 j [(0,.sl 1 n (λi=>iV (f i))),(1,.sl 1 m (λi=>iV (g i))),(4,bV false),(12,nV n),(13,nV b)]),[]⟩
def Ro (_:Nat) (_:Nat->Int) (_:Nat) (_:Nat->Int) (_:Nat):Ex × St:=(.rt,⟨(jsV 26 0 (λ_=>.und) [(4,bV false)]),[]⟩)
def Rp (_:Nat) (_:Nat->Int) (_:Nat) (_:Nat->Int) (_:Nat):Ex × St:=(.ex 0,⟨(jsV 26 0 (λ_=>.und) [(4,bV false)]),[]⟩)
noncomputable def F4 (L:LT):St->T (Ex × St):=λst=>AG tab ⟨Aq tb0,L,Gl⟩ (A1 Try.f105 0) 0 st
theorem AiF (L:LT) (n:Nat) (f:Nat->Int) (m:Nat) (g:Nat->Int) (b:Nat)  (j:Nat->V) (h0:ilt (ofNat b) (ofNat n) = false):Aj (F4 L) (Mq n f m g) (Kk n f m g b j) = some ((.ex 0),⟨(jsV 26 0 (λ_=>.und) [(4,(bV false))]),[]⟩):=Aa [false] [ilt (ofNat b) (ofNat n)] (by kernel_rfl) (by simp only [h0] <;> rfl)
section
variable (L:LT) (n:Nat) (f:Nat->Int) (m:Nat) (g:Nat->Int) (b:Nat) (j:Nat->V)
include L n f m g b j
theorem AiE (h0:ilt (ofNat b) (ofNat n) = true) (h17:ile 0 (ofNat b) = true) (h1:ilt (ofNat b) (ofNat m) = true) (h2:ieq (f b) (g b) = false):Aj (F4 L) (Mq n f m g) (Kk n f m g b j) = some (.rt,⟨(jsV 26 0 (λ_=>.und) [(4,(bV false))]),[]⟩):=Aa [true,true,true,true] [ilt (ofNat b) (ofNat n),Af (ile 0 (ofNat b)) (ilt (ofNat b) (ofNat n)),Af (ile 0 (ofNat b)) (ilt (ofNat b) (ofNat m)),Ah (ieq (f b) (g b))] (by kernel_rfl) (by simp only [*] <;> rfl)
theorem AiD (h0:ilt (ofNat b) (ofNat n) = true) (h17:ile 0 (ofNat b) = true) (h1:ilt (ofNat b) (ofNat m) = true) (h2:ieq (f b) (g b) = true):Aj (F4 L) (Mq n f m g) (Kk n f m g b j) = some (.nm,⟨(jsV 26 0 (λ_=>.und) [(0,(.sl 1 n (λi=>iV (f i)))),(1,(.sl 1 m (λi=>iV (g i)))),(4,(bV false)),(12,(nV n)),(13,(iV (wr .i64 (Ae (ofNat b) 1))))]),[]⟩):=Aa [true,true,true,false] [ilt (ofNat b) (ofNat n),Af (ile 0 (ofNat b)) (ilt (ofNat b) (ofNat n)),Af (ile 0 (ofNat b)) (ilt (ofNat b) (ofNat m)),Ah (ieq (f b) (g b))] (by kernel_rfl) (by simp only [*] <;> rfl)
end
def VN (n:Nat) (f:Nat->Int) (m:Nat) (g:Nat->Int) :Nat->V:=lkV A9 [(6,(.sl 1 n (λi=>iV (f i)))),(7,(nV n)),(8,(.sl 1 m (λi=>iV (g i)))),(9,(nV m)),(10,(bV (Ah (ieq (ofNat n) (ofNat m))))),(11,(.sl 1 n (λi=>iV (f i))))]
theorem Ahu (L:LT) (n:Nat) (f:Nat->Int) (m:Nat) (g:Nat->Int) (h0:ieq (ofNat n) (ofNat m) = false):(A2 (An tab ⟨Aq tb0,L,Gl⟩ Try.f105 [.sl 1 n (λi=>iV (f i)),.sl 1 m (λi=>iV (g i))] [])).sem = some ((bV false),[]):=Aa [true] [Ah (ieq (ofNat n) (ofNat m))] (by kernel_rfl) (by simp only [h0] <;> rfl)
section
variable (L:LT) (p0:PT) (n:Nat) (f:Nat->Int) (m:Nat) (g:Nat->Int) (q:Nat)
include L p0 n f m g q
theorem Ahv (h0:ieq (ofNat n) (ofNat m) = true) (hp0:p0 (F4 (onP 0 p0 (Ro n f m g q) L)) (Kk n f m g 0 (VN n f m g )) = true):(A2 (An tab ⟨Aq tb0,onP 0 p0 (Ro n f m g q) L,Gl⟩ Try.f105 [.sl 1 n (λi=>iV (f i)),.sl 1 m (λi=>iV (g i))] [])).sem = some ((bV false),[]):=Aa [false,true] [Ah (ieq (ofNat n) (ofNat m)),p0 (F4 (onP 0 p0 (Ro n f m g q) L)) (Kk n f m g 0 (VN n f m g ))] (by kernel_rfl) (by simp only [hp0] <;> simp only [h0] <;> rfl)
theorem Ahw (h0:ieq (ofNat n) (ofNat m) = true) (hp0:p0 (F4 (onP 0 p0 (Rp n f m g q) L)) (Kk n f m g 0 (VN n f m g )) = true):(A2 (An tab ⟨Aq tb0,onP 0 p0 (Rp n f m g q) L,Gl⟩ Try.f105 [.sl 1 n (λi=>iV (f i)),.sl 1 m (λi=>iV (g i))] [])).sem = some ((bV true),[]):=Aa [false,true] [Ah (ieq (ofNat n) (ofNat m)),p0 (F4 (onP 0 p0 (Rp n f m g q) L)) (Kk n f m g 0 (VN n f m g ))] (by kernel_rfl) (by simp only [hp0] <;> simp only [h0] <;> rfl)
end
theorem Y6 (L:LT) (n:Nat) (f:Nat->Int) (m:Nat) (g:Nat->Int) (hn:n <= 4611686018427387904) (hm:n = m):∀ (e b:Nat) (j:Nat->V) (q:Nat),n = b+e->e < q->(∀ k,k < b->ieq (f k) (g k) = true) ->
  ((A8 (F4 L) (Mq n f m g) q (Kk n f m g b j)).sem = some (Ro n f m g 0) ∧ (Ay n λk=>ieq (f k) (g k)) = false) ∨ ((A8 (F4 L) (Mq n f m g) q (Kk n f m g b j)).sem = some (Rp n f m g 0) ∧ (Ay n λk=>ieq (f k) (g k)) = true)
 | 0,b,j,q+1,h,_,hb=>by
  have:n = b:=by omega
  subst this
  exact .inr ⟨Ad (AiF L n f m g n j (AF (Nat.le_refl _))),AJ.2 hb⟩
 | e+1,b,j,q+1,h,h2,hb=>by
  have hl:b < n:=by omega
  cases hp:ieq (f b) (g b) with
  | false =>
   refine .inl ⟨?_,?_⟩
   ·rw [Ad (AiE L n f m g b j (ofNat_lt hl) (AK b) (ofNat_lt (by omega)) hp),EM]
    rfl
   ·cases ha:(Ay n λk=>ieq (f k) (g k)) with
    | false=>rfl
    | true =>
     have:=AJ.1 ha b hl
     rw [hp] at this
     cases this
  | true =>
   have next:=Y6 L n f m g hn hm e (b+1) (λ_=>.und) q (by omega) (by omega) λk hk=>by
    by_cases hki:k = b
    ·rw [hki]; exact hp
    ·exact hb k (by omega)
   rw [Ad (AiD L n f m g b j (ofNat_lt hl) (AK b) (ofNat_lt (by omega)) hp),Aw,Ao hl hn]
   exact next
theorem AiO:AA Try.prog Gl 105 Qs:=by
 refine A5 AQ AR Try.func105 (by kernel_rfl) (by kernel_rfl) λvs v h' h=>?_
 unfold Qs at h
 split at h
 ·rename_i v1 u1
  obtain ⟨n,f,a1,h⟩:=CX h
  obtain ⟨m,g,a2,h⟩:=CX h
  obtain ⟨hn,h⟩:=Ag h
  have:=Ac h
  simp only [Prod.mk.injEq] at this
  obtain ⟨rfl,rfl⟩:=this
  have hA:BL [v1,u1] [NH Xn n f,NH Xn m g]:=λS w cs hv=>by
   obtain ⟨c,l,rfl,q1,c',l',rfl,q2,q3⟩:=hv
   exact ⟨c,_,rfl,a1 S w c q1,c',l',rfl,a2 S w c' q2,q3⟩
  have hx:=AS Ee [(0,Mq n f m g)] (G:=Gl)
  have hL:=AL [(0,Mq n f m g)]
  refine ⟨_,AT Gl tb0 [(0,Mq n f m g)],_,hA,rfl,hx.1,hx.2,?_,AE.refl _⟩
  cases hl:ieq (ofNat n) (ofNat m) with
  | false =>
   rw [show CI n f m g = false from GG hl]
   exact Ahu _ n f m g hl
  | true =>
   rw [show CI n f m g = _ from B6 hl]
   have h0:=λL j=>Y6 L n f m g (Kl hn) (GT hl) n 0 j (n+1) (by omega) (by omega) (λk hk=>absurd hk (Nat.not_lt_zero _))
   cases ha:(Ay n λk=>ieq (f k) (g k)) with
   | false=>exact A6 (Az hL hL) _ (Ahv _ _ n f m g 0 hl (Am ((h0 _ _).elim (λh=>h.1) λh=>by have:=h.2; rw [ha] at this; cases this)))
   | true=>exact A6 (Az hL hL) _ (Ahw _ _ n f m g 0 hl (Am ((h0 _ _).elim (λh=>by have:=h.2; rw [ha] at this; cases this) λh=>h.1)))
 ·cases h
noncomputable def Pb:List (Nat × (List V->T (V × List Blk))):=[(105,Qs)]
theorem XT:AC Try.prog Gl Pb:=.cons AiO .nil
def Mp (n:Nat) (_:Nat->Nat) (_:Nat->Nat->Int) (_:Nat) (_:Nat->Nat) (_:Nat->Nat->Int):Lp:=⟨(bmK 32 0 [0,1,2,6,15,16,17]),0,bmK 32 0 [6],0,n+1⟩
def Kj (n:Nat) (ln:Nat->Nat) (co:Nat->Nat->Int) (m:Nat) (ln':Nat->Nat) (co':Nat->Nat->Int) (b:Nat) (j:Nat->V):St:=⟨(jsV 32 0 j [(0,.sl 1 n (λu=>.sl 1 (ln u) (λi=>iV (co u i)))),(1,.sl 1 m (λu=>.sl 1 (ln' u) (λi=>iV (co' u i)))),(2,.fn 105 []),(6,bV false),(15,.sl 1 n (λu=>.sl 1 (ln u) (λi=>iV (co u i)))),(16,nV n),(17,nV b)]),[]⟩
def Rm (_:Nat) (_:Nat->Nat) (_:Nat->Nat->Int) (_:Nat) (_:Nat->Nat) (_:Nat->Nat->Int) (_:Nat):Ex × St:=(.rt,⟨(jsV 32 0 (λ_=>.und) [(6,bV false)]),[]⟩)
def Rn (_:Nat) (_:Nat->Nat) (_:Nat->Nat->Int) (_:Nat) (_:Nat->Nat) (_:Nat->Nat->Int) (_:Nat):Ex × St:=(.ex 0,⟨(jsV 32 0 (λ_=>.und) [(6,bV false)]),[]⟩)
noncomputable def F3 (L:LT):St->T (Ex × St):=λst=>AG tab ⟨Aq Pb,L,Gl⟩ (A1 Try.f106 0) 0 st
section
variable (L:LT) (n:Nat) (ln:Nat->Nat) (co:Nat->Nat->Int) (m:Nat) (ln':Nat->Nat) (co':Nat->Nat->Int) (b:Nat)  (j:Nat->V)
include L n ln co m ln' co' b j
theorem AiC (h0:ilt (ofNat b) (ofNat n) = false):Aj (F3 L) (Mp n ln co m ln' co') (Kj n ln co m ln' co' b j) = some ((.ex 0),⟨(jsV 32 0 (λ_=>.und) [(6,(bV false))]),[]⟩):=Aa [false] [ilt (ofNat b) (ofNat n)] (by kernel_rfl) (by simp only [h0] <;> rfl)
theorem AiB (h0:ilt (ofNat b) (ofNat n) = true) (h17:ile 0 (ofNat b) = true) (h1:ilt (ofNat b) (ofNat m) = true) (h18:Ai (ln b) = true) (h2:CI (ln b) (co b) (ln' b) (co' b) = false):Aj (F3 L) (Mp n ln co m ln' co') (Kj n ln co m ln' co' b j) = some (.rt,⟨(jsV 32 0 (λ_=>.und) [(6,(bV false))]),[]⟩):=Aa (bbK 7 127) [ilt (ofNat b) (ofNat n),Af (ile 0 (ofNat b)) (ilt (ofNat b) (ofNat n)),Af (ile 0 (ofNat b)) (ilt (ofNat b) (ofNat m)),Ay (ln b) (λ_=>true),Ay (ln' b) (λ_=>true),Ai (ln b),Ah (CI (ln b) (co b) (ln' b) (co' b))] (by kernel_rfl) (by simp only [*,Ax] <;> rfl)
theorem AiA (h0:ilt (ofNat b) (ofNat n) = true) (h17:ile 0 (ofNat b) = true) (h1:ilt (ofNat b) (ofNat m) = true) (h18:Ai (ln b) = true) (h2:CI (ln b) (co b) (ln' b) (co' b) = true):Aj (F3 L) (Mp n ln co m ln' co') (Kj n ln co m ln' co' b j) = some (.nm,⟨(jsV 32 0 (λ_=>.und) [(0,(.sl 1 n (λu=>.sl 1 (ln u) (λi=>iV (co u i))))),(1,(.sl 1 m (λu=>.sl 1 (ln' u) (λi=>iV (co' u i))))),(2,(.fn 105 [])),(6,(bV false)),(15,(.sl 1 n (λu=>.sl 1 (ln u) (λi=>iV (co u i))))),(16,(nV n)),(17,(iV (wr .i64 (Ae (ofNat b) 1))))]),[]⟩):=Aa (bbK 7 63) [ilt (ofNat b) (ofNat n),Af (ile 0 (ofNat b)) (ilt (ofNat b) (ofNat n)),Af (ile 0 (ofNat b)) (ilt (ofNat b) (ofNat m)),Ay (ln b) (λ_=>true),Ay (ln' b) (λ_=>true),Ai (ln b),Ah (CI (ln b) (co b) (ln' b) (co' b))] (by kernel_rfl) (by simp only [*,Ax] <;> rfl)
end
def VM (n:Nat) (ln:Nat->Nat) (co:Nat->Nat->Int) (m:Nat) (ln':Nat->Nat) (co':Nat->Nat->Int) :Nat->V:=lkV A9 [(10,(.sl 1 n (λu=>.sl 1 (ln u) (λi=>iV (co u i))))),(11,(nV n)),(12,(.sl 1 m (λu=>.sl 1 (ln' u) (λi=>iV (co' u i))))),(13,(nV m)),(14,(bV (Ah (ieq (ofNat n) (ofNat m)))))]
theorem Ahr (L:LT) (n:Nat) (ln:Nat->Nat) (co:Nat->Nat->Int) (m:Nat) (ln':Nat->Nat) (co':Nat->Nat->Int) (h0:ieq (ofNat n) (ofNat m) = false):(A2 (An tab ⟨Aq Pb,L,Gl⟩ Try.f106 [.sl 1 n (λu=>.sl 1 (ln u) (λi=>iV (co u i))),.sl 1 m (λu=>.sl 1 (ln' u) (λi=>iV (co' u i))),.fn 105 []] [])).sem = some ((bV false),[]):=Aa [true] [Ah (ieq (ofNat n) (ofNat m))] (by kernel_rfl) (by simp only [h0] <;> rfl)
section
variable (L:LT) (p0:PT) (n:Nat) (ln:Nat->Nat) (co:Nat->Nat->Int) (m:Nat) (ln':Nat->Nat) (co':Nat->Nat->Int) (q:Nat)
include L p0 n ln co m ln' co' q
theorem Ahs (h0:ieq (ofNat n) (ofNat m) = true) (hp0:p0 (F3 (onP 0 p0 (Rm n ln co m ln' co' q) L)) (Kj n ln co m ln' co' 0 (VM n ln co m ln' co' )) = true):(A2 (An tab ⟨Aq Pb,onP 0 p0 (Rm n ln co m ln' co' q) L,Gl⟩ Try.f106 [.sl 1 n (λu=>.sl 1 (ln u) (λi=>iV (co u i))),.sl 1 m (λu=>.sl 1 (ln' u) (λi=>iV (co' u i))),.fn 105 []] [])).sem = some ((bV false),[]):=Aa [false,true] [Ah (ieq (ofNat n) (ofNat m)),p0 (F3 (onP 0 p0 (Rm n ln co m ln' co' q) L)) (Kj n ln co m ln' co' 0 (VM n ln co m ln' co' ))] (by kernel_rfl) (by simp only [hp0] <;> simp only [h0] <;> rfl)
theorem Aht (h0:ieq (ofNat n) (ofNat m) = true) (hp0:p0 (F3 (onP 0 p0 (Rn n ln co m ln' co' q) L)) (Kj n ln co m ln' co' 0 (VM n ln co m ln' co' )) = true):(A2 (An tab ⟨Aq Pb,onP 0 p0 (Rn n ln co m ln' co' q) L,Gl⟩ Try.f106 [.sl 1 n (λu=>.sl 1 (ln u) (λi=>iV (co u i))),.sl 1 m (λu=>.sl 1 (ln' u) (λi=>iV (co' u i))),.fn 105 []] [])).sem = some ((bV true),[]):=Aa [false,true] [Ah (ieq (ofNat n) (ofNat m)),p0 (F3 (onP 0 p0 (Rn n ln co m ln' co' q) L)) (Kj n ln co m ln' co' 0 (VM n ln co m ln' co' ))] (by kernel_rfl) (by simp only [hp0] <;> simp only [h0] <;> rfl)
end
theorem Y5 (L:LT) (n:Nat) (ln:Nat->Nat) (co:Nat->Nat->Int) (m:Nat) (ln':Nat->Nat) (co':Nat->Nat->Int) (hn:n <= 4611686018427387904) (hm:n = m) (hs:∀ k,k < n->Ai (ln k) = true):∀ (e b:Nat) (j:Nat->V) (q:Nat),n = b+e->e < q->(∀ k,k < b->CI (ln k) (co k) (ln' k) (co' k) = true) ->
  ((A8 (F3 L) (Mp n ln co m ln' co') q (Kj n ln co m ln' co' b j)).sem = some (Rm n ln co m ln' co' 0) ∧ (Ay n λk=>CI (ln k) (co k) (ln' k) (co' k)) = false) ∨ ((A8 (F3 L) (Mp n ln co m ln' co') q (Kj n ln co m ln' co' b j)).sem = some (Rn n ln co m ln' co' 0) ∧ (Ay n λk=>CI (ln k) (co k) (ln' k) (co' k)) = true)
 | 0,b,j,q+1,h,_,hb=>by
  have:n = b:=by omega
  subst this
  exact .inr ⟨Ad (AiC L n ln co m ln' co' n j (AF (Nat.le_refl _))),AJ.2 hb⟩
 | e+1,b,j,q+1,h,h2,hb=>by
  have hl:b < n:=by omega
  cases hp:CI (ln b) (co b) (ln' b) (co' b) with
  | false =>
   refine .inl ⟨?_,?_⟩
   ·rw [Ad (AiB L n ln co m ln' co' b j (ofNat_lt hl) (AK b) (ofNat_lt (by omega)) (hs b hl) hp),EM]
    rfl
   ·cases ha:(Ay n λk=>CI (ln k) (co k) (ln' k) (co' k)) with
    | false=>rfl
    | true =>
     have:=AJ.1 ha b hl
     rw [hp] at this
     cases this
  | true =>
   have next:=Y5 L n ln co m ln' co' hn hm hs e (b+1) (λ_=>.und) q (by omega) (by omega) λk hk=>by
    by_cases hki:k = b
    ·rw [hki]; exact hp
    ·exact hb k (by omega)
   rw [Ad (AiA L n ln co m ln' co' b j (ofNat_lt hl) (AK b) (ofNat_lt (by omega)) (hs b hl) hp),Aw,Ao hl hn]
   exact next
theorem Akn:AA Try.prog Gl 106 Qr:=by
 refine A5 AQ AR Try.func106 (by kernel_rfl) (by kernel_rfl) λvs v h' h=>?_
 unfold Qr at h
 split at h
 ·rename_i v1 u1
  obtain ⟨n,C,a1,h⟩:=CX h
  obtain ⟨m,D,a2,h⟩:=CX h
  obtain ⟨hn,h⟩:=Ag h
  obtain ⟨hs,h⟩:=Ag h
  have hs:=AJ.1 hs
  have:=Ac h
  simp only [Prod.mk.injEq] at this
  obtain ⟨rfl,rfl⟩:=this
  have hA:BL [v1,u1,.fn 105 []] [.sl 1 n (λu=>.sl 1 (C u).1 (λi=>iV ((C u).2 i))),.sl 1 m (λu=>.sl 1 (D u).1 (λi=>iV ((D u).2 i))),.fn 105 []]:=λS w cs hv=>by
   obtain ⟨c,l,rfl,q1,c',l',rfl,q2,q3⟩:=hv
   exact ⟨c,_,rfl,a1 S w c q1,c',l',rfl,a2 S w c' q2,q3⟩
  generalize hln:(λi=>(C i).1) = ln
  generalize hco:(λi=>(C i).2) = co
  generalize hln':(λi=>(D i).1) = ln'
  generalize hco':(λi=>(D i).2) = co'
  have hx:=AS XT [(0,Mp n ln co m ln' co')] (G:=Gl)
  have hL:=AL [(0,Mp n ln co m ln' co')]
  refine ⟨_,AT Gl Pb [(0,Mp n ln co m ln' co')],_,hA,rfl,hx.1,hx.2,?_,AE.refl _⟩
  have hs:∀ k,k < n->Ai (ln k) = true:=λk hk=>by rw [<- hln]; exact hs k hk
  have e1:∀ u,(C u).1 = ln u:=λu=>by rw [<- hln]
  have e2:∀ u,(C u).2 = co u:=λu=>by rw [<- hco]
  have e3:∀ u,(D u).1 = ln' u:=λu=>by rw [<- hln']
  have e4:∀ u,(D u).2 = co' u:=λu=>by rw [<- hco']
  simp only [e1,e2,e3,e4]
  cases hl:ieq (ofNat n) (ofNat m) with
  | false =>
   rw [show Gh n ln co m ln' co' = false from GG hl]
   exact Ahr _ n ln co m ln' co' hl
  | true =>
   rw [show Gh n ln co m ln' co' = _ from B6 hl]
   have h0:=λL j=>Y5 L n ln co m ln' co' (Kl hn) (GT hl) hs n 0 j (n+1) (by omega) (by omega) (λk hk=>absurd hk (Nat.not_lt_zero _))
   cases ha:(Ay n λk=>CI (ln k) (co k) (ln' k) (co' k)) with
   | false=>exact A6 (Az hL hL) _ (Ahs _ _ n ln co m ln' co' 0 hl (Am ((h0 _ _).elim (λh=>h.1) λh=>by have:=h.2; rw [ha] at this; cases this)))
   | true=>exact A6 (Az hL hL) _ (Aht _ _ n ln co m ln' co' 0 hl (Am ((h0 _ _).elim (λh=>by have:=h.2; rw [ha] at this; cases this) λh=>h.1)))
 ·cases h
noncomputable def Qc:List (Nat × (List V->T (V × List Blk))):=[(103,TV),(104,TU),(105,Qs),(106,Qr)]
theorem AaF:AC Try.prog Gl Qc:=.cons p103 <| .cons p104 <| .cons AiO <| .cons Akn .nil
theorem AaU (a b c d e i j k:Bool):Af a (Af b (Af c (Af d (Af e (Af i (Af j k)))))) = Af a (Af b (Af c (Af d (Af (Af e k) (Af i (Af j true)))))):=by
 cases a <;> cases b <;> cases c <;> cases d <;> cases e <;> cases i <;> cases j <;> cases k <;> rfl
section
variable (L:LT) (a:Int) (n:Nat) (g:Nat->E6) (m:Nat) (x:Nat->Ev5) (t k:Int) (p:Nat) (r:Nat->Int) (q:Nat) (ln:Nat->Nat) (co:Nat->Nat->Int) (a':Int) (n':Nat) (g':Nat->E6) (m':Nat) (x':Nat->Ev5) (t' k':Int) (p':Nat) (r':Nat->Int) (q':Nat) (ln':Nat->Nat) (co':Nat->Nat->Int)
include L a n g m x t k p r q ln co a' n' g' m' x' t' k' p' r' q' ln' co'
theorem Ahq (h0:ieq a a' = false):(A2 (An tab ⟨Aq Qc,L,Gl⟩ Try.f72 [.agg (shL a n g m x t k p r q ln co),.agg (shL a' n' g' m' x' t' k' p' r' q' ln' co')] [])).sem = some ((bV false),[]):=Aa (bbK 36 0) ((λc0 c1=>[c0,c0,c0,c0,c0,c0,c1,c1,c1,c1,c1,c1,c1,c1,c1,c1,c1,c1,c1,c1,c1,c1,c1,c1,c1,c1,c1,c1,c1,c1,c1,c1,c1,c1,c1,c1]) (ieq a a') (false)) (by kernel_rfl) (by simp only [h0] <;> rfl)
theorem Ahp (h0:ieq a a' = true) (h1:ieq t t' = false):(A2 (An tab ⟨Aq Qc,L,Gl⟩ Try.f72 [.agg (shL a n g m x t k p r q ln co),.agg (shL a' n' g' m' x' t' k' p' r' q' ln' co')] [])).sem = some ((bV false),[]):=Aa (bbK 36 63) ((λc0 c1 c2=>[c0,c0,c0,c0,c0,c0,c1,c1,c1,c1,c1,c1,c2,c2,c2,c2,c2,c2,c2,c2,c2,c2,c2,c2,c2,c2,c2,c2,c2,c2,c2,c2,c2,c2,c2,c2]) (ieq a a') (ieq t t') (false)) (by kernel_rfl) (by simp only [h0,h1] <;> rfl)
theorem Aho (h0:ieq a a' = true) (h1:ieq t t' = true) (h2:ieq k k' = false):(A2 (An tab ⟨Aq Qc,L,Gl⟩ Try.f72 [.agg (shL a n g m x t k p r q ln co),.agg (shL a' n' g' m' x' t' k' p' r' q' ln' co')] [])).sem = some ((bV false),[]):=Aa (bbK 36 4095) ((λc0 c1 c2 c3=>[c0,c0,c0,c0,c0,c0,c1,c1,c1,c1,c1,c1,c2,c2,c2,c2,c2,c2,c3,c3,c3,c3,c3,c3,c3,c3,c3,c3,c3,c3,c3,c3,c3,c3,c3,c3]) (ieq a a') (ieq t t') (ieq k k') (false)) (by kernel_rfl) (by simp only [*] <;> rfl)
theorem Ahn (h0:ieq a a' = true) (h1:ieq t t' = true) (h2:ieq k k' = true) (h18:Ai n = true) (h3:Dd n g n' g' = false):(A2 (An tab ⟨Aq Qc,L,Gl⟩ Try.f72 [.agg (shL a n g m x t k p r q ln co),.agg (shL a' n' g' m' x' t' k' p' r' q' ln' co')] [])).sem = some ((bV false),[]):=Aa (bbK 39 2097151) ((λc0 c1 c2 c3 c4=>[c0,c0,c0,c0,c0,c0,c1,c1,c1,c1,c1,c1,c2,c2,c2,c2,c2,Ay n (λ_=>true),Ay n' (λ_=>true),Ai n,c2,c3,c3,c3,c3,c3,c3,c4,c4,c4,c4,c4,c4,c4,c4,c4,c4,c4,c4]) (ieq a a') (ieq t t') (ieq k k') (Dd n g n' g') (false)) (by kernel_rfl) (by simp only [*,Ax] <;> rfl)
theorem Ahm (h0:ieq a a' = true) (h1:ieq t t' = true) (h2:ieq k k' = true) (h19:Ai n = true) (h3:Dd n g n' g' = true) (h20:Ai m = true) (h4:Iu m x m' x' = false):(A2 (An tab ⟨Aq Qc,L,Gl⟩ Try.f72 [.agg (shL a n g m x t k p r q ln co),.agg (shL a' n' g' m' x' t' k' p' r' q' ln' co')] [])).sem = some ((bV false),[]):=Aa (bbK 42 1073741823) ((λc0 c1 c2 c3 c4 c5=>[c0,c0,c0,c0,c0,c0,c1,c1,c1,c1,c1,c1,c2,c2,c2,c2,c2,Ay n (λ_=>true),Ay n' (λ_=>true),Ai n,c2,c3,c3,c3,c3,c3,Ay m (λ_=>true),Ay m' (λ_=>true),Ai m,c3,c4,c4,c4,c4,c4,c4,c5,c5,c5,c5,c5,c5]) (ieq a a') (ieq t t') (ieq k k') (Dd n g n' g') (Iu m x m' x') (false)) (by kernel_rfl) (by simp only [*,Ax] <;> rfl)
theorem Ahl (h0:ieq a a' = true) (h1:ieq t t' = true) (h2:ieq k k' = true) (h20:Ai n = true) (h3:Dd n g n' g' = true) (h21:Ai m = true) (h4:Iu m x m' x' = true) (h22:Ai p = true) (h5:CI p r p' r' = false):(A2 (An tab ⟨Aq Qc,L,Gl⟩ Try.f72 [.agg (shL a n g m x t k p r q ln co),.agg (shL a' n' g' m' x' t' k' p' r' q' ln' co')] [])).sem = some ((bV false),[]):=Aa (bbK 45 549755813887) ((λc0 c1 c2 c3 c4 c5=>[c0,c0,c0,c0,c0,c0,c1,c1,c1,c1,c1,c1,c2,c2,c2,c2,c2,Ay n (λ_=>true),Ay n' (λ_=>true),Ai n,c2,c3,c3,c3,c3,c3,Ay m (λ_=>true),Ay m' (λ_=>true),Ai m,c3,c4,c4,c4,c4,c4,Ay p (λ_=>true),Ay p' (λ_=>true),Ai p,c4,c5,c5,c5,c5,c5,c5]) (ieq a a') (ieq t t') (ieq k k') (Dd n g n' g') (Iu m x m' x') (CI p r p' r')) (by kernel_rfl) (by simp only [*,Ax] <;> rfl)
theorem AjD (h0:ieq a a' = true) (h1:ieq t t' = true) (h2:ieq k k' = true) (h21:Ai n = true) (h3:Dd n g n' g' = true) (h22:Ai m = true) (h4:Iu m x m' x' = true) (h23:Ai p = true) (h5:CI p r p' r' = true) (h24:Ay q (λi=>Ay (ln i) (λ_=>true)) = true) (h25:Ay q' (λi=>Ay (ln' i) (λ_=>true)) = true) (h26:Ai q = true) (h27:Ay q (λi=>Ai (ln i)) = true):(A2 (An tab ⟨Aq Qc,L,Gl⟩ Try.f72 [.agg (shL a n g m x t k p r q ln co),.agg (shL a' n' g' m' x' t' k' p' r' q' ln' co')] [])).sem = some ((bV (Gh q ln (λi i_1=>co i i_1) q' ln' (λi i_1=>co' i i_1))),[]):=Aa (bbK 49 562949953421311) ((λc0 c1 c2 c3 c4 c5=>[c0,c0,c0,c0,c0,c0,c1,c1,c1,c1,c1,c1,c2,c2,c2,c2,c2,Ay n (λ_=>true),Ay n' (λ_=>true),Ai n,c2,c3,c3,c3,c3,c3,Ay m (λ_=>true),Ay m' (λ_=>true),Ai m,c3,c4,c4,c4,c4,c4,Ay p (λ_=>true),Ay p' (λ_=>true),Ai p,c4,c5,c5,c5,c5,c5,Ay q (λi=>Ay (ln i) (λ_=>true)),Ay q' (λi=>Ay (ln' i) (λ_=>true)),Ai q,Ay q (λi=>Ai (ln i)),c5]) (ieq a a') (ieq t t') (ieq k k') (Dd n g n' g') (Iu m x m' x') (CI p r p' r')) (by kernel_rfl) (by simp only [*,Ax] <;> rfl)
end
theorem p72:AA Try.prog Gl 72 TS:=by
 refine A5 AQ AR Try.func72 (by kernel_rfl) (by kernel_rfl) λvs v h' h=>?_
 unfold TS at h
 split at h
 ·rename_i v1 u1
  obtain ⟨s,a1,h⟩:=FX h
  obtain ⟨s',a2,h⟩:=FX h
  obtain ⟨hn,h⟩:=Ag h
  have:=Ac h
  simp only [Prod.mk.injEq] at this
  obtain ⟨rfl,rfl⟩:=this
  obtain ⟨a,n,g,m,x,t,k,p,r,q,C⟩:=s
  obtain ⟨a',n',g',m',x',t',k',p',r',q',D⟩:=s'
  have hA:BL [v1,u1] [.agg [iV a,.sl 6 n (λi=>eV (g i)),.sl 5 m (λi=>evV (x i)),iV t,iV k,.sl 1 p (λi=>iV (r i)),.sl 1 q (λu=>.sl 1 (C u).1 (λi=>iV ((C u).2 i)))],
    .agg [iV a',.sl 6 n' (λi=>eV (g' i)),.sl 5 m' (λi=>evV (x' i)),iV t',iV k',.sl 1 p' (λi=>iV (r' i)),.sl 1 q' (λu=>.sl 1 (D u).1 (λi=>iV ((D u).2 i)))]]:=λS w cs hv=>by
   obtain ⟨c,l,rfl,q1,c',l',rfl,q2,q3⟩:=hv
   exact ⟨c,_,rfl,a1 S w c q1,c',l',rfl,a2 S w c' q2,q3⟩
  have hn:Ai n = true ∧ Ai m = true ∧ Ai p = true ∧ Ai q = true ∧ (Ay q λi=>Ai (C i).1) = true:=by simpa [Hw,Af] using hn
  obtain ⟨n1,n2,n3,n4,n5⟩:=hn
  unfold Nt
  dsimp only
  generalize hln:(λi=>(C i).1) = ln
  generalize hco:(λi=>(C i).2) = co
  generalize hln':(λi=>(D i).1) = ln'
  generalize hco':(λi=>(D i).2) = co'
  have hx:=AS AaF [] (G:=Gl)
  refine ⟨_,AT Gl Qc [],_,hA,rfl,hx.1,hx.2,?_,AE.refl _⟩
  have e1:∀ u,(C u).1 = ln u:=λu=>by rw [<- hln]
  have e2:∀ u,(C u).2 = co u:=λu=>by rw [<- hco]
  have e3:∀ u,(D u).1 = ln' u:=λu=>by rw [<- hln']
  have e4:∀ u,(D u).2 = co' u:=λu=>by rw [<- hco']
  simp only [e1,e2,e3,e4] at n5 ⊢
  have KU:∀ (q:Nat) (ln:Nat->Nat),(Ay q λi=>Ay (ln i) λ_=>true) = true:=λ_ _=>AJ.2 λ_ _=>AJ.2 λ_ _=>rfl
  rw [AaU,show (Af (ieq (ofNat m) (ofNat m')) (Ay m λk=>FH (x k) (x' k))) = Iu m x m' x' from rfl]
  cases c0:ieq a a' with
  | false=>rw [GG rfl]; exact Ahq _ a n g m x t k p r q ln co a' n' g' m' x' t' k' p' r' q' ln' co' c0
  | true =>
  rw [B6 rfl]
  cases c1:ieq t t' with
  | false=>rw [GG rfl]; exact Ahp _ a n g m x t k p r q ln co a' n' g' m' x' t' k' p' r' q' ln' co' c0 c1
  | true =>
  rw [B6 rfl]
  cases c2:ieq k k' with
  | false=>rw [GG rfl]; exact Aho _ a n g m x t k p r q ln co a' n' g' m' x' t' k' p' r' q' ln' co' c0 c1 c2
  | true =>
  rw [B6 rfl]
  cases c3:Dd n g n' g' with
  | false=>rw [GG rfl]; exact Ahn _ a n g m x t k p r q ln co a' n' g' m' x' t' k' p' r' q' ln' co' c0 c1 c2 n1 c3
  | true =>
  rw [B6 rfl]
  cases c4:Iu m x m' x' with
  | false=>rw [GG rfl]; exact Ahm _ a n g m x t k p r q ln co a' n' g' m' x' t' k' p' r' q' ln' co' c0 c1 c2 n1 c3 n2 c4
  | true =>
  rw [B6 rfl]
  cases c5:CI p r p' r' with
  | false=>rw [GG rfl]; exact Ahl _ a n g m x t k p r q ln co a' n' g' m' x' t' k' p' r' q' ln' co' c0 c1 c2 n1 c3 n2 c4 n3 c5
  | true =>
  rw [B6 rfl]
  rw [show Af (Gh q ln co q' ln' co') true = Gh q ln co q' ln' co' by cases Gh q ln co q' ln' co' <;> rfl]
  exact AjD _ a n g m x t k p r q ln co a' n' g' m' x' t' k' p' r' q' ln' co' c0 c1 c2 n1 c3 n2 c4 n3 c5 (KU _ _) (KU _ _) n4 n5
 ·cases h
end Go.Proofs.Ytjhnfomefcngfaa.Sh
