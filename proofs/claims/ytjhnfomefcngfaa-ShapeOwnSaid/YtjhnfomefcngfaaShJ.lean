/-
  Layer 7: whether shapes are the same, the program's (by slices.Equal). No conditions.
-/
import Derived.Test.YtjhnfomefcngfaaShZ
namespace Go.Proofs.Ytjhnfomefcngfaa.Sh
open Go.Sy Ed
open Int (ofNat)
set_option maxHeartbeats 1000000
set_option maxRecDepth 4000
theorem AaF {n:Nat} {f:Nat->E6} {m:Nat} {g:Nat->E6} (h:ieq (ofNat n) (ofNat m) = false):Bn n f m g = false:=by
  unfold Bn
  rw [h]
  rfl
theorem Zo {a b:E6}:eqE a b = true ↔ a = b:=by
  have h:=@MS 1 (fun _=>a) 1 (fun _=>b)
  have e:Bn 1 (fun _=>a) 1 (fun _=>b) = eqE a b:=by
    show sel (eqE a b) true false = _
    cases eqE a b <;> rfl
  rw [e] at h
  exact ⟨fun hh=>(h.1 hh).2 0 (by omega),fun hh=>h.2 ⟨rfl,fun _ _=>hh⟩⟩
theorem AaE {n:Nat} {f:Nat->E6} {m:Nat} {g:Nat->E6} (h:ieq (ofNat n) (ofNat m) = true):Bn n f m g = An n fun k=>eqE (f k) (g k):=by
  rw [Bool.eq_iff_iff,MS,AA]
  exact ⟨fun hh k hk=>Zo.2 (hh.2 k hk),fun hh=>⟨DG h,fun k hk=>Zo.1 (hh k hk)⟩⟩
def HV (n:Nat) (f:Nat->Ev5) (m:Nat) (g:Nat->Ev5):Bool:=Af (ieq (ofNat n) (ofNat m)) (An n fun k=>Co (f k) (g k))
def T2:List V->T (V × List Blk)
  | [v,u]=>apG WS v fun n f=>apG WS u fun m g=>.br (Ah n) (.leaf (bV (Bn n f m g),[])) .fail
  | _=>.fail
def T1:List V->T (V × List Blk)
  | [v,u]=>apG WP v fun n f=>apG WP u fun m g=>.br (Ah n) (.leaf (bV (HV n f m g),[])) .fail
  | _=>.fail
def PR:List V->T (V × List Blk)
  | [v,u,.fn 105 []]=>apG WQ v fun n C=>apG WQ u fun m D=>.br (Ah n) (.br (An n fun i=>Ah (C i).1) (.leaf (bV (BM n (fun i=>(C i).1) (fun i=>(C i).2) m (fun i=>(D i).1) (fun i=>(D i).2)),[])) .fail) .fail
  | _=>.fail
def lp103 (n:Nat) (_:Nat->E6) (_:Nat) (_:Nat->E6):Lp:=⟨(bmK 26 0 [0,1,4,12,13]),0,bmK 26 0 [4],0,n+1⟩
def st103 (n:Nat) (f:Nat->E6) (m:Nat) (g:Nat->E6) (b:Nat) (j:Nat->V):St:=⟨(jsV 26 0 j [(0,.sl 6 n (fun i=>eV (f i))),(1,.sl 6 m (fun i=>eV (g i))),(4,bV false),(12,nV n),(13,nV b)]),[]⟩
def en103f (_:Nat) (_:Nat->E6) (_:Nat) (_:Nat->E6) (_:Nat):Ex × St:=(.rt,⟨(jsV 26 0 (fun _=>.und) [(4,bV false)]),[]⟩)
def en103e (_:Nat) (_:Nat->E6) (_:Nat) (_:Nat->E6) (_:Nat):Ex × St:=(.ex 0,⟨(jsV 26 0 (fun _=>.und) [(4,bV false)]),[]⟩)
noncomputable def body103 (L:LT):St->T (Ex × St):=fun st=>A9 tab ⟨Ao tb0,L,Gl⟩ (Av Try.f103 0) 0 st
theorem Aiz (L:LT) (n:Nat) (f:Nat->E6) (m:Nat) (g:Nat->E6) (b:Nat)  (j:Nat->V) (h0:ilt (ofNat b) (ofNat n) = false):Ai (body103 L) (lp103 n f m g) (st103 n f m g b j) = some ((.ex 0),⟨(jsV 26 0 (fun _=>.und) [(4,(bV false))]),[]⟩):=Aa [false] [ilt (ofNat b) (ofNat n)] (by kernel_rfl) (by simp only [h0] <;> rfl)
section
variable (L:LT) (n:Nat) (f:Nat->E6) (m:Nat) (g:Nat->E6) (b:Nat) (j:Nat->V)
include L n f m g b j
theorem Aiy (h0:ilt (ofNat b) (ofNat n) = true) (h17:ile 0 (ofNat b) = true) (h1:ilt (ofNat b) (ofNat m) = true) (h2:eqE (f b) (g b) = false):Ai (body103 L) (lp103 n f m g) (st103 n f m g b j) = some (.rt,⟨(jsV 26 0 (fun _=>.und) [(4,(bV false))]),[]⟩):=Aa [true,true,true,true] [ilt (ofNat b) (ofNat n),Af (ile 0 (ofNat b)) (ilt (ofNat b) (ofNat n)),Af (ile 0 (ofNat b)) (ilt (ofNat b) (ofNat m)),Am (eqE (f b) (g b))] (by kernel_rfl) (by simp only [*] <;> rfl)
theorem Aix (h0:ilt (ofNat b) (ofNat n) = true) (h17:ile 0 (ofNat b) = true) (h1:ilt (ofNat b) (ofNat m) = true) (h2:eqE (f b) (g b) = true):Ai (body103 L) (lp103 n f m g) (st103 n f m g b j) = some (.nm,⟨(jsV 26 0 (fun _=>.und) [(0,(.sl 6 n (fun i=>eV (f i)))),(1,(.sl 6 m (fun i=>eV (g i)))),(4,(bV false)),(12,(nV n)),(13,(iV (wr .i64 (Ae (ofNat b) 1))))]),[]⟩):=Aa [true,true,true,false] [ilt (ofNat b) (ofNat n),Af (ile 0 (ofNat b)) (ilt (ofNat b) (ofNat n)),Af (ile 0 (ofNat b)) (ilt (ofNat b) (ofNat m)),Am (eqE (f b) (g b))] (by kernel_rfl) (by simp only [*] <;> rfl)
end
def jk103 (n:Nat) (f:Nat->E6) (m:Nat) (g:Nat->E6) :Nat->V:=lkV A7 [(6,(.sl 6 n (fun i=>eV (f i)))),(7,(nV n)),(8,(.sl 6 m (fun i=>eV (g i)))),(9,(nV m)),(10,(bV (Am (ieq (ofNat n) (ofNat m))))),(11,(.sl 6 n (fun i=>eV (f i))))]
theorem Ahe (L:LT) (n:Nat) (f:Nat->E6) (m:Nat) (g:Nat->E6) (h0:ieq (ofNat n) (ofNat m) = false):(A1 (Al tab ⟨Ao tb0,L,Gl⟩ Try.f103 [.sl 6 n (fun i=>eV (f i)),.sl 6 m (fun i=>eV (g i))] [])).sem = some ((bV false),[]):=Aa [true] [Am (ieq (ofNat n) (ofNat m))] (by kernel_rfl) (by simp only [h0] <;> rfl)
section
variable (L:LT) (p0:PT) (n:Nat) (f:Nat->E6) (m:Nat) (g:Nat->E6) (q:Nat)
include L p0 n f m g q
theorem Ahf (h0:ieq (ofNat n) (ofNat m) = true) (hp0:p0 (body103 (onP 0 p0 (en103f n f m g q) L)) (st103 n f m g 0 (jk103 n f m g )) = true):(A1 (Al tab ⟨Ao tb0,onP 0 p0 (en103f n f m g q) L,Gl⟩ Try.f103 [.sl 6 n (fun i=>eV (f i)),.sl 6 m (fun i=>eV (g i))] [])).sem = some ((bV false),[]):=Aa [false,true] [Am (ieq (ofNat n) (ofNat m)),p0 (body103 (onP 0 p0 (en103f n f m g q) L)) (st103 n f m g 0 (jk103 n f m g ))] (by kernel_rfl) (by simp only [hp0] <;> simp only [h0] <;> rfl)
theorem Ahg (h0:ieq (ofNat n) (ofNat m) = true) (hp0:p0 (body103 (onP 0 p0 (en103e n f m g q) L)) (st103 n f m g 0 (jk103 n f m g )) = true):(A1 (Al tab ⟨Ao tb0,onP 0 p0 (en103e n f m g q) L,Gl⟩ Try.f103 [.sl 6 n (fun i=>eV (f i)),.sl 6 m (fun i=>eV (g i))] [])).sem = some ((bV true),[]):=Aa [false,true] [Am (ieq (ofNat n) (ofNat m)),p0 (body103 (onP 0 p0 (en103e n f m g q) L)) (st103 n f m g 0 (jk103 n f m g ))] (by kernel_rfl) (by simp only [hp0] <;> simp only [h0] <;> rfl)
end
theorem run103 (L:LT) (n:Nat) (f:Nat->E6) (m:Nat) (g:Nat->E6) (hn:n <= 4611686018427387904) (hm:n = m):∀ (e b:Nat) (j:Nat->V) (q:Nat),n = b+e->e < q->(∀ k,k < b->eqE (f k) (g k) = true) ->
    ((A3 (body103 L) (lp103 n f m g) q (st103 n f m g b j)).sem = some (en103f n f m g 0) ∧ (An n fun k=>eqE (f k) (g k)) = false) ∨ ((A3 (body103 L) (lp103 n f m g) q (st103 n f m g b j)).sem = some (en103e n f m g 0) ∧ (An n fun k=>eqE (f k) (g k)) = true)
  | 0,b,j,q+1,h,_,hb=>by
    have:n = b:=by omega
    subst this
    exact .inr ⟨Ab (Aiz L n f m g n j (A8 (Nat.le_refl _))),AA.2 hb⟩
  | e+1,b,j,q+1,h,h2,hb=>by
    have hl:b < n:=by omega
    cases hp:eqE (f b) (g b) with
    | false =>
      refine .inl ⟨?_,?_⟩
      · rw [Ab (Aiy L n f m g b j (ofNat_lt hl) (AJ b) (ofNat_lt (by omega)) hp),Dm]
        rfl
      · cases ha:(An n fun k=>eqE (f k) (g k)) with
        | false=>rfl
        | true =>
          have:=AA.1 ha b hl
          rw [hp] at this
          cases this
    | true =>
      have next:=run103 L n f m g hn hm e (b+1) (fun _=>.und) q (by omega) (by omega) fun k hk=>by
        by_cases hki:k = b
        · rw [hki]; exact hp
        · exact hb k (by omega)
      rw [Ab (Aix L n f m g b j (ofNat_lt hl) (AJ b) (ofNat_lt (by omega)) hp),Aw,Aq hl hn]
      exact next
theorem p103:AD Try.prog Gl 103 T2:=by
  refine A5 AO AP Try.func103 (by kernel_rfl) (by kernel_rfl) fun vs v h' h=>?_
  unfold T2 at h
  split at h
  · rename_i v1 u1
    obtain ⟨n,f,a1,h⟩:=BV h
    obtain ⟨m,g,a2,h⟩:=BV h
    obtain ⟨hn,h⟩:=Ag h
    have:=Ac h
    simp only [Prod.mk.injEq] at this
    obtain ⟨rfl,rfl⟩:=this
    have hA:BA [v1,u1] [Np WS n f,Np WS m g]:=fun S w cs hv=>by
      obtain ⟨c,l,rfl,q1,c',l',rfl,q2,q3⟩:=hv
      exact ⟨c,_,rfl,a1 S w c q1,c',l',rfl,a2 S w c' q2,q3⟩
    have hx:=AQ CU [(0,lp103 n f m g)] (G:=Gl)
    have hL:=AC [(0,lp103 n f m g)]
    refine ⟨_,AR Gl tb0 [(0,lp103 n f m g)],_,hA,rfl,hx.1,hx.2,?_,AB.refl _⟩
    cases hl:ieq (ofNat n) (ofNat m) with
    | false =>
      rw [show Bn n f m g = false from AaF hl]
      exact Ahe _ n f m g hl
    | true =>
      rw [show Bn n f m g = _ from AaE hl]
      have h0:=fun L j=>run103 L n f m g (Fx hn) (DG hl) n 0 j (n+1) (by omega) (by omega) (fun k hk=>absurd hk (Nat.not_lt_zero _))
      cases ha:(An n fun k=>eqE (f k) (g k)) with
      | false=>exact A6 (Ax hL hL) _ (Ahf _ _ n f m g 0 hl (Ak ((h0 _ _).elim (fun h=>h.1) fun h=>by have:=h.2; rw [ha] at this; cases this)))
      | true=>exact A6 (Ax hL hL) _ (Ahg _ _ n f m g 0 hl (Ak ((h0 _ _).elim (fun h=>by have:=h.2; rw [ha] at this; cases this) fun h=>h.1)))
  · cases h
def lp104 (n:Nat) (_:Nat->Ev5) (_:Nat) (_:Nat->Ev5):Lp:=⟨(bmK 26 0 [0,1,4,12,13]),0,bmK 26 0 [4],0,n+1⟩
def st104 (n:Nat) (f:Nat->Ev5) (m:Nat) (g:Nat->Ev5) (b:Nat) (j:Nat->V):St:=⟨(jsV 26 0 j [(0,.sl 5 n (fun i=>evV (f i))),(1,.sl 5 m (fun i=>evV (g i))),(4,bV false),(12,nV n),(13,nV b)]),[]⟩
def QN (_:Nat) (_:Nat->Ev5) (_:Nat) (_:Nat->Ev5) (_:Nat):Ex × St:=(.rt,⟨(jsV 26 0 (fun _=>.und) [(4,bV false)]),[]⟩)
def en104e (_:Nat) (_:Nat->Ev5) (_:Nat) (_:Nat->Ev5) (_:Nat):Ex × St:=(.ex 0,⟨(jsV 26 0 (fun _=>.und) [(4,bV false)]),[]⟩)
noncomputable def body104 (L:LT):St->T (Ex × St):=fun st=>A9 tab ⟨Ao tb0,L,Gl⟩ (Av Try.f104 0) 0 st
theorem Aiw (L:LT) (n:Nat) (f:Nat->Ev5) (m:Nat) (g:Nat->Ev5) (b:Nat)  (j:Nat->V) (h0:ilt (ofNat b) (ofNat n) = false):Ai (body104 L) (lp104 n f m g) (st104 n f m g b j) = some ((.ex 0),⟨(jsV 26 0 (fun _=>.und) [(4,(bV false))]),[]⟩):=Aa [false] [ilt (ofNat b) (ofNat n)] (by kernel_rfl) (by simp only [h0] <;> rfl)
section
variable (L:LT) (n:Nat) (f:Nat->Ev5) (m:Nat) (g:Nat->Ev5) (b:Nat) (j:Nat->V)
include L n f m g b j
theorem Aiv (h0:ilt (ofNat b) (ofNat n) = true) (h17:ile 0 (ofNat b) = true) (h1:ilt (ofNat b) (ofNat m) = true) (h2:Af (ieq ((f b)).th ((g b)).th) (Af (ieq ((f b)).pl ((g b)).pl) (Af (ieq ((f b)).dir ((g b)).dir) (Af (ieq ((f b)).loc ((g b)).loc) (Af (ieq ((f b)).val ((g b)).val) true)))) = false):Ai (body104 L) (lp104 n f m g) (st104 n f m g b j) = some (.rt,⟨(jsV 26 0 (fun _=>.und) [(4,(bV false))]),[]⟩):=Aa [true,true,true,true] [ilt (ofNat b) (ofNat n),Af (ile 0 (ofNat b)) (ilt (ofNat b) (ofNat n)),Af (ile 0 (ofNat b)) (ilt (ofNat b) (ofNat m)),Am (Af (ieq ((f b)).th ((g b)).th) (Af (ieq ((f b)).pl ((g b)).pl) (Af (ieq ((f b)).dir ((g b)).dir) (Af (ieq ((f b)).loc ((g b)).loc) (Af (ieq ((f b)).val ((g b)).val) true)))))] (by kernel_rfl) (by simp only [h2] <;> simp only [*] <;> rfl)
theorem Aiu (h0:ilt (ofNat b) (ofNat n) = true) (h17:ile 0 (ofNat b) = true) (h1:ilt (ofNat b) (ofNat m) = true) (h2:Af (ieq ((f b)).th ((g b)).th) (Af (ieq ((f b)).pl ((g b)).pl) (Af (ieq ((f b)).dir ((g b)).dir) (Af (ieq ((f b)).loc ((g b)).loc) (Af (ieq ((f b)).val ((g b)).val) true)))) = true):Ai (body104 L) (lp104 n f m g) (st104 n f m g b j) = some (.nm,⟨(jsV 26 0 (fun _=>.und) [(0,(.sl 5 n (fun i=>evV (f i)))),(1,(.sl 5 m (fun i=>evV (g i)))),(4,(bV false)),(12,(nV n)),(13,(iV (wr .i64 (Ae (ofNat b) 1))))]),[]⟩):=Aa [true,true,true,false] [ilt (ofNat b) (ofNat n),Af (ile 0 (ofNat b)) (ilt (ofNat b) (ofNat n)),Af (ile 0 (ofNat b)) (ilt (ofNat b) (ofNat m)),Am (Af (ieq ((f b)).th ((g b)).th) (Af (ieq ((f b)).pl ((g b)).pl) (Af (ieq ((f b)).dir ((g b)).dir) (Af (ieq ((f b)).loc ((g b)).loc) (Af (ieq ((f b)).val ((g b)).val) true)))))] (by kernel_rfl) (by simp only [h2] <;> simp only [*] <;> rfl)
end
def jk104 (n:Nat) (f:Nat->Ev5) (m:Nat) (g:Nat->Ev5) :Nat->V:=lkV A7 [(6,(.sl 5 n (fun i=>evV (f i)))),(7,(nV n)),(8,(.sl 5 m (fun i=>evV (g i)))),(9,(nV m)),(10,(bV (Am (ieq (ofNat n) (ofNat m))))),(11,(.sl 5 n (fun i=>evV (f i))))]
theorem Ahb (L:LT) (n:Nat) (f:Nat->Ev5) (m:Nat) (g:Nat->Ev5) (h0:ieq (ofNat n) (ofNat m) = false):(A1 (Al tab ⟨Ao tb0,L,Gl⟩ Try.f104 [.sl 5 n (fun i=>evV (f i)),.sl 5 m (fun i=>evV (g i))] [])).sem = some ((bV false),[]):=Aa [true] [Am (ieq (ofNat n) (ofNat m))] (by kernel_rfl) (by simp only [h0] <;> rfl)
section
variable (L:LT) (p0:PT) (n:Nat) (f:Nat->Ev5) (m:Nat) (g:Nat->Ev5) (q:Nat)
include L p0 n f m g q
theorem Ahc (h0:ieq (ofNat n) (ofNat m) = true) (hp0:p0 (body104 (onP 0 p0 (QN n f m g q) L)) (st104 n f m g 0 (jk104 n f m g )) = true):(A1 (Al tab ⟨Ao tb0,onP 0 p0 (QN n f m g q) L,Gl⟩ Try.f104 [.sl 5 n (fun i=>evV (f i)),.sl 5 m (fun i=>evV (g i))] [])).sem = some ((bV false),[]):=Aa [false,true] [Am (ieq (ofNat n) (ofNat m)),p0 (body104 (onP 0 p0 (QN n f m g q) L)) (st104 n f m g 0 (jk104 n f m g ))] (by kernel_rfl) (by simp only [hp0] <;> simp only [h0] <;> rfl)
theorem Ahd (h0:ieq (ofNat n) (ofNat m) = true) (hp0:p0 (body104 (onP 0 p0 (en104e n f m g q) L)) (st104 n f m g 0 (jk104 n f m g )) = true):(A1 (Al tab ⟨Ao tb0,onP 0 p0 (en104e n f m g q) L,Gl⟩ Try.f104 [.sl 5 n (fun i=>evV (f i)),.sl 5 m (fun i=>evV (g i))] [])).sem = some ((bV true),[]):=Aa [false,true] [Am (ieq (ofNat n) (ofNat m)),p0 (body104 (onP 0 p0 (en104e n f m g q) L)) (st104 n f m g 0 (jk104 n f m g ))] (by kernel_rfl) (by simp only [hp0] <;> simp only [h0] <;> rfl)
end
theorem run104 (L:LT) (n:Nat) (f:Nat->Ev5) (m:Nat) (g:Nat->Ev5) (hn:n <= 4611686018427387904) (hm:n = m):∀ (e b:Nat) (j:Nat->V) (q:Nat),n = b+e->e < q->(∀ k,k < b->Co (f k) (g k) = true) ->
    ((A3 (body104 L) (lp104 n f m g) q (st104 n f m g b j)).sem = some (QN n f m g 0) ∧ (An n fun k=>Co (f k) (g k)) = false) ∨ ((A3 (body104 L) (lp104 n f m g) q (st104 n f m g b j)).sem = some (en104e n f m g 0) ∧ (An n fun k=>Co (f k) (g k)) = true)
  | 0,b,j,q+1,h,_,hb=>by
    have:n = b:=by omega
    subst this
    exact .inr ⟨Ab (Aiw L n f m g n j (A8 (Nat.le_refl _))),AA.2 hb⟩
  | e+1,b,j,q+1,h,h2,hb=>by
    have hl:b < n:=by omega
    cases hp:Co (f b) (g b) with
    | false =>
      refine .inl ⟨?_,?_⟩
      · rw [Ab (Aiv L n f m g b j (ofNat_lt hl) (AJ b) (ofNat_lt (by omega)) hp),Dm]
        rfl
      · cases ha:(An n fun k=>Co (f k) (g k)) with
        | false=>rfl
        | true =>
          have:=AA.1 ha b hl
          rw [hp] at this
          cases this
    | true =>
      have next:=run104 L n f m g hn hm e (b+1) (fun _=>.und) q (by omega) (by omega) fun k hk=>by
        by_cases hki:k = b
        · rw [hki]; exact hp
        · exact hb k (by omega)
      rw [Ab (Aiu L n f m g b j (ofNat_lt hl) (AJ b) (ofNat_lt (by omega)) hp),Aw,Aq hl hn]
      exact next
theorem p104:AD Try.prog Gl 104 T1:=by
  refine A5 AO AP Try.func104 (by kernel_rfl) (by kernel_rfl) fun vs v h' h=>?_
  unfold T1 at h
  split at h
  · rename_i v1 u1
    obtain ⟨n,f,a1,h⟩:=BV h
    obtain ⟨m,g,a2,h⟩:=BV h
    obtain ⟨hn,h⟩:=Ag h
    have:=Ac h
    simp only [Prod.mk.injEq] at this
    obtain ⟨rfl,rfl⟩:=this
    have hA:BA [v1,u1] [Np WP n f,Np WP m g]:=fun S w cs hv=>by
      obtain ⟨c,l,rfl,q1,c',l',rfl,q2,q3⟩:=hv
      exact ⟨c,_,rfl,a1 S w c q1,c',l',rfl,a2 S w c' q2,q3⟩
    have hx:=AQ CU [(0,lp104 n f m g)] (G:=Gl)
    have hL:=AC [(0,lp104 n f m g)]
    refine ⟨_,AR Gl tb0 [(0,lp104 n f m g)],_,hA,rfl,hx.1,hx.2,?_,AB.refl _⟩
    cases hl:ieq (ofNat n) (ofNat m) with
    | false =>
      rw [show HV n f m g = false from C7 hl]
      exact Ahb _ n f m g hl
    | true =>
      rw [show HV n f m g = _ from By hl]
      have h0:=fun L j=>run104 L n f m g (Fx hn) (DG hl) n 0 j (n+1) (by omega) (by omega) (fun k hk=>absurd hk (Nat.not_lt_zero _))
      cases ha:(An n fun k=>Co (f k) (g k)) with
      | false=>exact A6 (Ax hL hL) _ (Ahc _ _ n f m g 0 hl (Ak ((h0 _ _).elim (fun h=>h.1) fun h=>by have:=h.2; rw [ha] at this; cases this)))
      | true=>exact A6 (Ax hL hL) _ (Ahd _ _ n f m g 0 hl (Ak ((h0 _ _).elim (fun h=>by have:=h.2; rw [ha] at this; cases this) fun h=>h.1)))
  · cases h
def LU (n:Nat) (_:Nat->Int) (_:Nat) (_:Nat->Int):Lp:=⟨(bmK 26 0 [0,1,4,12,13]),0,bmK 26 0 [4],0,n+1⟩
def JT (n:Nat) (f:Nat->Int) (m:Nat) (g:Nat->Int) (b:Nat) (j:Nat->V):St:=⟨(jsV 26 0 j [(0,.sl 1 n (fun i=>iV (f i))),(1,.sl 1 m (fun i=>iV (g i))),(4,bV false),(12,nV n),(13,nV b)]),[]⟩
def QL (_:Nat) (_:Nat->Int) (_:Nat) (_:Nat->Int) (_:Nat):Ex × St:=(.rt,⟨(jsV 26 0 (fun _=>.und) [(4,bV false)]),[]⟩)
def QM (_:Nat) (_:Nat->Int) (_:Nat) (_:Nat->Int) (_:Nat):Ex × St:=(.ex 0,⟨(jsV 26 0 (fun _=>.und) [(4,bV false)]),[]⟩)
noncomputable def Fk (L:LT):St->T (Ex × St):=fun st=>A9 tab ⟨Ao tb0,L,Gl⟩ (Av Try.f105 0) 0 st
theorem Ait (L:LT) (n:Nat) (f:Nat->Int) (m:Nat) (g:Nat->Int) (b:Nat)  (j:Nat->V) (h0:ilt (ofNat b) (ofNat n) = false):Ai (Fk L) (LU n f m g) (JT n f m g b j) = some ((.ex 0),⟨(jsV 26 0 (fun _=>.und) [(4,(bV false))]),[]⟩):=Aa [false] [ilt (ofNat b) (ofNat n)] (by kernel_rfl) (by simp only [h0] <;> rfl)
section
variable (L:LT) (n:Nat) (f:Nat->Int) (m:Nat) (g:Nat->Int) (b:Nat) (j:Nat->V)
include L n f m g b j
theorem Ais (h0:ilt (ofNat b) (ofNat n) = true) (h17:ile 0 (ofNat b) = true) (h1:ilt (ofNat b) (ofNat m) = true) (h2:ieq (f b) (g b) = false):Ai (Fk L) (LU n f m g) (JT n f m g b j) = some (.rt,⟨(jsV 26 0 (fun _=>.und) [(4,(bV false))]),[]⟩):=Aa [true,true,true,true] [ilt (ofNat b) (ofNat n),Af (ile 0 (ofNat b)) (ilt (ofNat b) (ofNat n)),Af (ile 0 (ofNat b)) (ilt (ofNat b) (ofNat m)),Am (ieq (f b) (g b))] (by kernel_rfl) (by simp only [*] <;> rfl)
theorem Air (h0:ilt (ofNat b) (ofNat n) = true) (h17:ile 0 (ofNat b) = true) (h1:ilt (ofNat b) (ofNat m) = true) (h2:ieq (f b) (g b) = true):Ai (Fk L) (LU n f m g) (JT n f m g b j) = some (.nm,⟨(jsV 26 0 (fun _=>.und) [(0,(.sl 1 n (fun i=>iV (f i)))),(1,(.sl 1 m (fun i=>iV (g i)))),(4,(bV false)),(12,(nV n)),(13,(iV (wr .i64 (Ae (ofNat b) 1))))]),[]⟩):=Aa [true,true,true,false] [ilt (ofNat b) (ofNat n),Af (ile 0 (ofNat b)) (ilt (ofNat b) (ofNat n)),Af (ile 0 (ofNat b)) (ilt (ofNat b) (ofNat m)),Am (ieq (f b) (g b))] (by kernel_rfl) (by simp only [*] <;> rfl)
end
def Vu (n:Nat) (f:Nat->Int) (m:Nat) (g:Nat->Int) :Nat->V:=lkV A7 [(6,(.sl 1 n (fun i=>iV (f i)))),(7,(nV n)),(8,(.sl 1 m (fun i=>iV (g i)))),(9,(nV m)),(10,(bV (Am (ieq (ofNat n) (ofNat m))))),(11,(.sl 1 n (fun i=>iV (f i))))]
theorem AgY (L:LT) (n:Nat) (f:Nat->Int) (m:Nat) (g:Nat->Int) (h0:ieq (ofNat n) (ofNat m) = false):(A1 (Al tab ⟨Ao tb0,L,Gl⟩ Try.f105 [.sl 1 n (fun i=>iV (f i)),.sl 1 m (fun i=>iV (g i))] [])).sem = some ((bV false),[]):=Aa [true] [Am (ieq (ofNat n) (ofNat m))] (by kernel_rfl) (by simp only [h0] <;> rfl)
section
variable (L:LT) (p0:PT) (n:Nat) (f:Nat->Int) (m:Nat) (g:Nat->Int) (q:Nat)
include L p0 n f m g q
theorem AgZ (h0:ieq (ofNat n) (ofNat m) = true) (hp0:p0 (Fk (onP 0 p0 (QL n f m g q) L)) (JT n f m g 0 (Vu n f m g )) = true):(A1 (Al tab ⟨Ao tb0,onP 0 p0 (QL n f m g q) L,Gl⟩ Try.f105 [.sl 1 n (fun i=>iV (f i)),.sl 1 m (fun i=>iV (g i))] [])).sem = some ((bV false),[]):=Aa [false,true] [Am (ieq (ofNat n) (ofNat m)),p0 (Fk (onP 0 p0 (QL n f m g q) L)) (JT n f m g 0 (Vu n f m g ))] (by kernel_rfl) (by simp only [hp0] <;> simp only [h0] <;> rfl)
theorem Aha (h0:ieq (ofNat n) (ofNat m) = true) (hp0:p0 (Fk (onP 0 p0 (QM n f m g q) L)) (JT n f m g 0 (Vu n f m g )) = true):(A1 (Al tab ⟨Ao tb0,onP 0 p0 (QM n f m g q) L,Gl⟩ Try.f105 [.sl 1 n (fun i=>iV (f i)),.sl 1 m (fun i=>iV (g i))] [])).sem = some ((bV true),[]):=Aa [false,true] [Am (ieq (ofNat n) (ofNat m)),p0 (Fk (onP 0 p0 (QM n f m g q) L)) (JT n f m g 0 (Vu n f m g ))] (by kernel_rfl) (by simp only [hp0] <;> simp only [h0] <;> rfl)
end
theorem Yh (L:LT) (n:Nat) (f:Nat->Int) (m:Nat) (g:Nat->Int) (hn:n <= 4611686018427387904) (hm:n = m):∀ (e b:Nat) (j:Nat->V) (q:Nat),n = b+e->e < q->(∀ k,k < b->ieq (f k) (g k) = true) ->
    ((A3 (Fk L) (LU n f m g) q (JT n f m g b j)).sem = some (QL n f m g 0) ∧ (An n fun k=>ieq (f k) (g k)) = false) ∨ ((A3 (Fk L) (LU n f m g) q (JT n f m g b j)).sem = some (QM n f m g 0) ∧ (An n fun k=>ieq (f k) (g k)) = true)
  | 0,b,j,q+1,h,_,hb=>by
    have:n = b:=by omega
    subst this
    exact .inr ⟨Ab (Ait L n f m g n j (A8 (Nat.le_refl _))),AA.2 hb⟩
  | e+1,b,j,q+1,h,h2,hb=>by
    have hl:b < n:=by omega
    cases hp:ieq (f b) (g b) with
    | false =>
      refine .inl ⟨?_,?_⟩
      · rw [Ab (Ais L n f m g b j (ofNat_lt hl) (AJ b) (ofNat_lt (by omega)) hp),Dm]
        rfl
      · cases ha:(An n fun k=>ieq (f k) (g k)) with
        | false=>rfl
        | true =>
          have:=AA.1 ha b hl
          rw [hp] at this
          cases this
    | true =>
      have next:=Yh L n f m g hn hm e (b+1) (fun _=>.und) q (by omega) (by omega) fun k hk=>by
        by_cases hki:k = b
        · rw [hki]; exact hp
        · exact hb k (by omega)
      rw [Ab (Air L n f m g b j (ofNat_lt hl) (AJ b) (ofNat_lt (by omega)) hp),Aw,Aq hl hn]
      exact next
theorem Ai2:AD Try.prog Gl 105 HU:=by
  refine A5 AO AP Try.func105 (by kernel_rfl) (by kernel_rfl) fun vs v h' h=>?_
  unfold HU at h
  split at h
  · rename_i v1 u1
    obtain ⟨n,f,a1,h⟩:=BV h
    obtain ⟨m,g,a2,h⟩:=BV h
    obtain ⟨hn,h⟩:=Ag h
    have:=Ac h
    simp only [Prod.mk.injEq] at this
    obtain ⟨rfl,rfl⟩:=this
    have hA:BA [v1,u1] [Np WR n f,Np WR m g]:=fun S w cs hv=>by
      obtain ⟨c,l,rfl,q1,c',l',rfl,q2,q3⟩:=hv
      exact ⟨c,_,rfl,a1 S w c q1,c',l',rfl,a2 S w c' q2,q3⟩
    have hx:=AQ CU [(0,LU n f m g)] (G:=Gl)
    have hL:=AC [(0,LU n f m g)]
    refine ⟨_,AR Gl tb0 [(0,LU n f m g)],_,hA,rfl,hx.1,hx.2,?_,AB.refl _⟩
    cases hl:ieq (ofNat n) (ofNat m) with
    | false =>
      rw [show Bf n f m g = false from C7 hl]
      exact AgY _ n f m g hl
    | true =>
      rw [show Bf n f m g = _ from By hl]
      have h0:=fun L j=>Yh L n f m g (Fx hn) (DG hl) n 0 j (n+1) (by omega) (by omega) (fun k hk=>absurd hk (Nat.not_lt_zero _))
      cases ha:(An n fun k=>ieq (f k) (g k)) with
      | false=>exact A6 (Ax hL hL) _ (AgZ _ _ n f m g 0 hl (Ak ((h0 _ _).elim (fun h=>h.1) fun h=>by have:=h.2; rw [ha] at this; cases this)))
      | true=>exact A6 (Ax hL hL) _ (Aha _ _ n f m g 0 hl (Ak ((h0 _ _).elim (fun h=>by have:=h.2; rw [ha] at this; cases this) fun h=>h.1)))
  · cases h
noncomputable def OI:List (Nat × (List V->T (V × List Blk))):=[(105,HU)]
theorem X3:AF Try.prog Gl OI:=.cons Ai2 .nil
def LS (n:Nat) (_:Nat->Nat) (_:Nat->Nat->Int) (_:Nat) (_:Nat->Nat) (_:Nat->Nat->Int):Lp:=⟨(bmK 32 0 [0,1,2,6,15,16,17]),0,bmK 32 0 [6],0,n+1⟩
def JS (n:Nat) (ln:Nat->Nat) (co:Nat->Nat->Int) (m:Nat) (ln':Nat->Nat) (co':Nat->Nat->Int) (b:Nat) (j:Nat->V):St:=⟨(jsV 32 0 j [(0,.sl 1 n (fun u=>.sl 1 (ln u) (fun i=>iV (co u i)))),(1,.sl 1 m (fun u=>.sl 1 (ln' u) (fun i=>iV (co' u i)))),(2,.fn 105 []),(6,bV false),(15,.sl 1 n (fun u=>.sl 1 (ln u) (fun i=>iV (co u i)))),(16,nV n),(17,nV b)]),[]⟩
def QJ (_:Nat) (_:Nat->Nat) (_:Nat->Nat->Int) (_:Nat) (_:Nat->Nat) (_:Nat->Nat->Int) (_:Nat):Ex × St:=(.rt,⟨(jsV 32 0 (fun _=>.und) [(6,bV false)]),[]⟩)
def QK (_:Nat) (_:Nat->Nat) (_:Nat->Nat->Int) (_:Nat) (_:Nat->Nat) (_:Nat->Nat->Int) (_:Nat):Ex × St:=(.ex 0,⟨(jsV 32 0 (fun _=>.und) [(6,bV false)]),[]⟩)
noncomputable def Fj (L:LT):St->T (Ex × St):=fun st=>A9 tab ⟨Ao OI,L,Gl⟩ (Av Try.f106 0) 0 st
section
variable (L:LT) (n:Nat) (ln:Nat->Nat) (co:Nat->Nat->Int) (m:Nat) (ln':Nat->Nat) (co':Nat->Nat->Int) (b:Nat)  (j:Nat->V)
include L n ln co m ln' co' b j
theorem Aiq (h0:ilt (ofNat b) (ofNat n) = false):Ai (Fj L) (LS n ln co m ln' co') (JS n ln co m ln' co' b j) = some ((.ex 0),⟨(jsV 32 0 (fun _=>.und) [(6,(bV false))]),[]⟩):=Aa [false] [ilt (ofNat b) (ofNat n)] (by kernel_rfl) (by simp only [h0] <;> rfl)
theorem Aip (h0:ilt (ofNat b) (ofNat n) = true) (h17:ile 0 (ofNat b) = true) (h1:ilt (ofNat b) (ofNat m) = true) (h18:Ah (ln b) = true) (h2:Bf (ln b) (co b) (ln' b) (co' b) = false):Ai (Fj L) (LS n ln co m ln' co') (JS n ln co m ln' co' b j) = some (.rt,⟨(jsV 32 0 (fun _=>.und) [(6,(bV false))]),[]⟩):=Aa (bbK 7 127) [ilt (ofNat b) (ofNat n),Af (ile 0 (ofNat b)) (ilt (ofNat b) (ofNat n)),Af (ile 0 (ofNat b)) (ilt (ofNat b) (ofNat m)),An (ln b) (fun _=>true),An (ln' b) (fun _=>true),Ah (ln b),Am (Bf (ln b) (co b) (ln' b) (co' b))] (by kernel_rfl) (by simp only [*,Ar] <;> rfl)
theorem Aio (h0:ilt (ofNat b) (ofNat n) = true) (h17:ile 0 (ofNat b) = true) (h1:ilt (ofNat b) (ofNat m) = true) (h18:Ah (ln b) = true) (h2:Bf (ln b) (co b) (ln' b) (co' b) = true):Ai (Fj L) (LS n ln co m ln' co') (JS n ln co m ln' co' b j) = some (.nm,⟨(jsV 32 0 (fun _=>.und) [(0,(.sl 1 n (fun u=>.sl 1 (ln u) (fun i=>iV (co u i))))),(1,(.sl 1 m (fun u=>.sl 1 (ln' u) (fun i=>iV (co' u i))))),(2,(.fn 105 [])),(6,(bV false)),(15,(.sl 1 n (fun u=>.sl 1 (ln u) (fun i=>iV (co u i))))),(16,(nV n)),(17,(iV (wr .i64 (Ae (ofNat b) 1))))]),[]⟩):=Aa (bbK 7 63) [ilt (ofNat b) (ofNat n),Af (ile 0 (ofNat b)) (ilt (ofNat b) (ofNat n)),Af (ile 0 (ofNat b)) (ilt (ofNat b) (ofNat m)),An (ln b) (fun _=>true),An (ln' b) (fun _=>true),Ah (ln b),Am (Bf (ln b) (co b) (ln' b) (co' b))] (by kernel_rfl) (by simp only [*,Ar] <;> rfl)
end
def Vt (n:Nat) (ln:Nat->Nat) (co:Nat->Nat->Int) (m:Nat) (ln':Nat->Nat) (co':Nat->Nat->Int) :Nat->V:=lkV A7 [(10,(.sl 1 n (fun u=>.sl 1 (ln u) (fun i=>iV (co u i))))),(11,(nV n)),(12,(.sl 1 m (fun u=>.sl 1 (ln' u) (fun i=>iV (co' u i))))),(13,(nV m)),(14,(bV (Am (ieq (ofNat n) (ofNat m)))))]
theorem AgV (L:LT) (n:Nat) (ln:Nat->Nat) (co:Nat->Nat->Int) (m:Nat) (ln':Nat->Nat) (co':Nat->Nat->Int) (h0:ieq (ofNat n) (ofNat m) = false):(A1 (Al tab ⟨Ao OI,L,Gl⟩ Try.f106 [.sl 1 n (fun u=>.sl 1 (ln u) (fun i=>iV (co u i))),.sl 1 m (fun u=>.sl 1 (ln' u) (fun i=>iV (co' u i))),.fn 105 []] [])).sem = some ((bV false),[]):=Aa [true] [Am (ieq (ofNat n) (ofNat m))] (by kernel_rfl) (by simp only [h0] <;> rfl)
section
variable (L:LT) (p0:PT) (n:Nat) (ln:Nat->Nat) (co:Nat->Nat->Int) (m:Nat) (ln':Nat->Nat) (co':Nat->Nat->Int) (q:Nat)
include L p0 n ln co m ln' co' q
theorem AgW (h0:ieq (ofNat n) (ofNat m) = true) (hp0:p0 (Fj (onP 0 p0 (QJ n ln co m ln' co' q) L)) (JS n ln co m ln' co' 0 (Vt n ln co m ln' co' )) = true):(A1 (Al tab ⟨Ao OI,onP 0 p0 (QJ n ln co m ln' co' q) L,Gl⟩ Try.f106 [.sl 1 n (fun u=>.sl 1 (ln u) (fun i=>iV (co u i))),.sl 1 m (fun u=>.sl 1 (ln' u) (fun i=>iV (co' u i))),.fn 105 []] [])).sem = some ((bV false),[]):=Aa [false,true] [Am (ieq (ofNat n) (ofNat m)),p0 (Fj (onP 0 p0 (QJ n ln co m ln' co' q) L)) (JS n ln co m ln' co' 0 (Vt n ln co m ln' co' ))] (by kernel_rfl) (by simp only [hp0] <;> simp only [h0] <;> rfl)
theorem AgX (h0:ieq (ofNat n) (ofNat m) = true) (hp0:p0 (Fj (onP 0 p0 (QK n ln co m ln' co' q) L)) (JS n ln co m ln' co' 0 (Vt n ln co m ln' co' )) = true):(A1 (Al tab ⟨Ao OI,onP 0 p0 (QK n ln co m ln' co' q) L,Gl⟩ Try.f106 [.sl 1 n (fun u=>.sl 1 (ln u) (fun i=>iV (co u i))),.sl 1 m (fun u=>.sl 1 (ln' u) (fun i=>iV (co' u i))),.fn 105 []] [])).sem = some ((bV true),[]):=Aa [false,true] [Am (ieq (ofNat n) (ofNat m)),p0 (Fj (onP 0 p0 (QK n ln co m ln' co' q) L)) (JS n ln co m ln' co' 0 (Vt n ln co m ln' co' ))] (by kernel_rfl) (by simp only [hp0] <;> simp only [h0] <;> rfl)
end
theorem Yg (L:LT) (n:Nat) (ln:Nat->Nat) (co:Nat->Nat->Int) (m:Nat) (ln':Nat->Nat) (co':Nat->Nat->Int) (hn:n <= 4611686018427387904) (hm:n = m) (hs:∀ k,k < n->Ah (ln k) = true):∀ (e b:Nat) (j:Nat->V) (q:Nat),n = b+e->e < q->(∀ k,k < b->Bf (ln k) (co k) (ln' k) (co' k) = true) ->
    ((A3 (Fj L) (LS n ln co m ln' co') q (JS n ln co m ln' co' b j)).sem = some (QJ n ln co m ln' co' 0) ∧ (An n fun k=>Bf (ln k) (co k) (ln' k) (co' k)) = false) ∨ ((A3 (Fj L) (LS n ln co m ln' co') q (JS n ln co m ln' co' b j)).sem = some (QK n ln co m ln' co' 0) ∧ (An n fun k=>Bf (ln k) (co k) (ln' k) (co' k)) = true)
  | 0,b,j,q+1,h,_,hb=>by
    have:n = b:=by omega
    subst this
    exact .inr ⟨Ab (Aiq L n ln co m ln' co' n j (A8 (Nat.le_refl _))),AA.2 hb⟩
  | e+1,b,j,q+1,h,h2,hb=>by
    have hl:b < n:=by omega
    cases hp:Bf (ln b) (co b) (ln' b) (co' b) with
    | false =>
      refine .inl ⟨?_,?_⟩
      · rw [Ab (Aip L n ln co m ln' co' b j (ofNat_lt hl) (AJ b) (ofNat_lt (by omega)) (hs b hl) hp),Dm]
        rfl
      · cases ha:(An n fun k=>Bf (ln k) (co k) (ln' k) (co' k)) with
        | false=>rfl
        | true =>
          have:=AA.1 ha b hl
          rw [hp] at this
          cases this
    | true =>
      have next:=Yg L n ln co m ln' co' hn hm hs e (b+1) (fun _=>.und) q (by omega) (by omega) fun k hk=>by
        by_cases hki:k = b
        · rw [hki]; exact hp
        · exact hb k (by omega)
      rw [Ab (Aio L n ln co m ln' co' b j (ofNat_lt hl) (AJ b) (ofNat_lt (by omega)) (hs b hl) hp),Aw,Aq hl hn]
      exact next
theorem Akm:AD Try.prog Gl 106 PR:=by
  refine A5 AO AP Try.func106 (by kernel_rfl) (by kernel_rfl) fun vs v h' h=>?_
  unfold PR at h
  split at h
  · rename_i v1 u1
    obtain ⟨n,C,a1,h⟩:=BV h
    obtain ⟨m,D,a2,h⟩:=BV h
    obtain ⟨hn,h⟩:=Ag h
    obtain ⟨hs,h⟩:=Ag h
    have hs:=AA.1 hs
    have:=Ac h
    simp only [Prod.mk.injEq] at this
    obtain ⟨rfl,rfl⟩:=this
    have hA:BA [v1,u1,.fn 105 []] [.sl 1 n (fun u=>.sl 1 (C u).1 (fun i=>iV ((C u).2 i))),.sl 1 m (fun u=>.sl 1 (D u).1 (fun i=>iV ((D u).2 i))),.fn 105 []]:=fun S w cs hv=>by
      obtain ⟨c,l,rfl,q1,c',l',rfl,q2,q3⟩:=hv
      exact ⟨c,_,rfl,a1 S w c q1,c',l',rfl,a2 S w c' q2,q3⟩
    generalize hln:(fun i=>(C i).1) = ln
    generalize hco:(fun i=>(C i).2) = co
    generalize hln':(fun i=>(D i).1) = ln'
    generalize hco':(fun i=>(D i).2) = co'
    have hx:=AQ X3 [(0,LS n ln co m ln' co')] (G:=Gl)
    have hL:=AC [(0,LS n ln co m ln' co')]
    refine ⟨_,AR Gl OI [(0,LS n ln co m ln' co')],_,hA,rfl,hx.1,hx.2,?_,AB.refl _⟩
    have hs:∀ k,k < n->Ah (ln k) = true:=fun k hk=>by rw [<- hln]; exact hs k hk
    have e1:∀ u,(C u).1 = ln u:=fun u=>by rw [<- hln]
    have e2:∀ u,(C u).2 = co u:=fun u=>by rw [<- hco]
    have e3:∀ u,(D u).1 = ln' u:=fun u=>by rw [<- hln']
    have e4:∀ u,(D u).2 = co' u:=fun u=>by rw [<- hco']
    simp only [e1,e2,e3,e4]
    cases hl:ieq (ofNat n) (ofNat m) with
    | false =>
      rw [show BM n ln co m ln' co' = false from C7 hl]
      exact AgV _ n ln co m ln' co' hl
    | true =>
      rw [show BM n ln co m ln' co' = _ from By hl]
      have h0:=fun L j=>Yg L n ln co m ln' co' (Fx hn) (DG hl) hs n 0 j (n+1) (by omega) (by omega) (fun k hk=>absurd hk (Nat.not_lt_zero _))
      cases ha:(An n fun k=>Bf (ln k) (co k) (ln' k) (co' k)) with
      | false=>exact A6 (Ax hL hL) _ (AgW _ _ n ln co m ln' co' 0 hl (Ak ((h0 _ _).elim (fun h=>h.1) fun h=>by have:=h.2; rw [ha] at this; cases this)))
      | true=>exact A6 (Ax hL hL) _ (AgX _ _ n ln co m ln' co' 0 hl (Ak ((h0 _ _).elim (fun h=>by have:=h.2; rw [ha] at this; cases this) fun h=>h.1)))
  · cases h
noncomputable def PE:List (Nat × (List V->T (V × List Blk))):=[(103,T2),(104,T1),(105,HU),(106,PR)]
theorem Aar:AF Try.prog Gl PE:=.cons p103 <| .cons p104 <| .cons Ai2 <| .cons Akm .nil
theorem AaD (a b c d e i j k:Bool):Af a (Af b (Af c (Af d (Af e (Af i (Af j k)))))) = Af a (Af b (Af c (Af d (Af (Af e k) (Af i (Af j true)))))):=by
  cases a <;> cases b <;> cases c <;> cases d <;> cases e <;> cases i <;> cases j <;> cases k <;> rfl
section
variable (L:LT) (a:Int) (n:Nat) (g:Nat->E6) (m:Nat) (x:Nat->Ev5) (t k:Int) (p:Nat) (r:Nat->Int) (q:Nat) (ln:Nat->Nat) (co:Nat->Nat->Int) (a':Int) (n':Nat) (g':Nat->E6) (m':Nat) (x':Nat->Ev5) (t' k':Int) (p':Nat) (r':Nat->Int) (q':Nat) (ln':Nat->Nat) (co':Nat->Nat->Int)
include L a n g m x t k p r q ln co a' n' g' m' x' t' k' p' r' q' ln' co'
theorem AgN (h0:ieq a a' = false):(A1 (Al tab ⟨Ao PE,L,Gl⟩ Try.f72 [.agg (shL a n g m x t k p r q ln co),.agg (shL a' n' g' m' x' t' k' p' r' q' ln' co')] [])).sem = some ((bV false),[]):=Aa (bbK 36 0) ((fun c0 c1=>[c0,c0,c0,c0,c0,c0,c1,c1,c1,c1,c1,c1,c1,c1,c1,c1,c1,c1,c1,c1,c1,c1,c1,c1,c1,c1,c1,c1,c1,c1,c1,c1,c1,c1,c1,c1]) (ieq a a') (false)) (by kernel_rfl) (by simp only [h0] <;> rfl)
theorem AgM (h0:ieq a a' = true) (h1:ieq t t' = false):(A1 (Al tab ⟨Ao PE,L,Gl⟩ Try.f72 [.agg (shL a n g m x t k p r q ln co),.agg (shL a' n' g' m' x' t' k' p' r' q' ln' co')] [])).sem = some ((bV false),[]):=Aa (bbK 36 63) ((fun c0 c1 c2=>[c0,c0,c0,c0,c0,c0,c1,c1,c1,c1,c1,c1,c2,c2,c2,c2,c2,c2,c2,c2,c2,c2,c2,c2,c2,c2,c2,c2,c2,c2,c2,c2,c2,c2,c2,c2]) (ieq a a') (ieq t t') (false)) (by kernel_rfl) (by simp only [h0,h1] <;> rfl)
theorem AgL (h0:ieq a a' = true) (h1:ieq t t' = true) (h2:ieq k k' = false):(A1 (Al tab ⟨Ao PE,L,Gl⟩ Try.f72 [.agg (shL a n g m x t k p r q ln co),.agg (shL a' n' g' m' x' t' k' p' r' q' ln' co')] [])).sem = some ((bV false),[]):=Aa (bbK 36 4095) ((fun c0 c1 c2 c3=>[c0,c0,c0,c0,c0,c0,c1,c1,c1,c1,c1,c1,c2,c2,c2,c2,c2,c2,c3,c3,c3,c3,c3,c3,c3,c3,c3,c3,c3,c3,c3,c3,c3,c3,c3,c3]) (ieq a a') (ieq t t') (ieq k k') (false)) (by kernel_rfl) (by simp only [*] <;> rfl)
theorem AgK (h0:ieq a a' = true) (h1:ieq t t' = true) (h2:ieq k k' = true) (h18:Ah n = true) (h3:Bn n g n' g' = false):(A1 (Al tab ⟨Ao PE,L,Gl⟩ Try.f72 [.agg (shL a n g m x t k p r q ln co),.agg (shL a' n' g' m' x' t' k' p' r' q' ln' co')] [])).sem = some ((bV false),[]):=Aa (bbK 39 2097151) ((fun c0 c1 c2 c3 c4=>[c0,c0,c0,c0,c0,c0,c1,c1,c1,c1,c1,c1,c2,c2,c2,c2,c2,An n (fun _=>true),An n' (fun _=>true),Ah n,c2,c3,c3,c3,c3,c3,c3,c4,c4,c4,c4,c4,c4,c4,c4,c4,c4,c4,c4]) (ieq a a') (ieq t t') (ieq k k') (Bn n g n' g') (false)) (by kernel_rfl) (by simp only [*,Ar] <;> rfl)
theorem AgJ (h0:ieq a a' = true) (h1:ieq t t' = true) (h2:ieq k k' = true) (h19:Ah n = true) (h3:Bn n g n' g' = true) (h20:Ah m = true) (h4:HV m x m' x' = false):(A1 (Al tab ⟨Ao PE,L,Gl⟩ Try.f72 [.agg (shL a n g m x t k p r q ln co),.agg (shL a' n' g' m' x' t' k' p' r' q' ln' co')] [])).sem = some ((bV false),[]):=Aa (bbK 42 1073741823) ((fun c0 c1 c2 c3 c4 c5=>[c0,c0,c0,c0,c0,c0,c1,c1,c1,c1,c1,c1,c2,c2,c2,c2,c2,An n (fun _=>true),An n' (fun _=>true),Ah n,c2,c3,c3,c3,c3,c3,An m (fun _=>true),An m' (fun _=>true),Ah m,c3,c4,c4,c4,c4,c4,c4,c5,c5,c5,c5,c5,c5]) (ieq a a') (ieq t t') (ieq k k') (Bn n g n' g') (HV m x m' x') (false)) (by kernel_rfl) (by simp only [*,Ar] <;> rfl)
theorem AgI (h0:ieq a a' = true) (h1:ieq t t' = true) (h2:ieq k k' = true) (h20:Ah n = true) (h3:Bn n g n' g' = true) (h21:Ah m = true) (h4:HV m x m' x' = true) (h22:Ah p = true) (h5:Bf p r p' r' = false):(A1 (Al tab ⟨Ao PE,L,Gl⟩ Try.f72 [.agg (shL a n g m x t k p r q ln co),.agg (shL a' n' g' m' x' t' k' p' r' q' ln' co')] [])).sem = some ((bV false),[]):=Aa (bbK 45 549755813887) ((fun c0 c1 c2 c3 c4 c5=>[c0,c0,c0,c0,c0,c0,c1,c1,c1,c1,c1,c1,c2,c2,c2,c2,c2,An n (fun _=>true),An n' (fun _=>true),Ah n,c2,c3,c3,c3,c3,c3,An m (fun _=>true),An m' (fun _=>true),Ah m,c3,c4,c4,c4,c4,c4,An p (fun _=>true),An p' (fun _=>true),Ah p,c4,c5,c5,c5,c5,c5,c5]) (ieq a a') (ieq t t') (ieq k k') (Bn n g n' g') (HV m x m' x') (Bf p r p' r')) (by kernel_rfl) (by simp only [*,Ar] <;> rfl)
theorem Ajr (h0:ieq a a' = true) (h1:ieq t t' = true) (h2:ieq k k' = true) (h21:Ah n = true) (h3:Bn n g n' g' = true) (h22:Ah m = true) (h4:HV m x m' x' = true) (h23:Ah p = true) (h5:Bf p r p' r' = true) (h24:An q (fun i=>An (ln i) (fun _=>true)) = true) (h25:An q' (fun i=>An (ln' i) (fun _=>true)) = true) (h26:Ah q = true) (h27:An q (fun i=>Ah (ln i)) = true):(A1 (Al tab ⟨Ao PE,L,Gl⟩ Try.f72 [.agg (shL a n g m x t k p r q ln co),.agg (shL a' n' g' m' x' t' k' p' r' q' ln' co')] [])).sem = some ((bV (BM q ln (fun i i_1=>co i i_1) q' ln' (fun i i_1=>co' i i_1))),[]):=Aa (bbK 49 562949953421311) ((fun c0 c1 c2 c3 c4 c5=>[c0,c0,c0,c0,c0,c0,c1,c1,c1,c1,c1,c1,c2,c2,c2,c2,c2,An n (fun _=>true),An n' (fun _=>true),Ah n,c2,c3,c3,c3,c3,c3,An m (fun _=>true),An m' (fun _=>true),Ah m,c3,c4,c4,c4,c4,c4,An p (fun _=>true),An p' (fun _=>true),Ah p,c4,c5,c5,c5,c5,c5,An q (fun i=>An (ln i) (fun _=>true)),An q' (fun i=>An (ln' i) (fun _=>true)),Ah q,An q (fun i=>Ah (ln i)),c5]) (ieq a a') (ieq t t') (ieq k k') (Bn n g n' g') (HV m x m' x') (Bf p r p' r')) (by kernel_rfl) (by simp only [*,Ar] <;> rfl)
end
theorem p72:AD Try.prog Gl 72 KQ:=by
  refine A5 AO AP Try.func72 (by kernel_rfl) (by kernel_rfl) fun vs v h' h=>?_
  unfold KQ at h
  split at h
  · rename_i v1 u1
    obtain ⟨s,a1,h⟩:=EI h
    obtain ⟨s',a2,h⟩:=EI h
    obtain ⟨hn,h⟩:=Ag h
    have:=Ac h
    simp only [Prod.mk.injEq] at this
    obtain ⟨rfl,rfl⟩:=this
    obtain ⟨a,n,g,m,x,t,k,p,r,q,C⟩:=s
    obtain ⟨a',n',g',m',x',t',k',p',r',q',D⟩:=s'
    have hA:BA [v1,u1] [.agg [iV a,.sl 6 n (fun i=>eV (g i)),.sl 5 m (fun i=>evV (x i)),iV t,iV k,.sl 1 p (fun i=>iV (r i)),.sl 1 q (fun u=>.sl 1 (C u).1 (fun i=>iV ((C u).2 i)))],
        .agg [iV a',.sl 6 n' (fun i=>eV (g' i)),.sl 5 m' (fun i=>evV (x' i)),iV t',iV k',.sl 1 p' (fun i=>iV (r' i)),.sl 1 q' (fun u=>.sl 1 (D u).1 (fun i=>iV ((D u).2 i)))]]:=fun S w cs hv=>by
      obtain ⟨c,l,rfl,q1,c',l',rfl,q2,q3⟩:=hv
      exact ⟨c,_,rfl,a1 S w c q1,c',l',rfl,a2 S w c' q2,q3⟩
    have hn:Ah n = true ∧ Ah m = true ∧ Ah p = true ∧ Ah q = true ∧ (An q fun i=>Ah (C i).1) = true:=by simpa [Gi,Af] using hn
    obtain ⟨n1,n2,n3,n4,n5⟩:=hn
    unfold LI
    dsimp only
    generalize hln:(fun i=>(C i).1) = ln
    generalize hco:(fun i=>(C i).2) = co
    generalize hln':(fun i=>(D i).1) = ln'
    generalize hco':(fun i=>(D i).2) = co'
    have hx:=AQ Aar [] (G:=Gl)
    refine ⟨_,AR Gl PE [],_,hA,rfl,hx.1,hx.2,?_,AB.refl _⟩
    have e1:∀ u,(C u).1 = ln u:=fun u=>by rw [<- hln]
    have e2:∀ u,(C u).2 = co u:=fun u=>by rw [<- hco]
    have e3:∀ u,(D u).1 = ln' u:=fun u=>by rw [<- hln']
    have e4:∀ u,(D u).2 = co' u:=fun u=>by rw [<- hco']
    simp only [e1,e2,e3,e4] at n5 ⊢
    have Fn:∀ (q:Nat) (ln:Nat->Nat),(An q fun i=>An (ln i) fun _=>true) = true:=fun _ _=>AA.2 fun _ _=>AA.2 fun _ _=>rfl
    rw [AaD,show (Af (ieq (ofNat m) (ofNat m')) (An m fun k=>Co (x k) (x' k))) = HV m x m' x' from rfl]
    cases c0:ieq a a' with
    | false=>rw [C7 rfl]; exact AgN _ a n g m x t k p r q ln co a' n' g' m' x' t' k' p' r' q' ln' co' c0
    | true =>
    rw [By rfl]
    cases c1:ieq t t' with
    | false=>rw [C7 rfl]; exact AgM _ a n g m x t k p r q ln co a' n' g' m' x' t' k' p' r' q' ln' co' c0 c1
    | true =>
    rw [By rfl]
    cases c2:ieq k k' with
    | false=>rw [C7 rfl]; exact AgL _ a n g m x t k p r q ln co a' n' g' m' x' t' k' p' r' q' ln' co' c0 c1 c2
    | true =>
    rw [By rfl]
    cases c3:Bn n g n' g' with
    | false=>rw [C7 rfl]; exact AgK _ a n g m x t k p r q ln co a' n' g' m' x' t' k' p' r' q' ln' co' c0 c1 c2 n1 c3
    | true =>
    rw [By rfl]
    cases c4:HV m x m' x' with
    | false=>rw [C7 rfl]; exact AgJ _ a n g m x t k p r q ln co a' n' g' m' x' t' k' p' r' q' ln' co' c0 c1 c2 n1 c3 n2 c4
    | true =>
    rw [By rfl]
    cases c5:Bf p r p' r' with
    | false=>rw [C7 rfl]; exact AgI _ a n g m x t k p r q ln co a' n' g' m' x' t' k' p' r' q' ln' co' c0 c1 c2 n1 c3 n2 c4 n3 c5
    | true =>
    rw [By rfl]
    rw [show Af (BM q ln co q' ln' co') true = BM q ln co q' ln' co' by cases BM q ln co q' ln' co' <;> rfl]
    exact Ajr _ a n g m x t k p r q ln co a' n' g' m' x' t' k' p' r' q' ln' co' c0 c1 c2 n1 c3 n2 c4 n3 c5 (Fn _ _) (Fn _ _) n4 n5
  · cases h
end Go.Proofs.Ytjhnfomefcngfaa.Sh
