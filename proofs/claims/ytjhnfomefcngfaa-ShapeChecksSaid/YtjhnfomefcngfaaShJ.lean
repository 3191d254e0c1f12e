/-
  Layer 7: whether shapes are the same, the program's (by slices.Equal). No conditions.
-/
import Derived.Test.YtjhnfomefcngfaaShZs
namespace Go.Proofs.Ytjhnfomefcngfaa.Sh
open Go.Sy Ed
open Int (ofNat)
set_option maxHeartbeats 1000000
set_option maxRecDepth 4000
theorem Aav {n:Nat} {f:Nat->E6} {m:Nat} {g:Nat->E6} (h:ieq (ofNat n) (ofNat m) = false):Bm n f m g = false:=by
  unfold Bm
  rw [h]
  rfl
theorem YY {a b:E6}:eqE a b = true ↔ a = b:=by
  have h:=@MY 1 (fun _=>a) 1 (fun _=>b)
  have e:Bm 1 (fun _=>a) 1 (fun _=>b) = eqE a b:=by
    show sel (eqE a b) true false = _
    cases eqE a b <;> rfl
  rw [e] at h
  exact ⟨fun hh=>(h.1 hh).2 0 (by omega),fun hh=>h.2 ⟨rfl,fun _ _=>hh⟩⟩
theorem Aau {n:Nat} {f:Nat->E6} {m:Nat} {g:Nat->E6} (h:ieq (ofNat n) (ofNat m) = true):Bm n f m g = Ai n fun k=>eqE (f k) (g k):=by
  rw [Bool.eq_iff_iff,MY,A4]
  exact ⟨fun hh k hk=>YY.2 (hh.2 k hk),fun hh=>⟨DQ h,fun k hk=>YY.1 (hh k hk)⟩⟩
def Ic (n:Nat) (f:Nat->Ev5) (m:Nat) (g:Nat->Ev5):Bool:=Ag (ieq (ofNat n) (ofNat m)) (Ai n fun k=>Cf (f k) (g k))
def Tz:List V->T (V × List Blk)
  | [v,u]=>apG QV v fun n f=>apG QV u fun m g=>.br (Ab n) (.leaf (bV (Bm n f m g),[])) .fail
  | _=>.fail
def Tx:List V->T (V × List Blk)
  | [v,u]=>apG QS v fun n f=>apG QS u fun m g=>.br (Ab n) (.leaf (bV (Ic n f m g),[])) .fail
  | _=>.fail
def PQ:List V->T (V × List Blk)
  | [v,u,.fn 105 []]=>apG QT v fun n C=>apG QT u fun m D=>.br (Ab n) (.br (Ai n fun i=>Ab (C i).1) (.leaf (bV (BJ n (fun i=>(C i).1) (fun i=>(C i).2) m (fun i=>(D i).1) (fun i=>(D i).2)),[])) .fail) .fail
  | _=>.fail
def lp103 (n:Nat) (_:Nat->E6) (_:Nat) (_:Nat->E6):Lp:=⟨(bmK 26 0 [0,1,4,12,13]),0,bmK 26 0 [4],0,n+1⟩
def st103 (n:Nat) (f:Nat->E6) (m:Nat) (g:Nat->E6) (b:Nat) (j:Nat->V):St:=⟨(jsV 26 0 j [(0,.sl 6 n (fun i=>eV (f i))),(1,.sl 6 m (fun i=>eV (g i))),(4,bV false),(12,nV n),(13,nV b)]),[]⟩
def en103f (_:Nat) (_:Nat->E6) (_:Nat) (_:Nat->E6) (_:Nat):Ex × St:=(.rt,⟨(jsV 26 0 (fun _=>.und) [(4,bV false)]),[]⟩)
def en103e (_:Nat) (_:Nat->E6) (_:Nat) (_:Nat->E6) (_:Nat):Ex × St:=(.ex 0,⟨(jsV 26 0 (fun _=>.und) [(4,bV false)]),[]⟩)
noncomputable def body103 (L:LT):St->T (Ex × St):=fun st=>AE tab ⟨Ao tb0,L,Gl⟩ (Az Try.f103 0) 0 st
theorem Aip (L:LT) (n:Nat) (f:Nat->E6) (m:Nat) (g:Nat->E6) (b:Nat)  (j:Nat->V) (h0:ilt (ofNat b) (ofNat n) = false):Al (body103 L) (lp103 n f m g) (st103 n f m g b j) = some ((.ex 0),⟨(jsV 26 0 (fun _=>.und) [(4,(bV false))]),[]⟩):=Aa [false] [ilt (ofNat b) (ofNat n)] (by kernel_rfl) (by simp only [h0] <;> rfl)
section
variable (L:LT) (n:Nat) (f:Nat->E6) (m:Nat) (g:Nat->E6) (b:Nat) (j:Nat->V)
include L n f m g b j
theorem Aio (h0:ilt (ofNat b) (ofNat n) = true) (h17:ile 0 (ofNat b) = true) (h1:ilt (ofNat b) (ofNat m) = true) (h2:eqE (f b) (g b) = false):Al (body103 L) (lp103 n f m g) (st103 n f m g b j) = some (.rt,⟨(jsV 26 0 (fun _=>.und) [(4,(bV false))]),[]⟩):=Aa [true,true,true,true] [ilt (ofNat b) (ofNat n),Ag (ile 0 (ofNat b)) (ilt (ofNat b) (ofNat n)),Ag (ile 0 (ofNat b)) (ilt (ofNat b) (ofNat m)),Am (eqE (f b) (g b))] (by kernel_rfl) (by simp only [*] <;> rfl)
theorem Ain (h0:ilt (ofNat b) (ofNat n) = true) (h17:ile 0 (ofNat b) = true) (h1:ilt (ofNat b) (ofNat m) = true) (h2:eqE (f b) (g b) = true):Al (body103 L) (lp103 n f m g) (st103 n f m g b j) = some (.nm,⟨(jsV 26 0 (fun _=>.und) [(0,(.sl 6 n (fun i=>eV (f i)))),(1,(.sl 6 m (fun i=>eV (g i)))),(4,(bV false)),(12,(nV n)),(13,(iV (wr .i64 (Af (ofNat b) 1))))]),[]⟩):=Aa [true,true,true,false] [ilt (ofNat b) (ofNat n),Ag (ile 0 (ofNat b)) (ilt (ofNat b) (ofNat n)),Ag (ile 0 (ofNat b)) (ilt (ofNat b) (ofNat m)),Am (eqE (f b) (g b))] (by kernel_rfl) (by simp only [*] <;> rfl)
end
def jk103 (n:Nat) (f:Nat->E6) (m:Nat) (g:Nat->E6) :Nat->V:=lkV A8 [(6,(.sl 6 n (fun i=>eV (f i)))),(7,(nV n)),(8,(.sl 6 m (fun i=>eV (g i)))),(9,(nV m)),(10,(bV (Am (ieq (ofNat n) (ofNat m))))),(11,(.sl 6 n (fun i=>eV (f i))))]
theorem AgX (L:LT) (n:Nat) (f:Nat->E6) (m:Nat) (g:Nat->E6) (h0:ieq (ofNat n) (ofNat m) = false):(As (Aj tab ⟨Ao tb0,L,Gl⟩ Try.f103 [.sl 6 n (fun i=>eV (f i)),.sl 6 m (fun i=>eV (g i))] [])).sem = some ((bV false),[]):=Aa [true] [Am (ieq (ofNat n) (ofNat m))] (by kernel_rfl) (by simp only [h0] <;> rfl)
section
variable (L:LT) (p0:PT) (n:Nat) (f:Nat->E6) (m:Nat) (g:Nat->E6) (q:Nat)
include L p0 n f m g q
theorem AgY (h0:ieq (ofNat n) (ofNat m) = true) (hp0:p0 (body103 (onP 0 p0 (en103f n f m g q) L)) (st103 n f m g 0 (jk103 n f m g )) = true):(As (Aj tab ⟨Ao tb0,onP 0 p0 (en103f n f m g q) L,Gl⟩ Try.f103 [.sl 6 n (fun i=>eV (f i)),.sl 6 m (fun i=>eV (g i))] [])).sem = some ((bV false),[]):=Aa [false,true] [Am (ieq (ofNat n) (ofNat m)),p0 (body103 (onP 0 p0 (en103f n f m g q) L)) (st103 n f m g 0 (jk103 n f m g ))] (by kernel_rfl) (by simp only [hp0] <;> simp only [h0] <;> rfl)
theorem AgZ (h0:ieq (ofNat n) (ofNat m) = true) (hp0:p0 (body103 (onP 0 p0 (en103e n f m g q) L)) (st103 n f m g 0 (jk103 n f m g )) = true):(As (Aj tab ⟨Ao tb0,onP 0 p0 (en103e n f m g q) L,Gl⟩ Try.f103 [.sl 6 n (fun i=>eV (f i)),.sl 6 m (fun i=>eV (g i))] [])).sem = some ((bV true),[]):=Aa [false,true] [Am (ieq (ofNat n) (ofNat m)),p0 (body103 (onP 0 p0 (en103e n f m g q) L)) (st103 n f m g 0 (jk103 n f m g ))] (by kernel_rfl) (by simp only [hp0] <;> simp only [h0] <;> rfl)
end
theorem run103 (L:LT) (n:Nat) (f:Nat->E6) (m:Nat) (g:Nat->E6) (hn:n <= 4611686018427387904) (hm:n = m):∀ (e b:Nat) (j:Nat->V) (q:Nat),n = b+e->e < q->(∀ k,k < b->eqE (f k) (g k) = true) ->
    ((A7 (body103 L) (lp103 n f m g) q (st103 n f m g b j)).sem = some (en103f n f m g 0) ∧ (Ai n fun k=>eqE (f k) (g k)) = false) ∨ ((A7 (body103 L) (lp103 n f m g) q (st103 n f m g b j)).sem = some (en103e n f m g 0) ∧ (Ai n fun k=>eqE (f k) (g k)) = true)
  | 0,b,j,q+1,h,_,hb=>by
    have:n = b:=by omega
    subst this
    exact .inr ⟨Ac (Aip L n f m g n j (AA (Nat.le_refl _))),A4.2 hb⟩
  | e+1,b,j,q+1,h,h2,hb=>by
    have hl:b < n:=by omega
    cases hp:eqE (f b) (g b) with
    | false =>
      refine .inl ⟨?_,?_⟩
      · rw [Ac (Aio L n f m g b j (ofNat_lt hl) (AH b) (ofNat_lt (by omega)) hp),Du]
        rfl
      · cases ha:(Ai n fun k=>eqE (f k) (g k)) with
        | false=>rfl
        | true =>
          have:=A4.1 ha b hl
          rw [hp] at this
          cases this
    | true =>
      have next:=run103 L n f m g hn hm e (b+1) (fun _=>.und) q (by omega) (by omega) fun k hk=>by
        by_cases hki:k = b
        · rw [hki]; exact hp
        · exact hb k (by omega)
      rw [Ac (Ain L n f m g b j (ofNat_lt hl) (AH b) (ofNat_lt (by omega)) hp),Av,Aq hl hn]
      exact next
theorem p103:AB Try.prog Gl 103 Tz:=by
  refine A1 AQ AR Try.func103 (by kernel_rfl) (by kernel_rfl) fun vs v h' h=>?_
  unfold Tz at h
  split at h
  · rename_i v1 u1
    obtain ⟨n,f,a1,h⟩:=BZ h
    obtain ⟨m,g,a2,h⟩:=BZ h
    obtain ⟨hn,h⟩:=Ah h
    have:=Ad h
    simp only [Prod.mk.injEq] at this
    obtain ⟨rfl,rfl⟩:=this
    have hA:Bw [v1,u1] [Il QV n f,Il QV m g]:=fun S w cs hv=>by
      obtain ⟨c,l,rfl,q1,c',l',rfl,q2,q3⟩:=hv
      exact ⟨c,_,rfl,a1 S w c q1,c',l',rfl,a2 S w c' q2,q3⟩
    have hx:=AP CW [(0,lp103 n f m g)] (G:=Gl)
    have hL:=AD [(0,lp103 n f m g)]
    refine ⟨_,AI Gl tb0 [(0,lp103 n f m g)],_,hA,rfl,hx.1,hx.2,?_,A6.refl _⟩
    cases hl:ieq (ofNat n) (ofNat m) with
    | false =>
      rw [show Bm n f m g = false from Aav hl]
      exact AgX _ n f m g hl
    | true =>
      rw [show Bm n f m g = _ from Aau hl]
      have h0:=fun L j=>run103 L n f m g (F0 hn) (DQ hl) n 0 j (n+1) (by omega) (by omega) (fun k hk=>absurd hk (Nat.not_lt_zero _))
      cases ha:(Ai n fun k=>eqE (f k) (g k)) with
      | false=>exact A3 (Aw hL hL) _ (AgY _ _ n f m g 0 hl (An ((h0 _ _).elim (fun h=>h.1) fun h=>by have:=h.2; rw [ha] at this; cases this)))
      | true=>exact A3 (Aw hL hL) _ (AgZ _ _ n f m g 0 hl (An ((h0 _ _).elim (fun h=>by have:=h.2; rw [ha] at this; cases this) fun h=>h.1)))
  · cases h
def lp104 (n:Nat) (_:Nat->Ev5) (_:Nat) (_:Nat->Ev5):Lp:=⟨(bmK 26 0 [0,1,4,12,13]),0,bmK 26 0 [4],0,n+1⟩
def st104 (n:Nat) (f:Nat->Ev5) (m:Nat) (g:Nat->Ev5) (b:Nat) (j:Nat->V):St:=⟨(jsV 26 0 j [(0,.sl 5 n (fun i=>evV (f i))),(1,.sl 5 m (fun i=>evV (g i))),(4,bV false),(12,nV n),(13,nV b)]),[]⟩
def QN (_:Nat) (_:Nat->Ev5) (_:Nat) (_:Nat->Ev5) (_:Nat):Ex × St:=(.rt,⟨(jsV 26 0 (fun _=>.und) [(4,bV false)]),[]⟩)
def en104e (_:Nat) (_:Nat->Ev5) (_:Nat) (_:Nat->Ev5) (_:Nat):Ex × St:=(.ex 0,⟨(jsV 26 0 (fun _=>.und) [(4,bV false)]),[]⟩)
noncomputable def body104 (L:LT):St->T (Ex × St):=fun st=>AE tab ⟨Ao tb0,L,Gl⟩ (Az Try.f104 0) 0 st
theorem Aim (L:LT) (n:Nat) (f:Nat->Ev5) (m:Nat) (g:Nat->Ev5) (b:Nat)  (j:Nat->V) (h0:ilt (ofNat b) (ofNat n) = false):Al (body104 L) (lp104 n f m g) (st104 n f m g b j) = some ((.ex 0),⟨(jsV 26 0 (fun _=>.und) [(4,(bV false))]),[]⟩):=Aa [false] [ilt (ofNat b) (ofNat n)] (by kernel_rfl) (by simp only [h0] <;> rfl)
section
variable (L:LT) (n:Nat) (f:Nat->Ev5) (m:Nat) (g:Nat->Ev5) (b:Nat) (j:Nat->V)
include L n f m g b j
theorem Ail (h0:ilt (ofNat b) (ofNat n) = true) (h17:ile 0 (ofNat b) = true) (h1:ilt (ofNat b) (ofNat m) = true) (h2:Ag (ieq ((f b)).th ((g b)).th) (Ag (ieq ((f b)).pl ((g b)).pl) (Ag (ieq ((f b)).dir ((g b)).dir) (Ag (ieq ((f b)).loc ((g b)).loc) (Ag (ieq ((f b)).val ((g b)).val) true)))) = false):Al (body104 L) (lp104 n f m g) (st104 n f m g b j) = some (.rt,⟨(jsV 26 0 (fun _=>.und) [(4,(bV false))]),[]⟩):=Aa [true,true,true,true] [ilt (ofNat b) (ofNat n),Ag (ile 0 (ofNat b)) (ilt (ofNat b) (ofNat n)),Ag (ile 0 (ofNat b)) (ilt (ofNat b) (ofNat m)),Am (Ag (ieq ((f b)).th ((g b)).th) (Ag (ieq ((f b)).pl ((g b)).pl) (Ag (ieq ((f b)).dir ((g b)).dir) (Ag (ieq ((f b)).loc ((g b)).loc) (Ag (ieq ((f b)).val ((g b)).val) true)))))] (by kernel_rfl) (by simp only [h2] <;> simp only [*] <;> rfl)
theorem Aik (h0:ilt (ofNat b) (ofNat n) = true) (h17:ile 0 (ofNat b) = true) (h1:ilt (ofNat b) (ofNat m) = true) (h2:Ag (ieq ((f b)).th ((g b)).th) (Ag (ieq ((f b)).pl ((g b)).pl) (Ag (ieq ((f b)).dir ((g b)).dir) (Ag (ieq ((f b)).loc ((g b)).loc) (Ag (ieq ((f b)).val ((g b)).val) true)))) = true):Al (body104 L) (lp104 n f m g) (st104 n f m g b j) = some (.nm,⟨(jsV 26 0 (fun _=>.und) [(0,(.sl 5 n (fun i=>evV (f i)))),(1,(.sl 5 m (fun i=>evV (g i)))),(4,(bV false)),(12,(nV n)),(13,(iV (wr .i64 (Af (ofNat b) 1))))]),[]⟩):=Aa [true,true,true,false] [ilt (ofNat b) (ofNat n),Ag (ile 0 (ofNat b)) (ilt (ofNat b) (ofNat n)),Ag (ile 0 (ofNat b)) (ilt (ofNat b) (ofNat m)),Am (Ag (ieq ((f b)).th ((g b)).th) (Ag (ieq ((f b)).pl ((g b)).pl) (Ag (ieq ((f b)).dir ((g b)).dir) (Ag (ieq ((f b)).loc ((g b)).loc) (Ag (ieq ((f b)).val ((g b)).val) true)))))] (by kernel_rfl) (by simp only [h2] <;> simp only [*] <;> rfl)
end
def jk104 (n:Nat) (f:Nat->Ev5) (m:Nat) (g:Nat->Ev5) :Nat->V:=lkV A8 [(6,(.sl 5 n (fun i=>evV (f i)))),(7,(nV n)),(8,(.sl 5 m (fun i=>evV (g i)))),(9,(nV m)),(10,(bV (Am (ieq (ofNat n) (ofNat m))))),(11,(.sl 5 n (fun i=>evV (f i))))]
theorem AgU (L:LT) (n:Nat) (f:Nat->Ev5) (m:Nat) (g:Nat->Ev5) (h0:ieq (ofNat n) (ofNat m) = false):(As (Aj tab ⟨Ao tb0,L,Gl⟩ Try.f104 [.sl 5 n (fun i=>evV (f i)),.sl 5 m (fun i=>evV (g i))] [])).sem = some ((bV false),[]):=Aa [true] [Am (ieq (ofNat n) (ofNat m))] (by kernel_rfl) (by simp only [h0] <;> rfl)
section
variable (L:LT) (p0:PT) (n:Nat) (f:Nat->Ev5) (m:Nat) (g:Nat->Ev5) (q:Nat)
include L p0 n f m g q
theorem AgV (h0:ieq (ofNat n) (ofNat m) = true) (hp0:p0 (body104 (onP 0 p0 (QN n f m g q) L)) (st104 n f m g 0 (jk104 n f m g )) = true):(As (Aj tab ⟨Ao tb0,onP 0 p0 (QN n f m g q) L,Gl⟩ Try.f104 [.sl 5 n (fun i=>evV (f i)),.sl 5 m (fun i=>evV (g i))] [])).sem = some ((bV false),[]):=Aa [false,true] [Am (ieq (ofNat n) (ofNat m)),p0 (body104 (onP 0 p0 (QN n f m g q) L)) (st104 n f m g 0 (jk104 n f m g ))] (by kernel_rfl) (by simp only [hp0] <;> simp only [h0] <;> rfl)
theorem AgW (h0:ieq (ofNat n) (ofNat m) = true) (hp0:p0 (body104 (onP 0 p0 (en104e n f m g q) L)) (st104 n f m g 0 (jk104 n f m g )) = true):(As (Aj tab ⟨Ao tb0,onP 0 p0 (en104e n f m g q) L,Gl⟩ Try.f104 [.sl 5 n (fun i=>evV (f i)),.sl 5 m (fun i=>evV (g i))] [])).sem = some ((bV true),[]):=Aa [false,true] [Am (ieq (ofNat n) (ofNat m)),p0 (body104 (onP 0 p0 (en104e n f m g q) L)) (st104 n f m g 0 (jk104 n f m g ))] (by kernel_rfl) (by simp only [hp0] <;> simp only [h0] <;> rfl)
end
theorem run104 (L:LT) (n:Nat) (f:Nat->Ev5) (m:Nat) (g:Nat->Ev5) (hn:n <= 4611686018427387904) (hm:n = m):∀ (e b:Nat) (j:Nat->V) (q:Nat),n = b+e->e < q->(∀ k,k < b->Cf (f k) (g k) = true) ->
    ((A7 (body104 L) (lp104 n f m g) q (st104 n f m g b j)).sem = some (QN n f m g 0) ∧ (Ai n fun k=>Cf (f k) (g k)) = false) ∨ ((A7 (body104 L) (lp104 n f m g) q (st104 n f m g b j)).sem = some (en104e n f m g 0) ∧ (Ai n fun k=>Cf (f k) (g k)) = true)
  | 0,b,j,q+1,h,_,hb=>by
    have:n = b:=by omega
    subst this
    exact .inr ⟨Ac (Aim L n f m g n j (AA (Nat.le_refl _))),A4.2 hb⟩
  | e+1,b,j,q+1,h,h2,hb=>by
    have hl:b < n:=by omega
    cases hp:Cf (f b) (g b) with
    | false =>
      refine .inl ⟨?_,?_⟩
      · rw [Ac (Ail L n f m g b j (ofNat_lt hl) (AH b) (ofNat_lt (by omega)) hp),Du]
        rfl
      · cases ha:(Ai n fun k=>Cf (f k) (g k)) with
        | false=>rfl
        | true =>
          have:=A4.1 ha b hl
          rw [hp] at this
          cases this
    | true =>
      have next:=run104 L n f m g hn hm e (b+1) (fun _=>.und) q (by omega) (by omega) fun k hk=>by
        by_cases hki:k = b
        · rw [hki]; exact hp
        · exact hb k (by omega)
      rw [Ac (Aik L n f m g b j (ofNat_lt hl) (AH b) (ofNat_lt (by omega)) hp),Av,Aq hl hn]
      exact next
theorem p104:AB Try.prog Gl 104 Tx:=by
  refine A1 AQ AR Try.func104 (by kernel_rfl) (by kernel_rfl) fun vs v h' h=>?_
  unfold Tx at h
  split at h
  · rename_i v1 u1
    obtain ⟨n,f,a1,h⟩:=BZ h
    obtain ⟨m,g,a2,h⟩:=BZ h
    obtain ⟨hn,h⟩:=Ah h
    have:=Ad h
    simp only [Prod.mk.injEq] at this
    obtain ⟨rfl,rfl⟩:=this
    have hA:Bw [v1,u1] [Il QS n f,Il QS m g]:=fun S w cs hv=>by
      obtain ⟨c,l,rfl,q1,c',l',rfl,q2,q3⟩:=hv
      exact ⟨c,_,rfl,a1 S w c q1,c',l',rfl,a2 S w c' q2,q3⟩
    have hx:=AP CW [(0,lp104 n f m g)] (G:=Gl)
    have hL:=AD [(0,lp104 n f m g)]
    refine ⟨_,AI Gl tb0 [(0,lp104 n f m g)],_,hA,rfl,hx.1,hx.2,?_,A6.refl _⟩
    cases hl:ieq (ofNat n) (ofNat m) with
    | false =>
      rw [show Ic n f m g = false from C5 hl]
      exact AgU _ n f m g hl
    | true =>
      rw [show Ic n f m g = _ from B5 hl]
      have h0:=fun L j=>run104 L n f m g (F0 hn) (DQ hl) n 0 j (n+1) (by omega) (by omega) (fun k hk=>absurd hk (Nat.not_lt_zero _))
      cases ha:(Ai n fun k=>Cf (f k) (g k)) with
      | false=>exact A3 (Aw hL hL) _ (AgV _ _ n f m g 0 hl (An ((h0 _ _).elim (fun h=>h.1) fun h=>by have:=h.2; rw [ha] at this; cases this)))
      | true=>exact A3 (Aw hL hL) _ (AgW _ _ n f m g 0 hl (An ((h0 _ _).elim (fun h=>by have:=h.2; rw [ha] at this; cases this) fun h=>h.1)))
  · cases h
def LY (n:Nat) (_:Nat->Int) (_:Nat) (_:Nat->Int):Lp:=⟨(bmK 26 0 [0,1,4,12,13]),0,bmK 26 0 [4],0,n+1⟩
def Ka (n:Nat) (f:Nat->Int) (m:Nat) (g:Nat->Int) (b:Nat) (j:Nat->V):St:=⟨(jsV 26 0 j [(0,.sl 1 n (fun i=>iV (f i))),(1,.sl 1 m (fun i=>iV (g i))),(4,bV false),(12,nV n),(13,nV b)]),[]⟩
def QL (_:Nat) (_:Nat->Int) (_:Nat) (_:Nat->Int) (_:Nat):Ex × St:=(.rt,⟨(jsV 26 0 (fun _=>.und) [(4,bV false)]),[]⟩)
def QM (_:Nat) (_:Nat->Int) (_:Nat) (_:Nat->Int) (_:Nat):Ex × St:=(.ex 0,⟨(jsV 26 0 (fun _=>.und) [(4,bV false)]),[]⟩)
noncomputable def Fn (L:LT):St->T (Ex × St):=fun st=>AE tab ⟨Ao tb0,L,Gl⟩ (Az Try.f105 0) 0 st
theorem Aij (L:LT) (n:Nat) (f:Nat->Int) (m:Nat) (g:Nat->Int) (b:Nat)  (j:Nat->V) (h0:ilt (ofNat b) (ofNat n) = false):Al (Fn L) (LY n f m g) (Ka n f m g b j) = some ((.ex 0),⟨(jsV 26 0 (fun _=>.und) [(4,(bV false))]),[]⟩):=Aa [false] [ilt (ofNat b) (ofNat n)] (by kernel_rfl) (by simp only [h0] <;> rfl)
section
variable (L:LT) (n:Nat) (f:Nat->Int) (m:Nat) (g:Nat->Int) (b:Nat) (j:Nat->V)
include L n f m g b j
theorem Aii (h0:ilt (ofNat b) (ofNat n) = true) (h17:ile 0 (ofNat b) = true) (h1:ilt (ofNat b) (ofNat m) = true) (h2:ieq (f b) (g b) = false):Al (Fn L) (LY n f m g) (Ka n f m g b j) = some (.rt,⟨(jsV 26 0 (fun _=>.und) [(4,(bV false))]),[]⟩):=Aa [true,true,true,true] [ilt (ofNat b) (ofNat n),Ag (ile 0 (ofNat b)) (ilt (ofNat b) (ofNat n)),Ag (ile 0 (ofNat b)) (ilt (ofNat b) (ofNat m)),Am (ieq (f b) (g b))] (by kernel_rfl) (by simp only [*] <;> rfl)
theorem Aih (h0:ilt (ofNat b) (ofNat n) = true) (h17:ile 0 (ofNat b) = true) (h1:ilt (ofNat b) (ofNat m) = true) (h2:ieq (f b) (g b) = true):Al (Fn L) (LY n f m g) (Ka n f m g b j) = some (.nm,⟨(jsV 26 0 (fun _=>.und) [(0,(.sl 1 n (fun i=>iV (f i)))),(1,(.sl 1 m (fun i=>iV (g i)))),(4,(bV false)),(12,(nV n)),(13,(iV (wr .i64 (Af (ofNat b) 1))))]),[]⟩):=Aa [true,true,true,false] [ilt (ofNat b) (ofNat n),Ag (ile 0 (ofNat b)) (ilt (ofNat b) (ofNat n)),Ag (ile 0 (ofNat b)) (ilt (ofNat b) (ofNat m)),Am (ieq (f b) (g b))] (by kernel_rfl) (by simp only [*] <;> rfl)
end
def Vj (n:Nat) (f:Nat->Int) (m:Nat) (g:Nat->Int) :Nat->V:=lkV A8 [(6,(.sl 1 n (fun i=>iV (f i)))),(7,(nV n)),(8,(.sl 1 m (fun i=>iV (g i)))),(9,(nV m)),(10,(bV (Am (ieq (ofNat n) (ofNat m))))),(11,(.sl 1 n (fun i=>iV (f i))))]
theorem AgR (L:LT) (n:Nat) (f:Nat->Int) (m:Nat) (g:Nat->Int) (h0:ieq (ofNat n) (ofNat m) = false):(As (Aj tab ⟨Ao tb0,L,Gl⟩ Try.f105 [.sl 1 n (fun i=>iV (f i)),.sl 1 m (fun i=>iV (g i))] [])).sem = some ((bV false),[]):=Aa [true] [Am (ieq (ofNat n) (ofNat m))] (by kernel_rfl) (by simp only [h0] <;> rfl)
section
variable (L:LT) (p0:PT) (n:Nat) (f:Nat->Int) (m:Nat) (g:Nat->Int) (q:Nat)
include L p0 n f m g q
theorem AgS (h0:ieq (ofNat n) (ofNat m) = true) (hp0:p0 (Fn (onP 0 p0 (QL n f m g q) L)) (Ka n f m g 0 (Vj n f m g )) = true):(As (Aj tab ⟨Ao tb0,onP 0 p0 (QL n f m g q) L,Gl⟩ Try.f105 [.sl 1 n (fun i=>iV (f i)),.sl 1 m (fun i=>iV (g i))] [])).sem = some ((bV false),[]):=Aa [false,true] [Am (ieq (ofNat n) (ofNat m)),p0 (Fn (onP 0 p0 (QL n f m g q) L)) (Ka n f m g 0 (Vj n f m g ))] (by kernel_rfl) (by simp only [hp0] <;> simp only [h0] <;> rfl)
theorem AgT (h0:ieq (ofNat n) (ofNat m) = true) (hp0:p0 (Fn (onP 0 p0 (QM n f m g q) L)) (Ka n f m g 0 (Vj n f m g )) = true):(As (Aj tab ⟨Ao tb0,onP 0 p0 (QM n f m g q) L,Gl⟩ Try.f105 [.sl 1 n (fun i=>iV (f i)),.sl 1 m (fun i=>iV (g i))] [])).sem = some ((bV true),[]):=Aa [false,true] [Am (ieq (ofNat n) (ofNat m)),p0 (Fn (onP 0 p0 (QM n f m g q) L)) (Ka n f m g 0 (Vj n f m g ))] (by kernel_rfl) (by simp only [hp0] <;> simp only [h0] <;> rfl)
end
theorem XP (L:LT) (n:Nat) (f:Nat->Int) (m:Nat) (g:Nat->Int) (hn:n <= 4611686018427387904) (hm:n = m):∀ (e b:Nat) (j:Nat->V) (q:Nat),n = b+e->e < q->(∀ k,k < b->ieq (f k) (g k) = true) ->
    ((A7 (Fn L) (LY n f m g) q (Ka n f m g b j)).sem = some (QL n f m g 0) ∧ (Ai n fun k=>ieq (f k) (g k)) = false) ∨ ((A7 (Fn L) (LY n f m g) q (Ka n f m g b j)).sem = some (QM n f m g 0) ∧ (Ai n fun k=>ieq (f k) (g k)) = true)
  | 0,b,j,q+1,h,_,hb=>by
    have:n = b:=by omega
    subst this
    exact .inr ⟨Ac (Aij L n f m g n j (AA (Nat.le_refl _))),A4.2 hb⟩
  | e+1,b,j,q+1,h,h2,hb=>by
    have hl:b < n:=by omega
    cases hp:ieq (f b) (g b) with
    | false =>
      refine .inl ⟨?_,?_⟩
      · rw [Ac (Aii L n f m g b j (ofNat_lt hl) (AH b) (ofNat_lt (by omega)) hp),Du]
        rfl
      · cases ha:(Ai n fun k=>ieq (f k) (g k)) with
        | false=>rfl
        | true =>
          have:=A4.1 ha b hl
          rw [hp] at this
          cases this
    | true =>
      have next:=XP L n f m g hn hm e (b+1) (fun _=>.und) q (by omega) (by omega) fun k hk=>by
        by_cases hki:k = b
        · rw [hki]; exact hp
        · exact hb k (by omega)
      rw [Ac (Aih L n f m g b j (ofNat_lt hl) (AH b) (ofNat_lt (by omega)) hp),Av,Aq hl hn]
      exact next
theorem Air:AB Try.prog Gl 105 Ib:=by
  refine A1 AQ AR Try.func105 (by kernel_rfl) (by kernel_rfl) fun vs v h' h=>?_
  unfold Ib at h
  split at h
  · rename_i v1 u1
    obtain ⟨n,f,a1,h⟩:=BZ h
    obtain ⟨m,g,a2,h⟩:=BZ h
    obtain ⟨hn,h⟩:=Ah h
    have:=Ad h
    simp only [Prod.mk.injEq] at this
    obtain ⟨rfl,rfl⟩:=this
    have hA:Bw [v1,u1] [Il QU n f,Il QU m g]:=fun S w cs hv=>by
      obtain ⟨c,l,rfl,q1,c',l',rfl,q2,q3⟩:=hv
      exact ⟨c,_,rfl,a1 S w c q1,c',l',rfl,a2 S w c' q2,q3⟩
    have hx:=AP CW [(0,LY n f m g)] (G:=Gl)
    have hL:=AD [(0,LY n f m g)]
    refine ⟨_,AI Gl tb0 [(0,LY n f m g)],_,hA,rfl,hx.1,hx.2,?_,A6.refl _⟩
    cases hl:ieq (ofNat n) (ofNat m) with
    | false =>
      rw [show Bh n f m g = false from C5 hl]
      exact AgR _ n f m g hl
    | true =>
      rw [show Bh n f m g = _ from B5 hl]
      have h0:=fun L j=>XP L n f m g (F0 hn) (DQ hl) n 0 j (n+1) (by omega) (by omega) (fun k hk=>absurd hk (Nat.not_lt_zero _))
      cases ha:(Ai n fun k=>ieq (f k) (g k)) with
      | false=>exact A3 (Aw hL hL) _ (AgS _ _ n f m g 0 hl (An ((h0 _ _).elim (fun h=>h.1) fun h=>by have:=h.2; rw [ha] at this; cases this)))
      | true=>exact A3 (Aw hL hL) _ (AgT _ _ n f m g 0 hl (An ((h0 _ _).elim (fun h=>by have:=h.2; rw [ha] at this; cases this) fun h=>h.1)))
  · cases h
noncomputable def OG:List (Nat × (List V->T (V × List Blk))):=[(105,Ib)]
theorem Xq:AC Try.prog Gl OG:=.cons Air .nil
def LX (n:Nat) (_:Nat->Nat) (_:Nat->Nat->Int) (_:Nat) (_:Nat->Nat) (_:Nat->Nat->Int):Lp:=⟨(bmK 32 0 [0,1,2,6,15,16,17]),0,bmK 32 0 [6],0,n+1⟩
def JZ (n:Nat) (ln:Nat->Nat) (co:Nat->Nat->Int) (m:Nat) (ln':Nat->Nat) (co':Nat->Nat->Int) (b:Nat) (j:Nat->V):St:=⟨(jsV 32 0 j [(0,.sl 1 n (fun u=>.sl 1 (ln u) (fun i=>iV (co u i)))),(1,.sl 1 m (fun u=>.sl 1 (ln' u) (fun i=>iV (co' u i)))),(2,.fn 105 []),(6,bV false),(15,.sl 1 n (fun u=>.sl 1 (ln u) (fun i=>iV (co u i)))),(16,nV n),(17,nV b)]),[]⟩
def QJ (_:Nat) (_:Nat->Nat) (_:Nat->Nat->Int) (_:Nat) (_:Nat->Nat) (_:Nat->Nat->Int) (_:Nat):Ex × St:=(.rt,⟨(jsV 32 0 (fun _=>.und) [(6,bV false)]),[]⟩)
def QK (_:Nat) (_:Nat->Nat) (_:Nat->Nat->Int) (_:Nat) (_:Nat->Nat) (_:Nat->Nat->Int) (_:Nat):Ex × St:=(.ex 0,⟨(jsV 32 0 (fun _=>.und) [(6,bV false)]),[]⟩)
noncomputable def Fm (L:LT):St->T (Ex × St):=fun st=>AE tab ⟨Ao OG,L,Gl⟩ (Az Try.f106 0) 0 st
section
variable (L:LT) (n:Nat) (ln:Nat->Nat) (co:Nat->Nat->Int) (m:Nat) (ln':Nat->Nat) (co':Nat->Nat->Int) (b:Nat)  (j:Nat->V)
include L n ln co m ln' co' b j
theorem Aig (h0:ilt (ofNat b) (ofNat n) = false):Al (Fm L) (LX n ln co m ln' co') (JZ n ln co m ln' co' b j) = some ((.ex 0),⟨(jsV 32 0 (fun _=>.und) [(6,(bV false))]),[]⟩):=Aa [false] [ilt (ofNat b) (ofNat n)] (by kernel_rfl) (by simp only [h0] <;> rfl)
theorem Aif (h0:ilt (ofNat b) (ofNat n) = true) (h17:ile 0 (ofNat b) = true) (h1:ilt (ofNat b) (ofNat m) = true) (h18:Ab (ln b) = true) (h2:Bh (ln b) (co b) (ln' b) (co' b) = false):Al (Fm L) (LX n ln co m ln' co') (JZ n ln co m ln' co' b j) = some (.rt,⟨(jsV 32 0 (fun _=>.und) [(6,(bV false))]),[]⟩):=Aa (bbK 7 127) [ilt (ofNat b) (ofNat n),Ag (ile 0 (ofNat b)) (ilt (ofNat b) (ofNat n)),Ag (ile 0 (ofNat b)) (ilt (ofNat b) (ofNat m)),Ai (ln b) (fun _=>true),Ai (ln' b) (fun _=>true),Ab (ln b),Am (Bh (ln b) (co b) (ln' b) (co' b))] (by kernel_rfl) (by simp only [*,Ar] <;> rfl)
theorem Aie (h0:ilt (ofNat b) (ofNat n) = true) (h17:ile 0 (ofNat b) = true) (h1:ilt (ofNat b) (ofNat m) = true) (h18:Ab (ln b) = true) (h2:Bh (ln b) (co b) (ln' b) (co' b) = true):Al (Fm L) (LX n ln co m ln' co') (JZ n ln co m ln' co' b j) = some (.nm,⟨(jsV 32 0 (fun _=>.und) [(0,(.sl 1 n (fun u=>.sl 1 (ln u) (fun i=>iV (co u i))))),(1,(.sl 1 m (fun u=>.sl 1 (ln' u) (fun i=>iV (co' u i))))),(2,(.fn 105 [])),(6,(bV false)),(15,(.sl 1 n (fun u=>.sl 1 (ln u) (fun i=>iV (co u i))))),(16,(nV n)),(17,(iV (wr .i64 (Af (ofNat b) 1))))]),[]⟩):=Aa (bbK 7 63) [ilt (ofNat b) (ofNat n),Ag (ile 0 (ofNat b)) (ilt (ofNat b) (ofNat n)),Ag (ile 0 (ofNat b)) (ilt (ofNat b) (ofNat m)),Ai (ln b) (fun _=>true),Ai (ln' b) (fun _=>true),Ab (ln b),Am (Bh (ln b) (co b) (ln' b) (co' b))] (by kernel_rfl) (by simp only [*,Ar] <;> rfl)
end
def Vi (n:Nat) (ln:Nat->Nat) (co:Nat->Nat->Int) (m:Nat) (ln':Nat->Nat) (co':Nat->Nat->Int) :Nat->V:=lkV A8 [(10,(.sl 1 n (fun u=>.sl 1 (ln u) (fun i=>iV (co u i))))),(11,(nV n)),(12,(.sl 1 m (fun u=>.sl 1 (ln' u) (fun i=>iV (co' u i))))),(13,(nV m)),(14,(bV (Am (ieq (ofNat n) (ofNat m)))))]
theorem AgO (L:LT) (n:Nat) (ln:Nat->Nat) (co:Nat->Nat->Int) (m:Nat) (ln':Nat->Nat) (co':Nat->Nat->Int) (h0:ieq (ofNat n) (ofNat m) = false):(As (Aj tab ⟨Ao OG,L,Gl⟩ Try.f106 [.sl 1 n (fun u=>.sl 1 (ln u) (fun i=>iV (co u i))),.sl 1 m (fun u=>.sl 1 (ln' u) (fun i=>iV (co' u i))),.fn 105 []] [])).sem = some ((bV false),[]):=Aa [true] [Am (ieq (ofNat n) (ofNat m))] (by kernel_rfl) (by simp only [h0] <;> rfl)
section
variable (L:LT) (p0:PT) (n:Nat) (ln:Nat->Nat) (co:Nat->Nat->Int) (m:Nat) (ln':Nat->Nat) (co':Nat->Nat->Int) (q:Nat)
include L p0 n ln co m ln' co' q
theorem AgP (h0:ieq (ofNat n) (ofNat m) = true) (hp0:p0 (Fm (onP 0 p0 (QJ n ln co m ln' co' q) L)) (JZ n ln co m ln' co' 0 (Vi n ln co m ln' co' )) = true):(As (Aj tab ⟨Ao OG,onP 0 p0 (QJ n ln co m ln' co' q) L,Gl⟩ Try.f106 [.sl 1 n (fun u=>.sl 1 (ln u) (fun i=>iV (co u i))),.sl 1 m (fun u=>.sl 1 (ln' u) (fun i=>iV (co' u i))),.fn 105 []] [])).sem = some ((bV false),[]):=Aa [false,true] [Am (ieq (ofNat n) (ofNat m)),p0 (Fm (onP 0 p0 (QJ n ln co m ln' co' q) L)) (JZ n ln co m ln' co' 0 (Vi n ln co m ln' co' ))] (by kernel_rfl) (by simp only [hp0] <;> simp only [h0] <;> rfl)
theorem AgQ (h0:ieq (ofNat n) (ofNat m) = true) (hp0:p0 (Fm (onP 0 p0 (QK n ln co m ln' co' q) L)) (JZ n ln co m ln' co' 0 (Vi n ln co m ln' co' )) = true):(As (Aj tab ⟨Ao OG,onP 0 p0 (QK n ln co m ln' co' q) L,Gl⟩ Try.f106 [.sl 1 n (fun u=>.sl 1 (ln u) (fun i=>iV (co u i))),.sl 1 m (fun u=>.sl 1 (ln' u) (fun i=>iV (co' u i))),.fn 105 []] [])).sem = some ((bV true),[]):=Aa [false,true] [Am (ieq (ofNat n) (ofNat m)),p0 (Fm (onP 0 p0 (QK n ln co m ln' co' q) L)) (JZ n ln co m ln' co' 0 (Vi n ln co m ln' co' ))] (by kernel_rfl) (by simp only [hp0] <;> simp only [h0] <;> rfl)
end
theorem XO (L:LT) (n:Nat) (ln:Nat->Nat) (co:Nat->Nat->Int) (m:Nat) (ln':Nat->Nat) (co':Nat->Nat->Int) (hn:n <= 4611686018427387904) (hm:n = m) (hs:∀ k,k < n->Ab (ln k) = true):∀ (e b:Nat) (j:Nat->V) (q:Nat),n = b+e->e < q->(∀ k,k < b->Bh (ln k) (co k) (ln' k) (co' k) = true) ->
    ((A7 (Fm L) (LX n ln co m ln' co') q (JZ n ln co m ln' co' b j)).sem = some (QJ n ln co m ln' co' 0) ∧ (Ai n fun k=>Bh (ln k) (co k) (ln' k) (co' k)) = false) ∨ ((A7 (Fm L) (LX n ln co m ln' co') q (JZ n ln co m ln' co' b j)).sem = some (QK n ln co m ln' co' 0) ∧ (Ai n fun k=>Bh (ln k) (co k) (ln' k) (co' k)) = true)
  | 0,b,j,q+1,h,_,hb=>by
    have:n = b:=by omega
    subst this
    exact .inr ⟨Ac (Aig L n ln co m ln' co' n j (AA (Nat.le_refl _))),A4.2 hb⟩
  | e+1,b,j,q+1,h,h2,hb=>by
    have hl:b < n:=by omega
    cases hp:Bh (ln b) (co b) (ln' b) (co' b) with
    | false =>
      refine .inl ⟨?_,?_⟩
      · rw [Ac (Aif L n ln co m ln' co' b j (ofNat_lt hl) (AH b) (ofNat_lt (by omega)) (hs b hl) hp),Du]
        rfl
      · cases ha:(Ai n fun k=>Bh (ln k) (co k) (ln' k) (co' k)) with
        | false=>rfl
        | true =>
          have:=A4.1 ha b hl
          rw [hp] at this
          cases this
    | true =>
      have next:=XO L n ln co m ln' co' hn hm hs e (b+1) (fun _=>.und) q (by omega) (by omega) fun k hk=>by
        by_cases hki:k = b
        · rw [hki]; exact hp
        · exact hb k (by omega)
      rw [Ac (Aie L n ln co m ln' co' b j (ofNat_lt hl) (AH b) (ofNat_lt (by omega)) (hs b hl) hp),Av,Aq hl hn]
      exact next
theorem Akz:AB Try.prog Gl 106 PQ:=by
  refine A1 AQ AR Try.func106 (by kernel_rfl) (by kernel_rfl) fun vs v h' h=>?_
  unfold PQ at h
  split at h
  · rename_i v1 u1
    obtain ⟨n,C,a1,h⟩:=BZ h
    obtain ⟨m,D,a2,h⟩:=BZ h
    obtain ⟨hn,h⟩:=Ah h
    obtain ⟨hs,h⟩:=Ah h
    have hs:=A4.1 hs
    have:=Ad h
    simp only [Prod.mk.injEq] at this
    obtain ⟨rfl,rfl⟩:=this
    have hA:Bw [v1,u1,.fn 105 []] [.sl 1 n (fun u=>.sl 1 (C u).1 (fun i=>iV ((C u).2 i))),.sl 1 m (fun u=>.sl 1 (D u).1 (fun i=>iV ((D u).2 i))),.fn 105 []]:=fun S w cs hv=>by
      obtain ⟨c,l,rfl,q1,c',l',rfl,q2,q3⟩:=hv
      exact ⟨c,_,rfl,a1 S w c q1,c',l',rfl,a2 S w c' q2,q3⟩
    generalize hln:(fun i=>(C i).1) = ln
    generalize hco:(fun i=>(C i).2) = co
    generalize hln':(fun i=>(D i).1) = ln'
    generalize hco':(fun i=>(D i).2) = co'
    have hx:=AP Xq [(0,LX n ln co m ln' co')] (G:=Gl)
    have hL:=AD [(0,LX n ln co m ln' co')]
    refine ⟨_,AI Gl OG [(0,LX n ln co m ln' co')],_,hA,rfl,hx.1,hx.2,?_,A6.refl _⟩
    have hs:∀ k,k < n->Ab (ln k) = true:=fun k hk=>by rw [<- hln]; exact hs k hk
    have e1:∀ u,(C u).1 = ln u:=fun u=>by rw [<- hln]
    have e2:∀ u,(C u).2 = co u:=fun u=>by rw [<- hco]
    have e3:∀ u,(D u).1 = ln' u:=fun u=>by rw [<- hln']
    have e4:∀ u,(D u).2 = co' u:=fun u=>by rw [<- hco']
    simp only [e1,e2,e3,e4]
    cases hl:ieq (ofNat n) (ofNat m) with
    | false =>
      rw [show BJ n ln co m ln' co' = false from C5 hl]
      exact AgO _ n ln co m ln' co' hl
    | true =>
      rw [show BJ n ln co m ln' co' = _ from B5 hl]
      have h0:=fun L j=>XO L n ln co m ln' co' (F0 hn) (DQ hl) hs n 0 j (n+1) (by omega) (by omega) (fun k hk=>absurd hk (Nat.not_lt_zero _))
      cases ha:(Ai n fun k=>Bh (ln k) (co k) (ln' k) (co' k)) with
      | false=>exact A3 (Aw hL hL) _ (AgP _ _ n ln co m ln' co' 0 hl (An ((h0 _ _).elim (fun h=>h.1) fun h=>by have:=h.2; rw [ha] at this; cases this)))
      | true=>exact A3 (Aw hL hL) _ (AgQ _ _ n ln co m ln' co' 0 hl (An ((h0 _ _).elim (fun h=>by have:=h.2; rw [ha] at this; cases this) fun h=>h.1)))
  · cases h
noncomputable def PD:List (Nat × (List V->T (V × List Blk))):=[(103,Tz),(104,Tx),(105,Ib),(106,PQ)]
theorem ZU:AC Try.prog Gl PD:=.cons p103 <| .cons p104 <| .cons Air <| .cons Akz .nil
theorem Aat (a b c d e i j k:Bool):Ag a (Ag b (Ag c (Ag d (Ag e (Ag i (Ag j k)))))) = Ag a (Ag b (Ag c (Ag d (Ag (Ag e k) (Ag i (Ag j true)))))):=by
  cases a <;> cases b <;> cases c <;> cases d <;> cases e <;> cases i <;> cases j <;> cases k <;> rfl
section
variable (L:LT) (a:Int) (n:Nat) (g:Nat->E6) (m:Nat) (x:Nat->Ev5) (t k:Int) (p:Nat) (r:Nat->Int) (q:Nat) (ln:Nat->Nat) (co:Nat->Nat->Int) (a':Int) (n':Nat) (g':Nat->E6) (m':Nat) (x':Nat->Ev5) (t' k':Int) (p':Nat) (r':Nat->Int) (q':Nat) (ln':Nat->Nat) (co':Nat->Nat->Int)
include L a n g m x t k p r q ln co a' n' g' m' x' t' k' p' r' q' ln' co'
theorem AgG (h0:ieq a a' = false):(As (Aj tab ⟨Ao PD,L,Gl⟩ Try.f72 [.agg (shL a n g m x t k p r q ln co),.agg (shL a' n' g' m' x' t' k' p' r' q' ln' co')] [])).sem = some ((bV false),[]):=Aa (bbK 36 0) ((fun c0 c1=>[c0,c0,c0,c0,c0,c0,c1,c1,c1,c1,c1,c1,c1,c1,c1,c1,c1,c1,c1,c1,c1,c1,c1,c1,c1,c1,c1,c1,c1,c1,c1,c1,c1,c1,c1,c1]) (ieq a a') (false)) (by kernel_rfl) (by simp only [h0] <;> rfl)
theorem AgF (h0:ieq a a' = true) (h1:ieq t t' = false):(As (Aj tab ⟨Ao PD,L,Gl⟩ Try.f72 [.agg (shL a n g m x t k p r q ln co),.agg (shL a' n' g' m' x' t' k' p' r' q' ln' co')] [])).sem = some ((bV false),[]):=Aa (bbK 36 63) ((fun c0 c1 c2=>[c0,c0,c0,c0,c0,c0,c1,c1,c1,c1,c1,c1,c2,c2,c2,c2,c2,c2,c2,c2,c2,c2,c2,c2,c2,c2,c2,c2,c2,c2,c2,c2,c2,c2,c2,c2]) (ieq a a') (ieq t t') (false)) (by kernel_rfl) (by simp only [h0,h1] <;> rfl)
theorem AgE (h0:ieq a a' = true) (h1:ieq t t' = true) (h2:ieq k k' = false):(As (Aj tab ⟨Ao PD,L,Gl⟩ Try.f72 [.agg (shL a n g m x t k p r q ln co),.agg (shL a' n' g' m' x' t' k' p' r' q' ln' co')] [])).sem = some ((bV false),[]):=Aa (bbK 36 4095) ((fun c0 c1 c2 c3=>[c0,c0,c0,c0,c0,c0,c1,c1,c1,c1,c1,c1,c2,c2,c2,c2,c2,c2,c3,c3,c3,c3,c3,c3,c3,c3,c3,c3,c3,c3,c3,c3,c3,c3,c3,c3]) (ieq a a') (ieq t t') (ieq k k') (false)) (by kernel_rfl) (by simp only [*] <;> rfl)
theorem AgD (h0:ieq a a' = true) (h1:ieq t t' = true) (h2:ieq k k' = true) (h18:Ab n = true) (h3:Bm n g n' g' = false):(As (Aj tab ⟨Ao PD,L,Gl⟩ Try.f72 [.agg (shL a n g m x t k p r q ln co),.agg (shL a' n' g' m' x' t' k' p' r' q' ln' co')] [])).sem = some ((bV false),[]):=Aa (bbK 39 2097151) ((fun c0 c1 c2 c3 c4=>[c0,c0,c0,c0,c0,c0,c1,c1,c1,c1,c1,c1,c2,c2,c2,c2,c2,Ai n (fun _=>true),Ai n' (fun _=>true),Ab n,c2,c3,c3,c3,c3,c3,c3,c4,c4,c4,c4,c4,c4,c4,c4,c4,c4,c4,c4]) (ieq a a') (ieq t t') (ieq k k') (Bm n g n' g') (false)) (by kernel_rfl) (by simp only [*,Ar] <;> rfl)
theorem AgC (h0:ieq a a' = true) (h1:ieq t t' = true) (h2:ieq k k' = true) (h19:Ab n = true) (h3:Bm n g n' g' = true) (h20:Ab m = true) (h4:Ic m x m' x' = false):(As (Aj tab ⟨Ao PD,L,Gl⟩ Try.f72 [.agg (shL a n g m x t k p r q ln co),.agg (shL a' n' g' m' x' t' k' p' r' q' ln' co')] [])).sem = some ((bV false),[]):=Aa (bbK 42 1073741823) ((fun c0 c1 c2 c3 c4 c5=>[c0,c0,c0,c0,c0,c0,c1,c1,c1,c1,c1,c1,c2,c2,c2,c2,c2,Ai n (fun _=>true),Ai n' (fun _=>true),Ab n,c2,c3,c3,c3,c3,c3,Ai m (fun _=>true),Ai m' (fun _=>true),Ab m,c3,c4,c4,c4,c4,c4,c4,c5,c5,c5,c5,c5,c5]) (ieq a a') (ieq t t') (ieq k k') (Bm n g n' g') (Ic m x m' x') (false)) (by kernel_rfl) (by simp only [*,Ar] <;> rfl)
theorem AgB (h0:ieq a a' = true) (h1:ieq t t' = true) (h2:ieq k k' = true) (h20:Ab n = true) (h3:Bm n g n' g' = true) (h21:Ab m = true) (h4:Ic m x m' x' = true) (h22:Ab p = true) (h5:Bh p r p' r' = false):(As (Aj tab ⟨Ao PD,L,Gl⟩ Try.f72 [.agg (shL a n g m x t k p r q ln co),.agg (shL a' n' g' m' x' t' k' p' r' q' ln' co')] [])).sem = some ((bV false),[]):=Aa (bbK 45 549755813887) ((fun c0 c1 c2 c3 c4 c5=>[c0,c0,c0,c0,c0,c0,c1,c1,c1,c1,c1,c1,c2,c2,c2,c2,c2,Ai n (fun _=>true),Ai n' (fun _=>true),Ab n,c2,c3,c3,c3,c3,c3,Ai m (fun _=>true),Ai m' (fun _=>true),Ab m,c3,c4,c4,c4,c4,c4,Ai p (fun _=>true),Ai p' (fun _=>true),Ab p,c4,c5,c5,c5,c5,c5,c5]) (ieq a a') (ieq t t') (ieq k k') (Bm n g n' g') (Ic m x m' x') (Bh p r p' r')) (by kernel_rfl) (by simp only [*,Ar] <;> rfl)
theorem Ajf (h0:ieq a a' = true) (h1:ieq t t' = true) (h2:ieq k k' = true) (h21:Ab n = true) (h3:Bm n g n' g' = true) (h22:Ab m = true) (h4:Ic m x m' x' = true) (h23:Ab p = true) (h5:Bh p r p' r' = true) (h24:Ai q (fun i=>Ai (ln i) (fun _=>true)) = true) (h25:Ai q' (fun i=>Ai (ln' i) (fun _=>true)) = true) (h26:Ab q = true) (h27:Ai q (fun i=>Ab (ln i)) = true):(As (Aj tab ⟨Ao PD,L,Gl⟩ Try.f72 [.agg (shL a n g m x t k p r q ln co),.agg (shL a' n' g' m' x' t' k' p' r' q' ln' co')] [])).sem = some ((bV (BJ q ln (fun i i_1=>co i i_1) q' ln' (fun i i_1=>co' i i_1))),[]):=Aa (bbK 49 562949953421311) ((fun c0 c1 c2 c3 c4 c5=>[c0,c0,c0,c0,c0,c0,c1,c1,c1,c1,c1,c1,c2,c2,c2,c2,c2,Ai n (fun _=>true),Ai n' (fun _=>true),Ab n,c2,c3,c3,c3,c3,c3,Ai m (fun _=>true),Ai m' (fun _=>true),Ab m,c3,c4,c4,c4,c4,c4,Ai p (fun _=>true),Ai p' (fun _=>true),Ab p,c4,c5,c5,c5,c5,c5,Ai q (fun i=>Ai (ln i) (fun _=>true)),Ai q' (fun i=>Ai (ln' i) (fun _=>true)),Ab q,Ai q (fun i=>Ab (ln i)),c5]) (ieq a a') (ieq t t') (ieq k k') (Bm n g n' g') (Ic m x m' x') (Bh p r p' r')) (by kernel_rfl) (by simp only [*,Ar] <;> rfl)
end
theorem p72:AB Try.prog Gl 72 JA:=by
  refine A1 AQ AR Try.func72 (by kernel_rfl) (by kernel_rfl) fun vs v h' h=>?_
  unfold JA at h
  split at h
  · rename_i v1 u1
    obtain ⟨s,a1,h⟩:=Ci h
    obtain ⟨s',a2,h⟩:=Ci h
    obtain ⟨hn,h⟩:=Ah h
    have:=Ad h
    simp only [Prod.mk.injEq] at this
    obtain ⟨rfl,rfl⟩:=this
    obtain ⟨a,n,g,m,x,t,k,p,r,q,C⟩:=s
    obtain ⟨a',n',g',m',x',t',k',p',r',q',D⟩:=s'
    have hA:Bw [v1,u1] [.agg [iV a,.sl 6 n (fun i=>eV (g i)),.sl 5 m (fun i=>evV (x i)),iV t,iV k,.sl 1 p (fun i=>iV (r i)),.sl 1 q (fun u=>.sl 1 (C u).1 (fun i=>iV ((C u).2 i)))],
        .agg [iV a',.sl 6 n' (fun i=>eV (g' i)),.sl 5 m' (fun i=>evV (x' i)),iV t',iV k',.sl 1 p' (fun i=>iV (r' i)),.sl 1 q' (fun u=>.sl 1 (D u).1 (fun i=>iV ((D u).2 i)))]]:=fun S w cs hv=>by
      obtain ⟨c,l,rfl,q1,c',l',rfl,q2,q3⟩:=hv
      exact ⟨c,_,rfl,a1 S w c q1,c',l',rfl,a2 S w c' q2,q3⟩
    have hn:Ab n = true ∧ Ab m = true ∧ Ab p = true ∧ Ab q = true ∧ (Ai q fun i=>Ab (C i).1) = true:=by simpa [Dx,Ag] using hn
    obtain ⟨n1,n2,n3,n4,n5⟩:=hn
    unfold OQ
    dsimp only
    generalize hln:(fun i=>(C i).1) = ln
    generalize hco:(fun i=>(C i).2) = co
    generalize hln':(fun i=>(D i).1) = ln'
    generalize hco':(fun i=>(D i).2) = co'
    have hx:=AP ZU [] (G:=Gl)
    refine ⟨_,AI Gl PD [],_,hA,rfl,hx.1,hx.2,?_,A6.refl _⟩
    have e1:∀ u,(C u).1 = ln u:=fun u=>by rw [<- hln]
    have e2:∀ u,(C u).2 = co u:=fun u=>by rw [<- hco]
    have e3:∀ u,(D u).1 = ln' u:=fun u=>by rw [<- hln']
    have e4:∀ u,(D u).2 = co' u:=fun u=>by rw [<- hco']
    simp only [e1,e2,e3,e4] at n5 ⊢
    have Cs:∀ (q:Nat) (ln:Nat->Nat),(Ai q fun i=>Ai (ln i) fun _=>true) = true:=fun _ _=>A4.2 fun _ _=>A4.2 fun _ _=>rfl
    rw [Aat,show (Ag (ieq (ofNat m) (ofNat m')) (Ai m fun k=>Cf (x k) (x' k))) = Ic m x m' x' from rfl]
    cases c0:ieq a a' with
    | false=>rw [C5 rfl]; exact AgG _ a n g m x t k p r q ln co a' n' g' m' x' t' k' p' r' q' ln' co' c0
    | true =>
    rw [B5 rfl]
    cases c1:ieq t t' with
    | false=>rw [C5 rfl]; exact AgF _ a n g m x t k p r q ln co a' n' g' m' x' t' k' p' r' q' ln' co' c0 c1
    | true =>
    rw [B5 rfl]
    cases c2:ieq k k' with
    | false=>rw [C5 rfl]; exact AgE _ a n g m x t k p r q ln co a' n' g' m' x' t' k' p' r' q' ln' co' c0 c1 c2
    | true =>
    rw [B5 rfl]
    cases c3:Bm n g n' g' with
    | false=>rw [C5 rfl]; exact AgD _ a n g m x t k p r q ln co a' n' g' m' x' t' k' p' r' q' ln' co' c0 c1 c2 n1 c3
    | true =>
    rw [B5 rfl]
    cases c4:Ic m x m' x' with
    | false=>rw [C5 rfl]; exact AgC _ a n g m x t k p r q ln co a' n' g' m' x' t' k' p' r' q' ln' co' c0 c1 c2 n1 c3 n2 c4
    | true =>
    rw [B5 rfl]
    cases c5:Bh p r p' r' with
    | false=>rw [C5 rfl]; exact AgB _ a n g m x t k p r q ln co a' n' g' m' x' t' k' p' r' q' ln' co' c0 c1 c2 n1 c3 n2 c4 n3 c5
    | true =>
    rw [B5 rfl]
    rw [show Ag (BJ q ln co q' ln' co') true = BJ q ln co q' ln' co' by cases BJ q ln co q' ln' co' <;> rfl]
    exact Ajf _ a n g m x t k p r q ln co a' n' g' m' x' t' k' p' r' q' ln' co' c0 c1 c2 n1 c3 n2 c4 n3 c5 (Cs _ _) (Cs _ _) n4 n5
  · cases h
end Go.Proofs.Ytjhnfomefcngfaa.Sh
