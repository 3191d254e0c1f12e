/-
  Layer 6, plain: the program's cycles and the document's are the same. Conditions: edges have codes.
-/
import Derived.Test.YtkbgidbledjejaaGreatEnT
import Derived.Test.YtkbgidbledjejaaGreatCyT
namespace Go.Proofs.YtkbgidbledjejaaGreat.En
open Go.Sy Go Go.Proofs.YtkbgidbledjejaaGreat.Ed
open Int (ofNat)
section
variable {A:Int} {m:Nat} {v1 v2:Nat->E6} {keep:Nat->Bool}
theorem Na {l:List Nat} (h:l.Pairwise (·<·)):∀ {i j:Nat},i<j->j<l.length->l.getD i 0<l.getD j 0:=fun {i j} hi hj=>by
 rw [List.getD_eq_getElem?_getD,List.getD_eq_getElem?_getD,List.getElem?_eq_getElem (by omega),List.getElem?_eq_getElem hj];exact List.pairwise_iff_getElem.1 h i j (by omega) hj hi
theorem TU:((List.range m).filter keep).Pairwise (·<·):=List.Pairwise.filter _ List.pairwise_lt_range
abbrev sg (m:Nat) (keep:Nat->Bool) (j:Nat):Nat:=((List.range m).filter keep).getD j 0
theorem Ak3:(List.range ((List.range m).filter keep).length).map (sg m keep)=(List.range m).filter keep:=by
 refine List.ext_getElem (by simp) λi h1 h2=>?_;simp [sg,List.getD_eq_getElem?_getD,List.getElem?_eq_getElem h2]
theorem Zw (s:Nat->Nat):∀ {r:List Nat},r ≠ []->Cj (r.map s)=s (Cj r)
 | [x],_=>rfl
 | x::y::r,_=>by
  show Cj (s x::s y::r.map s)=_;rw [Cj,Cj];exact Zw s (r:=y::r) (by simp)
theorem AbE (s:Nat->Nat) {r:List Nat} {i:Nat} (h:i<r.length):wd (r.map s) i=s (wd r i):=by
 unfold wd;rw [<- List.map_reverse,List.getD_eq_getElem?_getD,List.getD_eq_getElem?_getD,List.getElem?_map,List.getElem?_eq_getElem (by simpa using h)];rfl
variable (hv:∀ j,j<((List.range m).filter keep).length->v2 j=v1 (sg m keep j))
include hv
theorem VZ {r:List Nat} (hr:∀ e,e ∈ r->e<((List.range m).filter keep).length):BQ A v1 (r.map (sg m keep))=BQ A v2 r:=by
 unfold BQ;rw [List.length_map];exact Ny λi hi=>by
  show v1 (wd (r.map (sg m keep)) i)=v2 (wd r i);rw [AbE _ hi,hv _ (hr _ (MN hi))]
theorem Akk {r:List Nat} (hr:∀ e,e ∈ r->e<((List.range m).filter keep).length) {j:Nat} (hj:j<((List.range m).filter keep).length):okP v1 (r.map (sg m keep)) (sg m keep j)=okP v2 r j:=by
 cases r with
 | nil=>rfl
 | cons y t =>
  have hf:=Gp (r:=y::t) (by simp) hr;show (ieq (v1 (sg m keep y)).dst (v1 (sg m keep j)).src && Nat.ble (Cj ((y::t).map (sg m keep))) (sg m keep j))=(ieq (v2 y).dst (v2 j).src && Nat.ble (Cj (y::t)) j);rw [Zw _ (by simp),<- hv y (hr y (by simp)),<- hv j hj];congr 1;rw [Bool.eq_iff_iff,Nat.ble_eq,Nat.ble_eq];rcases Nat.lt_trichotomy (Cj (y::t)) j with h | h | h
  ·have:=Na TU h hj
   unfold sg; omega
  ·rw [h]; omega
  ·have:=Na TU h hf
   unfold sg; omega
theorem AcV:∀ (d:Nat) (r:List Nat),(∀ e,e ∈ r->e<((List.range m).filter keep).length)->onL m (okP v1) (BQ A v1) keep d (r.map (sg m keep))=(onL ((List.range m).filter keep).length (okP v2) (BQ A v2) (λ_=>true) d r).map (List.map (sg m keep))
 | 0,r,hr=>by
  unfold onL;rw [VZ hv hr];cases BQ A v2 r <;> rfl
 | d+1,r,hr=>by
  rw [onL,onL,VZ hv hr,List.map_append,List.filter_eq_self.2 (λ_ _=>rfl:∀ a,a ∈ List.range ((List.range m).filter keep).length->(λ_=>true) a=true)];congr 1
  ·cases BQ A v2 r <;> rfl
  ·conv=>lhs; rw [<- Ak3]
   rw [List.flatMap_map,List.map_flatMap];refine DF λj hj=>?_;have hj:=List.mem_range.1 hj;rw [Akk hv hr hj];cases okP v2 r j with
   | false=>rfl
   | true =>
    refine AcV d (j::r) λe he=>?_;rcases List.mem_cons.1 he with rfl | he
    ·exact hj
    ·exact hr e he
omit hv in
theorem AhS:∀ (d:Nat) (r:List Nat) (D:List Nat),(∀ e,e ∈ r->e<m)->D ∈ onL m (okP v2) (BQ A v2) keep d r->∀ e,e ∈ D->e<m
 | 0,r,D,hr,hD=>by
  unfold onL at hD;cases hg:BQ A v2 r with
  | false=>rw [hg] at hD; cases hD
  | true =>rw [hg] at hD;simp at hD;subst hD;exact hr
 | d+1,r,D,hr,hD=>by
  rw [onL] at hD;rcases List.mem_append.1 hD with hD | hD
  ·cases hg:BQ A v2 r with
   | false=>rw [hg] at hD; cases hD
   | true =>rw [hg] at hD;simp at hD;subst hD;exact hr
  ·obtain ⟨e,he,hD⟩:=List.mem_flatMap.1 hD
   cases ho:okP v2 r e with
   | false=>rw [ho] at hD; cases hD
   | true =>
    rw [ho] at hD;exact AhS d (e::r) D (λx hx=>by
     rcases List.mem_cons.1 hx with rfl | hx
     ·exact List.mem_range.1 (List.mem_filter.1 he).1
     ·exact hr x hx) hD
end
theorem Agj {a b:Nat} (h:ilt (sgI (ofNat a) (ofNat b)) 0=true):a<b:=by
 unfold sgI at h;cases h1:ilt (ofNat a) (ofNat b) with
 | true =>have:(a:Int)<(b:Int):=of_decide_eq_true h1;omega
 | false =>rw [h1] at h;cases h2:ilt (ofNat b) (ofNat a) <;> rw [h2] at h <;> cases h
theorem Acn {a b:Nat} (h:ieq (sgI (ofNat a) (ofNat b)) 0=true):a=b:=by
 unfold sgI at h;cases h1:ilt (ofNat a) (ofNat b) with
 | true=>rw [h1] at h; cases h
 | false =>
  rw [h1] at h;cases h2:ilt (ofNat b) (ofNat a) with
  | true=>rw [h2] at h; cases h
  | false =>have h1:¬ ((a:Int)<(b:Int)):=of_decide_eq_false h1;have h2:¬ ((b:Int)<(a:Int)):=of_decide_eq_false h2;omega
theorem Q7 {q:Nat->Bool}:∀ {d i t:Nat},A0 q d i=some t->∀ j,i <= j->j<t->q j=false
 | 0,_,_,h,_,_,_=>by cases h
 | d+1,i,t,h,j,h1,h2=>by
  cases hq:q i with
  | true=>rw [EE hq] at h; cases h; omega
  | false =>
   rw [EF hq] at h;rcases Nat.eq_or_lt_of_le h1 with rfl | h1
   ·exact hq
   ·exact Q7 h j h1 h2
theorem AkB {r:List Nat} (h:Ue r.length (wdI r)=true):Hop r:=by
 unfold Ue at h;cases hf:A0 (Ud r.length (wdI r)) (r.length-1) 1 with
 | none=>rw [hf] at h; cases h
 | some i =>
  obtain ⟨h1,h2,h3⟩:=EX hf;unfold Ud cmpI tO at h3;cases hg:A0 (sgQ (λj=>wdI r (Bv i j)) (wdI r)) (FB r.length i) 0 with
  | none=>rw [hg] at h3; cases h3
  | some t =>
   rw [hg] at h3;obtain ⟨_,g2,_⟩:=EX hg;have g2:t<0+(r.length-i):=g2;refine ⟨i,t,by omega,λj hj=>?_,?_⟩
   ·have:=Q7 hg j (Nat.zero_le _) hj
    have:AN (ieq (sgI (wdI r (i+j)) (wdI r j)) 0)=false:=this;refine Acn ?_;cases hq:ieq (sgI (wdI r (i+j)) (wdI r j)) 0 with
    | true=>rfl
    | false=>rw [hq] at this; cases this
   ·exact Agj h3
theorem Agw {n:Int} {N m:Nat} {v:Nat->E6} (hn:n=ofNat N) {r:List Nat} (h0:r ≠ []) (h:Fx n m v r=false):N <= r.length ∨ Hop r ∨ ∃ y t,r=y::t∧(v y).dst ≠ (v (Cj (y::t))).src∧∀ e,e<m->(v e).src=(v y).dst->(v e).dst=(v (Cj (y::t))).src->False:=by
 unfold Fx PM at h;cases h1:ilt (ofNat r.length) n with
 | false =>have:¬ ((r.length:Int)<n):=of_decide_eq_false h1;rw [hn] at this;exact .inl (by simp only [Int.ofNat_eq_natCast] at this; omega)
 | true =>
  rw [h1] at h;cases h2:Ue r.length (wdI r) with
  | true=>exact .inr (.inl (AkB h2))
  | false =>
   rw [h2] at h;have h:JB n m v r.length (wdI r)=false:=h;unfold JB at h
   match r,h0 with
   | y::t,_ =>
    rw [show wdI (y::t) ((y::t).length-1)=ofNat y from congrArg ofNat Gy,show wdI (y::t) 0=ofNat (Cj (y::t)) from congrArg ofNat (ZY (by simp)),show toN (ofNat y)=y from rfl,show toN (ofNat (Cj (y::t)))=Cj (y::t) from rfl,h1] at h;refine .inr (.inr ⟨y,t,rfl,λe=>?_,λe he e1 e2=>?_⟩)
    ·rw [e,eI] at h; cases h
    ·cases h3:ieq (v y).dst (v (Cj (y::t))).src with
     | true=>rw [h3] at h; cases h
     | false =>
      rw [h3] at h;have h:VT m v (v y) (v (Cj (y::t)))=false:=h;unfold VT at h;cases h4:A0 (Xf v (v y) (v (Cj (y::t)))) m 0 with
      | some t=>rw [h4] at h; cases h
      | none =>
       have:=CJ.1 h4 e (Nat.zero_le _) (by omega);have h5:Tw (v e) (v y) (v (Cj (y::t)))=true:=by
        unfold Tw;rw [e1,e2,eI,eI];rfl
       rw [show Xf v (v y) (v (Cj (y::t))) e=Tw (v e) (v y) (v (Cj (y::t))) from rfl,h5] at this;cases this
theorem AgQ {A:Int} {v:Nat->E6} {d:List Nat} (h:BQ A v d=true):Good A v d:=by
 unfold BQ isB at h;cases h1:ieq (Gr A d.length (wE v d)).1 0 with
 | false=>rw [h1] at h; cases h
 | true =>
  cases h2:BF d.length (wE v d) with
  | false=>rw [h1,h2] at h; cases h
  | true =>rw [h1,h2] at h;exact ⟨Qq h1,(FV.1 h).2⟩
section
variable {k:Nat} {w:Nat->E6}
theorem Zr {z:Int}:∀ {k:Nat},hsC w k (.i z)=true↔∃ j,j<k∧Ao (w j)=z
 | 0=>⟨λh=>(by cases h),λ⟨_,h,_⟩=>absurd h (Nat.not_lt_zero _)⟩
 | k+1=>by
  show bor (ieq z (Ao (w k))) (hsC w k (.i z))=true↔_;have ih:=Zr (z:=z) (k:=k);constructor
  ·intro h
   cases h1:ieq z (Ao (w k)) with
   | true=>exact ⟨k,by omega,(Ct h1).symm⟩
   | false =>rw [h1] at h;obtain ⟨j,h2,h3⟩:=ih.1 h;exact ⟨j,by omega,h3⟩
  ·rintro ⟨j,h1,h2⟩
   rcases Nat.eq_or_lt_of_le (Nat.le_of_lt_succ h1) with rfl | h3
   ·rw [h2,eI]; rfl
   ·rw [ih.2 ⟨j,h3,h2⟩]
    cases ieq z (Ao (w k)) <;> rfl
theorem AdZ {z:Int}:∀ {k:Nat},hsC w k (.i z)=true->∃ j,j<k∧Ao (w j)=z∧gtC w k (.i z)=w j
 | 0,h=>by cases h
 | k+1,h=>by
  have h:bor (ieq z (Ao (w k))) (hsC w k (.i z))=true:=h;show ∃ j,j<k+1∧Ao (w j)=z∧(bif ieq z (Ao (w k)) then w k else gtC w k (.i z))=w j;cases h1:ieq z (Ao (w k)) with
  | true=>exact ⟨k,by omega,(Ct h1).symm,rfl⟩
  | false =>rw [h1] at h;obtain ⟨j,h2,h3,h4⟩:=AdZ h;exact ⟨j,by omega,h3,h4⟩
theorem Tn {x:Nat}:∀ {k:Nat},thC w k x=true↔∃ j,j<k∧toN (Ao (w j))=x
 | 0=>⟨λh=>(by cases h),λ⟨_,h,_⟩=>absurd h (Nat.not_lt_zero _)⟩
 | k+1=>by
  show (bif Nat.beq x (toN (Ao (w k))) then true else thC w k x)=true↔_;have ih:=Tn (x:=x) (k:=k);constructor
  ·intro h
   cases h1:Nat.beq x (toN (Ao (w k))) with
   | true=>exact ⟨k,by omega,(Nat.eq_of_beq_eq_true h1).symm⟩
   | false =>rw [h1] at h;obtain ⟨j,h2,h3⟩:=ih.1 h;exact ⟨j,by omega,h3⟩
  ·rintro ⟨j,h1,h2⟩
   rcases Nat.eq_or_lt_of_le (Nat.le_of_lt_succ h1) with rfl | h3
   ·rw [h2,Nat.beq_refl]; rfl
   ·rw [ih.2 ⟨j,h3,h2⟩]
    cases Nat.beq x (toN (Ao (w k))) <;> rfl
theorem X3 {p r:Int}:∀ {k:Nat},oC w p r k=true↔∃ j,j<k∧(w j).src=p∧(w j).dst=r
 | 0=>⟨λh=>(by cases h),λ⟨_,h,_⟩=>absurd h (Nat.not_lt_zero _)⟩
 | k+1=>by
  show oS (oC w p r k) (w k) p r=true↔_;have ih:=X3 (p:=p) (r:=r) (k:=k);unfold oS;constructor
  ·intro h
   cases h0:oC w p r k with
   | true =>obtain ⟨j,h2,h3⟩:=ih.1 h0;exact ⟨j,by omega,h3⟩
   | false =>
    rw [h0] at h;cases h1:ieq (w k).src p with
    | false=>rw [h1] at h; cases h
    | true=>rw [h1] at h; exact ⟨k,by omega,Ct h1,Ct h⟩
  ·rintro ⟨j,h1,h2,h3⟩
   rcases Nat.eq_or_lt_of_le (Nat.le_of_lt_succ h1) with rfl | h4
   ·rw [h2,h3,eI,eI]
    cases oC w p r j <;> rfl
   ·rw [ih.2 ⟨j,h4,h2,h3⟩]
    rfl
theorem Ls (hs:Key->Bool):∀ c,F4 hs c=(List.range c).filter λb=>hs (.i (ofNat b))
 | 0=>rfl
 | c+1=>by
  rw [F4,List.range_succ,List.filter_append,Ls hs c];cases h:hs (.i (ofNat c)) with
  | true =>rw [List.filter_cons_of_pos (p:=λb=>hs (.i (ofNat b))) h];rfl
  | false =>rw [List.filter_cons_of_neg (p:=λb=>hs (.i (ofNat b))) (by rw [h]; decide),List.filter_nil,List.append_nil];rfl
theorem VH (th:Nat->Bool) (o c:Bool):∀ b,Ce th o c b=(List.range b).filter (GX th o c)
 | 0=>rfl
 | b+1=>by
  rw [Ce,List.range_succ,List.filter_append,VH th o c b];cases h:GX th o c b <;> simp [h]
end
section
variable {A:Int} {k N:Nat} {w:Nat->E6} (hw:BF k w=true)
abbrev cL (k:Nat) (w:Nat->E6):List Nat:=F4 (hsC w k) 112
include hw
theorem ZE {j:Nat} (hj:j<k):∃ c,c<112∧AE (w j)=0∧Ao (w j)=ofNat c∧B8 c=w j:=by
 rcases BW (w j) with ⟨c,hc,h1,h2,h3,_⟩ | ⟨hb,_⟩
 ·exact ⟨c,hc,h1,h2,h3⟩
 ·rw [BO.1 hw j hj] at hb; cases hb
theorem Pf {i:Nat} (hi:i<E9 k w):(cL k w).getD i 0<112∧El k w i=B8 ((cL k w).getD i 0)∧∃ j,j<k∧El k w i=w j:=by
 have hmem:(cL k w).getD i 0 ∈ cL k w:=by
  rw [List.getD_eq_getElem?_getD,List.getElem?_eq_getElem hi];exact List.getElem_mem hi
 rw [show cL k w=(List.range 112).filter λb=>hsC w k (.i (ofNat b)) from Ls _ _] at hmem;obtain ⟨h1,h2⟩:=List.mem_filter.1 hmem;rw [show (List.range 112).filter (λb=>hsC w k (.i (ofNat b)))=cL k w from (Ls _ _).symm] at h1 h2;obtain ⟨j,hj,h3,h4⟩:=AdZ h2;obtain ⟨c,hc,_,h5,h6⟩:=ZE hw hj;have h7:c=(cL k w).getD i 0:=Int.ofNat.inj (h5.symm.trans h3);exact ⟨List.mem_range.1 h1,h4.trans (by rw [<- h6,h7]),j,hj,h4⟩
theorem Lr {i:Nat} (hi:i<E9 k w):AE (El k w i)=0∧Ao (El k w i)=ofNat ((cL k w).getD i 0):=by
 obtain ⟨h1,h2,j,hj,h3⟩:=Pf hw hi;refine ⟨by rw [h3]; exact BO.1 hw j hj,?_⟩;rw [h2];exact Np h1
theorem AbJ {i j:Nat} (hij:i<j) (hj:j<E9 k w):Ao (El k w i)<Ao (El k w j):=by
 rw [(Lr hw hj).2,(Lr hw (show i<E9 k w by omega)).2];have hp:(cL k w).Pairwise (·<·):=by
  rw [show cL k w=(List.range 112).filter λb=>hsC w k (.i (ofNat b)) from Ls _ _];exact TU
 have:=Na hp hij hj;exact Int.ofNat_lt.2 this
def F2 (k:Nat) (w:Nat->E6) (e:Nat):Bool:=GX (thC w k) (oC w 1 2 k) (oC w 2 1 k) ((cL k w).getD e 0)
theorem AlO {b:Nat}:thC w k b=hsC w k (.i (ofNat b)):=by
 rw [Bool.eq_iff_iff,Tn,Zr];constructor
 ·rintro ⟨j,hj,h⟩
  obtain ⟨c,_,_,h2,_⟩:=ZE hw hj;refine ⟨j,hj,?_⟩;rw [h2] at h ⊢;exact congrArg ofNat h
 ·rintro ⟨j,hj,h⟩
  exact ⟨j,hj,by rw [h]; rfl⟩
theorem Qm:DV k w=((List.range (E9 k w)).filter (F2 k w)).map λe=>(cL k w).getD e 0:=by
 have h1:(List.range (E9 k w)).map (λe=>(cL k w).getD e 0)=cL k w:=List.ext_getElem (by simp) λi h1 h2=>by simp [List.getD_eq_getElem?_getD,List.getElem?_eq_getElem h2]
 have h2:((List.range (E9 k w)).filter (F2 k w)).map (λe=>(cL k w).getD e 0)=(cL k w).filter (GX (thC w k) (oC w 1 2 k) (oC w 2 1 k)):=by
  conv=>rhs; rw [<- h1]
  rw [List.filter_map];rfl
 rw [h2];unfold DV;rw [VH,show cL k w=(List.range 112).filter λb=>hsC w k (.i (ofNat b)) from Ls _ _,List.filter_filter];refine List.filter_congr λb _=>?_;rw [<- AlO hw];unfold GX;cases thC w k b <;> simp [sel]
theorem AdH {e:Nat} (he:e<E9 k w) (h:Alm (El k w) (E9 k w) e):F2 k w e=true:=by
 obtain ⟨h1,h2,j,hj,h3⟩:=Pf hw he;unfold F2 GX;have ht:thC w k ((cL k w).getD e 0)=true:=Tn.2 ⟨j,hj,by rw [<- h3,(Lr hw he).2]; rfl⟩;rw [ht,<- h2];rcases h with h | ⟨⟨i,hi,h4,h5⟩,i',hi',h6,h7⟩
 ·rw [h,eI]; rfl
 ·obtain ⟨_,_,a,ha,h8⟩:=Pf hw hi
  obtain ⟨_,_,b,hb,h9⟩:=Pf hw hi';rw [X3.2 ⟨a,ha,by rw [<- h8]; exact h4,by rw [<- h8]; exact h5⟩,X3.2 ⟨b,hb,by rw [<- h9]; exact h6,by rw [<- h9]; exact h7⟩];cases ieq (El k w e).src (El k w e).dst <;> rfl
theorem Ae3 (hN:0<N):FY (El k w) (HH A k w (ofNat N))=FY (mkE (DV k w)) (K8 A k w (ofNat N))∧(HH A k w (ofNat N)).length=(K8 A k w (ofNat N)).length:=by
 have h1:=Aap (a:=A) (v:=El k w) (m:=E9 k w) (n:=N) (λi hi=>(Lr hw hi).1) (λi j hij hj=>AbJ hw hij hj) (opn:=Fx (ofNat N) (E9 k w) (El k w)) (good:=BQ A (El k w)) (keep:=F2 k w) (λd _ h=>AgQ h) (λr h=>KJ rfl h) (λr h0 _ h=>Agw rfl h0 h) (λe he h=>AdH hw he h) hN;have h2:HH A k w (ofNat N)=onL (E9 k w) (okP (El k w)) (BQ A (El k w)) (F2 k w) N []:=h1;have hlen:(DV k w).length=((List.range (E9 k w)).filter (F2 k w)).length:=by rw [Qm hw,List.length_map]
 have hv:∀ j,j<((List.range (E9 k w)).filter (F2 k w)).length->mkE (DV k w) j=El k w (sg (E9 k w) (F2 k w) j):=λj hj=>by
  have hs:sg (E9 k w) (F2 k w) j<E9 k w:=by
   unfold sg;rw [List.getD_eq_getElem?_getD,List.getElem?_eq_getElem hj];exact List.mem_range.1 (List.mem_filter.1 (List.getElem_mem hj)).1
  rw [(Pf hw hs).2.1];unfold mkE;rw [Qm hw,List.getD_eq_getElem?_getD,List.getElem?_map,List.getElem?_eq_getElem hj];unfold sg;rw [List.getD_eq_getElem?_getD (l:=(List.range (E9 k w)).filter (F2 k w)),List.getElem?_eq_getElem hj];rfl
 have h3:=AcV (A:=A) (m:=E9 k w) (v1:=El k w) (v2:=mkE (DV k w)) (keep:=F2 k w) hv N [] (λe he=>by cases he);have h4:K8 A k w (ofNat N)=onL ((List.range (E9 k w)).filter (F2 k w)).length (okP (mkE (DV k w))) (BQ A (mkE (DV k w))) (λ_=>true) N []:=by
  unfold K8 onW;rw [hlen];rfl
 rw [h2,show onL (E9 k w) (okP (El k w)) (BQ A (El k w)) (F2 k w) N []=_ from h3,<- h4];refine ⟨?_,by rw [List.length_map]⟩;unfold FY;rw [List.map_map];refine List.map_congr_left λd hd=>?_;rw [h4] at hd;have hin:=AhS (A:=A) (v2:=mkE (DV k w)) (m:=((List.range (E9 k w)).filter (F2 k w)).length) (keep:=λ_=>true) N [] d (λe he=>by cases he) hd;show (List.range (d.map (sg (E9 k w) (F2 k w))).length).map (wE (El k w) (d.map (sg (E9 k w) (F2 k w))))=(List.range d.length).map (wE (mkE (DV k w)) d);rw [List.length_map];refine List.map_congr_left λi hi=>?_;have hi:=List.mem_range.1 hi;show El k w (wd (d.map (sg (E9 k w) (F2 k w))) i)=mkE (DV k w) (wd d i);rw [AbE _ hi,hv _ (hin _ (MN hi))]
end
theorem Ae4 (A:Int) (k:Nat) (w:Nat->E6) (n q:Int):Ew A k w n q=EY A k w n q∧CL A k w n q=Gd A k w n q:=by
 cases h1:ieq (E3 A k w n) 0 with
 | false =>
  have he:Ew A k w n q=E3 A k w n:=by unfold Ew; rw [h1]; rfl
  have he2:EY A k w n q=E3 A k w n:=by unfold EY; rw [h1]; rfl
  refine ⟨he.trans he2.symm,?_⟩;unfold CL Gd;rw [he,he2,h1];rfl
 | true =>
  obtain ⟨g1,g2,g3,g4⟩:=TE h1;have g2':¬ n<2:=of_decide_eq_false g2;obtain ⟨N,rfl⟩:∃ N:Nat,n=ofNat N:=⟨n.toNat,(Int.toNat_of_nonneg (by omega)).symm⟩;have hN:0<N:=by simp only [Int.ofNat_eq_natCast] at *; omega
  obtain ⟨e1,e2⟩:=Ae3 (A:=A) g1 hN;have he:Ew A k w (ofNat N) q=EY A k w (ofNat N) q:=by unfold Ew EY; rw [e2]
  refine ⟨he,?_⟩;unfold CL Gd;rw [he,e1]
end Go.Proofs.YtkbgidbledjejaaGreat.En
namespace Go.Proofs.YtkbgidbledjejaaGreat.En
open Go.Sy Go Go.Proofs.YtkbgidbledjejaaGreat.Ed
open Int (ofNat)
set_option maxRecDepth 100000
def lenV:V->Nat
 | .sl _ k _=>k
 | _=>0
def Anm:V->Nat->E6
 | .sl _ _ h=>λj=>edE (h j)
 | _=>λ_=>Ca
def okR:V->Bool
 | .sl 6 k h=>Dl k λj=>okE (h j)
 | _=>false
def Ve (n:Nat) (l:Nat->Nat) (x:Nat->Nat->E6):V:=.sl 1 n λi=>Ap (l i) (x i)
def Aho {α:Type} (v:V) (F:Nat->(Nat->Nat)->(Nat->Nat->E6)->T α):T α:=match v with
 | .sl 1 n g=>.br (Dl n λi=>okR (g i)) (F n (λi=>lenV (g i)) λi=>Anm (g i)) .fail
 | _=>.fail
theorem Ada {v:V} (h:okR v=true) {S:Nat->Prop} {w:World} {κ:Aj} {c:Value} (hv:VR S w v κ c):VR S w (Ap (lenV v) (Anm v)) κ c:=by
 unfold okR at h;split at h
 ·rename_i k g
  obtain ⟨a,cap,e,hl,hr⟩:=hv;refine ⟨a,cap,e,hl,hr.imp id λ⟨b,o,ha,hi⟩=>⟨b,o,ha,λi hik=>?_⟩⟩;obtain ⟨ci,q1,q2⟩:=hi i hik;refine ⟨ci,?_,q2⟩;show VR S w (eV (edE (g i))) _ ci;rw [<- CG (AS.1 h i hik)];exact q1
 ·cases h
theorem Ta {α:Type} {v:V} {F:Nat->(Nat->Nat)->(Nat->Nat->E6)->T α} {r:α} (h:(Aho v F).sem=some r) :
  ∃ n l x,(∀ (S:Nat->Prop) (w:World) (c:Value),VR S w v noK c->VR S w (Ve n l x) noK c)∧(F n l x).sem=some r:=by
 unfold Aho at h;split at h
 ·rename_i n g
  obtain ⟨h1,h2⟩:=Ab h;refine ⟨n,_,_,λS w c hv=>?_,h2⟩;obtain ⟨a,cap,e,hl,hr⟩:=hv;refine ⟨a,cap,e,hl,hr.imp id λ⟨b,o,ha,hi⟩=>⟨b,o,ha,λi hik=>?_⟩⟩;obtain ⟨ci,q1,q2⟩:=hi i hik;exact ⟨ci,Ada (AS.1 h1 i hik) q1,q2⟩
 ·cases h
def Zd (l1 l2:Nat->Nat) (x y:Nat->Nat->E6) (i:Nat):Bool:=FW (l1 i) (x i) (l2 i) (y i)
def V8 (n m:Nat) (l1 l2:Nat->Nat) (x y:Nat->Nat->E6):Bool:=sel (ieq (ofNat n) (ofNat m)) (Dl n (Zd l1 l2 x y)) false
def Ad9:List V->A3
 | [u,v]=>Aho u λn l1 x=>Aho v λm l2 y=>.br (BX n) (.br (Dl n λi=>BX (l1 i)) (.leaf (bV (V8 n m l1 l2 x y),[])) .fail) .fail
 | _=>.fail
noncomputable def AfZ:AG:=(21,Jq)::[]
theorem AfY:Al Tryz.prog Gl AfZ:=.cons p42 <| .nil
def Anz:Lp:=⟨bmK 27 0 [0,1,4,5],0,bmK 27 0 [4],0,4611686018427387905⟩
def S12 (n:Nat) (l1 l2:Nat->Nat) (x y:Nat->Nat->E6) (c:Int) (_:Unit) (j:Nat->V):St:=⟨jsV 27 0 j [(0,.sl 1 n (λi=>.sl 6 (l1 i) (λj=>eV (x i j)))),(1,.sl 1 n (λi=>.sl 6 (l2 i) (λj=>eV (y i j)))),(4,bV false),(5,iV c)],[]⟩
noncomputable def B12 (L:LT):St->T (Ex×St):=λst=>A6 tab ⟨A5 AfZ,L,Gl⟩ (Aw Tryz.f12 0) 0 st
def AbB (_:Nat) (_ _:Nat->Nat) (_ _:Nat->Nat->E6) (_:Nat) (_:Unit):Ex×St:=(.rt,⟨jsV 27 0 Ac [(4,bV false)],[]⟩)
def g12 (n:Nat) (l1 l2:Nat->Nat) (x y:Nat->Nat->E6) (i:Nat) (a:Unit):T ((Unit) ⊕ (Ex×St)):=.br (FW (l1 i) (x i) (l2 i) (y i)) (.leaf (.inl ())) (.leaf (.inr (AbB n l1 l2 x y i a)))
def AnK (_:Nat) (_ _:Nat->Nat) (_ _:Nat->Nat->E6) (_:Unit):Ex×St:=(.ex 0,⟨jsV 27 0 Ac [(4,bV false)],[]⟩)
theorem r12 (L:LT) (n:Nat) (l1 l2:Nat->Nat) (x y:Nat->Nat->E6) (hs:∀ i,i<n->BX (l1 i)=true) (hn:n <= 4611686018427387904) {e:Ex×St} {a:Unit} {j:Nat->V} (h:Ds (g12 n l1 l2 x y) (AnK n l1 l2 x y) n 0 a=some e):(Ax (B12 L) Anz 4611686018427387905 (S12 n l1 l2 x y 0 a j)).sem=some (exR e) :=
 De FF hn (λi a j r hi h=>DK.ok (L:=goR (S12 n l1 l2 x y) exR i) (.k (ofNat_lt hi) <| .r 2 (Af hi) <| .k (eL (l1 i)) <| .k (eL (l2 i)) <| .k (hs i hi) <| .c (λh1=>.k (eN h1) <| .l) λh1=>.k (eN h1) <| .l) (by kernel_rfl) h) (λa j=>DK.ok (C:=.leaf (AnK n l1 l2 x y a)) (L:=exR) (.k (A1 (Nat.le_refl n)) .l) (by kernel_rfl) rfl) (Nat.zero_add _).symm (Nat.lt_succ_of_le hn) h
def Ads:List (Nat×Lp×List (Nat×(Nat->V))):=[(0,Anz,[])]
theorem p12:As Tryz.prog Gl 12 Ad9:=by
 refine Ah A2 mixed Tryz.func12 (by kernel_rfl) (by kernel_rfl) λvs r h' h=>?_;unfold Ad9 at h;split at h
 rotate_left
 ·cases h
 rename_i u v;obtain ⟨n,l1,x,ha,h⟩:=Ta h;obtain ⟨m,l2,y,hb,h⟩:=Ta h;obtain ⟨hn,h⟩:=Ab h;obtain ⟨hs,h⟩:=Ab h;cases Aa h;have hn:n <= 4611686018427387904:=of_decide_eq_true hn;have hs:=AS.1 hs;have hx:=Be AfY Ads (G:=Gl);refine ⟨[Ve n l1 x,Ve m l2 y],cxA Gl AfZ Ads,_,λS w cs hq=>by
  obtain ⟨c,l,rfl,q1,c2,l3,rfl,q2,q3⟩:=hq;exact ⟨c,_,rfl,ha S w c q1,c2,_,rfl,hb S w c2 q2,q3⟩,rfl,hx.1,hx.2,?_,Au.refl _⟩
 unfold V8;cases hm:ieq (ofNat n) (ofNat m) with
 | false=>exact DW.ok (.k (eN hm) <| .l) (by kernel_rfl)
 | true =>
  obtain rfl:n=m:=Int.ofNat.inj (Ct hm);have go:∀ i,i<n->(g12 n l1 l2 x y i ()).sem=sel (Zd l1 l2 x y i) (some (.inl ())) (some (.inr (AbB n l1 l2 x y i ()))):=λi _=>rfl;show (AL (Ar tab (cxA Gl AfZ Ads) Tryz.f12 [Ve n l1 x,Ve n l2 y] [])).sem=some (bV (Dl n (Zd l1 l2 x y)),[]);cases h1:Dl n (Zd l1 l2 x y) with
  | true=>exact DW.ok (.k (eN hm) <| .a (r12 (Cp Ads) n l1 l2 x y hs hn (j:=λ_=>.und) (Tc go h1)) .l) (by kernel_rfl)
  | false=>exact DW.ok (.k (eN hm) <| .a (r12 (Cp Ads) n l1 l2 x y hs hn (j:=λ_=>.und) (AeY (x:=AbB n l1 l2 x y 0 ()) go h1)) .l) (by kernel_rfl)
noncomputable def Ahd:List V->A3
 | [.val (.int .i64 A),u,.val (.int .i64 n),.val (.int .i64 q)]=>apL u λk w=>.leaf (.tup [iV (ofNat (CL A k w n q).length),iV (Ew A k w n q)],[])
 | _=>.fail
noncomputable def Ame:AG:=(9,Uv)::[]
theorem Aga:Al Tryz.prog Gl Ame:=.cons p9 .nil
theorem p11:As Tryz.prog Gl 11 Ahd:=by
 refine Ah A2 mixed Tryz.func11 (by kernel_rfl) (by kernel_rfl) λvs r h' h=>?_;unfold Ahd at h;split at h
 ·rename_i A u n q
  obtain ⟨k,w,ha,h⟩:=Bd h;have:=Aa h;simp only [Prod.mk.injEq] at this;obtain ⟨rfl,rfl⟩:=this;have hx:=Be Aga [] (G:=Gl);refine ⟨[iV A,Ap k w,iV n,iV q],cxA Gl Ame [],_,λS W cs hq=>by
   obtain ⟨c,l,rfl,q1,c2,l2,rfl,q2,q3⟩:=hq;exact ⟨c,_,rfl,q1,c2,_,rfl,ha S W c2 q2,q3⟩,rfl,hx.1,hx.2,?_,Au.refl _⟩
  generalize CL A k w n q=rows;exact DW.ok (.k (eL k) .l) (by kernel_rfl)
 ·cases h
def AeP:List V->A3
 | [u,.val (.int .i64 k)]=>apL u λn f=>.br (BX n) (.br (Dl n λi=>eqE (f i) (BP (wr .i64 (Ai 500 k)))) (.leaf (bV true,[])) .fail) .fail
 | _=>.fail
noncomputable def Ajk:AG:=(31,Sx)::[]
theorem AfX:Al Tryz.prog Gl Ajk:=.cons p85 <| .nil
def Any:Lp:=⟨bmK 20 0 [0,1,4,5],0,bmK 20 0 [4],0,4611686018427387905⟩
def S17 (n:Nat) (f:Nat->E6) (k:Int) (c:Int) (_:Unit) (j:Nat->V):St:=⟨jsV 20 0 j [(0,.sl 6 n (λi=>eV (f i))),(1,iV k),(4,bV false),(5,iV c)],[]⟩
noncomputable def B17 (L:LT):St->T (Ex×St):=λst=>A6 tab ⟨A5 Ajk,L,Gl⟩ (Aw Tryz.f17 0) 0 st
def AbA (_:Nat) (_:Nat->E6) (_:Int) (_:Nat) (_:Unit):Ex×St:=(.rt,⟨jsV 20 0 Ac [(4,bV false)],[]⟩)
def g17 (n:Nat) (f:Nat->E6) (k:Int) (i:Nat) (a:Unit):T ((Unit) ⊕ (Ex×St)):=.br (eqE (f i) (BP (wr .i64 (Ai 500 k)))) (.leaf (.inl ())) (.leaf (.inr (AbA n f k i a)))
def AnJ (_:Nat) (_:Nat->E6) (_:Int) (_:Unit):Ex×St:=(.ex 0,⟨jsV 20 0 Ac [(4,bV false)],[]⟩)
theorem r17 (L:LT) (n:Nat) (f:Nat->E6) (k:Int)  (hn:n <= 4611686018427387904) {e:Ex×St} {a:Unit} {j:Nat->V} (h:Ds (g17 n f k) (AnJ n f k) n 0 a=some e):(Ax (B17 L) Any 4611686018427387905 (S17 n f k 0 a j)).sem=some (exR e) :=
 De FF hn (λi a j r hi h=>DK.ok (L:=goR (S17 n f k) exR i) (.k (ofNat_lt hi) <| .k (Af hi) <| .c (λh1=>.k (eN h1) <| .l) λh1=>.k (eN h1) <| .l) (by kernel_rfl) h) (λa j=>DK.ok (C:=.leaf (AnJ n f k a)) (L:=exR) (.k (A1 (Nat.le_refl n)) .l) (by kernel_rfl) rfl) (Nat.zero_add _).symm (Nat.lt_succ_of_le hn) h
def Akx:List (Nat×Lp×List (Nat×(Nat->V))):=[(0,Any,[])]
theorem p17:As Tryz.prog Gl 17 AeP:=by
 refine Ah A2 mixed Tryz.func17 (by kernel_rfl) (by kernel_rfl) λvs r h' h=>?_;unfold AeP at h;split at h
 ·rename_i u k
  obtain ⟨n,f,ha,h⟩:=Bd h;obtain ⟨hn,h⟩:=Ab h;obtain ⟨hb,h⟩:=Ab h;cases Aa h;have hn:n <= 4611686018427387904:=of_decide_eq_true hn;have hx:=Be AfX Akx (G:=Gl);refine ⟨[Ap n f,iV k],cxA Gl Ajk Akx,_,λS w cs hq=>by
   obtain ⟨c,l,rfl,q1,q2⟩:=hq;exact ⟨c,_,rfl,ha S w c q1,q2⟩,rfl,hx.1,hx.2,?_,Au.refl _⟩
  have go:∀ i,i<n->(g17 n f k i ()).sem=sel (eqE (f i) (BP (wr .i64 (Ai 500 k)))) (some (.inl ())) (some (.inr (AbA n f k i ()))):=λi _=>rfl;exact DW.ok (.a (r17 (Cp Akx) n f k hn (j:=λ_=>.und) (Tc (x:=AbA n f k 0 ()) go hb)) .l) (by kernel_rfl)
 ·cases h
end Go.Proofs.YtkbgidbledjejaaGreat.En
namespace Go.Proofs.YtkbgidbledjejaaGreat.En
open Go.Sy Go Go.Proofs.YtkbgidbledjejaaGreat.Ed
section
variable {w w':Nat->E6}
theorem N1:∀ {k:Nat},(∀ i,i<k->w' i=w i)->hsC w' k=hsC w k
 | 0,_=>rfl
 | k+1,h=>by
  show P0 (hsC w' k) (.i (Ao (w' k)))=P0 (hsC w k) (.i (Ao (w k)));rw [N1 λi hi=>h i (by omega),h k (by omega)]
theorem S9:∀ {k:Nat},(∀ i,i<k->w' i=w i)->gtC w' k=gtC w k
 | 0,_=>rfl
 | k+1,h=>by
  show (λy=>bif keq y (.i (Ao (w' k))) then w' k else gtC w' k y)=λy=>bif keq y (.i (Ao (w k))) then w k else gtC w k y;rw [S9 λi hi=>h i (by omega),h k (by omega)]
theorem NW:∀ {k:Nat},(∀ i,i<k->w' i=w i)->AI w' k=AI w k
 | 0,_=>rfl
 | k+1,h=>by
  rw [AI,AI,NW λi hi=>h i (by omega),h k (by omega)]
theorem WI {k:Nat} (h:∀ i,i<k->w' i=w i) {n:Int}:HS k w' n=HS k w n:=by
 have e:∀ t,C3 k w' t=C3 k w t:=λt=>by
  unfold C3 Nm;rw [NW h]
 have r:∀ d b l,Gw k w' d b l=Gw k w d b l:=by
  intro d
  induction d with
  | zero=>intro b l; rfl
  | succ d ih =>intro b l;rw [Gw,Gw,e,ih]
 exact r _ _ _
theorem Xt {k:Nat} (h:∀ i,i<k->w' i=w i) {A n:Int}:E3 A k w' n=E3 A k w n:=by
 have e:A0 (G6 A w') k 0=A0 (G6 A w) k 0:=Du k 0 λi _ hi=>by
  unfold G6;rw [h i (by omega)]
 have r:refL A k w'=refL A k w:=by
  unfold refL tO Vh;rw [e];cases hq:A0 (G6 A w) k 0 with
  | none=>rfl
  | some t =>have:=EX hq;show sel false 0 (sel (ieq (AE (w' t)) 0) 5 30)=sel false 0 (sel (ieq (AE (w t)) 0) 5 30);rw [h t (by omega)]
 unfold E3;rw [r]
theorem Abk {k:Nat} (h:∀ i,i<k->w' i=w i) {A n q:Int}:Ew A k w' n q=Ew A k w n q∧CL A k w' n q=CL A k w n q:=by
 have e1:E9 k w'=E9 k w:=by unfold E9; rw [N1 h]
 have e2:El k w'=El k w:=by unfold El; rw [N1 h,S9 h]
 have e3:HH A k w' n=HH A k w n:=by unfold HH; rw [e1,e2]
 have e4:Ew A k w' n q=Ew A k w n q:=by unfold Ew; rw [Xt h,WI h,e3]
 exact ⟨e4,by unfold CL; rw [e4,e3,e2]⟩
end
end Go.Proofs.YtkbgidbledjejaaGreat.En
namespace Go.Proofs.YtkbgidbledjejaaGreat.Ed
open Go.Sy Go
def HI (c:UInt8):Bool:=c == 32 || c == 9 || c == 10 || c == 13
def Gt (x:Int):Bool:=bor (ieq x 32) (bor (ieq x 9) (bor (ieq x 10) (ieq x 13)))
theorem OR (c:UInt8) (n:Nat) (hn:n<256):ieq ((c.toNat:Nat):Int) (n:Int)=(c == UInt8.ofNat n):=by
 rw [Bool.eq_iff_iff];simp only [ieq,beq_iff_eq];constructor
 ·intro h
  apply UInt8.toNat_inj.1;rw [UInt8.toNat_ofNat_of_lt' (by simpa using hn)];omega
 ·intro h
  rw [h,UInt8.toNat_ofNat_of_lt' (by simpa using hn)]
theorem AeM (c:UInt8):Gt ((c.toNat:Nat):Int)=HI c:=by
 unfold Gt HI bor;have h1:=OR c 32 (by decide);have h2:=OR c 9 (by decide);have h3:=OR c 10 (by decide);have h4:=OR c 13 (by decide);have h1:ieq ((c.toNat:Nat):Int) 32=(c == 32):=h1;have h2:ieq ((c.toNat:Nat):Int) 9=(c == 9):=h2;have h3:ieq ((c.toNat:Nat):Int) 10=(c == 10):=h3;have h4:ieq ((c.toNat:Nat):Int) 13=(c == 13):=h4;rw [h1,h2,h3,h4];cases (c == 32) <;> cases (c == 9) <;> cases (c == 10) <;> rfl
def BA (l:List UInt8):List UInt8:=l.takeWhile λc=>!HI c
def Db:Nat->List UInt8->Nat->List E6->List E6×Int×Nat
 | 0,_,_,acc=>(acc,0,0)
 | _+1,[],_,acc=>(acc,0,0)
 | q+1,c::l,a,acc =>
  if HI c=true then Db q l (a+1) acc
  else if Gj (BA (c::l))=0 then Db q ((c::l).drop (BA (c::l)).length) (a+(BA (c::l)).length) (acc++[Gk (BA (c::l))])
  else ([],30,a)
theorem Vu {b:UInt8} (hb:HI b=true) (l:List UInt8) (q a:Nat) (acc:List E6):Db (q+1) (b::l) a acc=Db q l (a+1) acc:=by
 rw [Db,if_pos hb]
theorem AbD (l:List UInt8):(BA l).length <= l.length:=by
 induction l with
 | nil=>exact Nat.le_refl _
 | cons c l ih =>
  unfold BA at ih ⊢;cases hc:HI c with
  | true=>rw [List.takeWhile_cons_of_neg (by simp [hc])]; exact Nat.zero_le _
  | false =>rw [List.takeWhile_cons_of_pos (by simp [hc])];simp only [List.length_cons];omega
section
variable (L:LT) (x:Int)
include L x
theorem Al9 (h0:ieq x 32=true):(AL (Ar tab ⟨A5 tb0,L,Gl⟩ Tryz.f102 [.val (.int .u8 x)] [])).sem=some ((bV true),[]):=by
 exact Ag (ks:=[kn h0,kn h0,kn h0,kT,kT,kT,kT,kT,kT]) (by kernel_rfl)
theorem Al8 (h0:ieq x 32=false) (h1:ieq x 9=true):(AL (Ar tab ⟨A5 tb0,L,Gl⟩ Tryz.f102 [.val (.int .u8 x)] [])).sem=some ((bV true),[]):=by
 exact Ag (ks:=[kn h0,kn h0,kn h0,kn h1,kn h1,kn h1,kT,kT,kT]) (by kernel_rfl)
theorem Al7 (h0:ieq x 32=false) (h1:ieq x 9=false) (h2:ieq x 10=true):(AL (Ar tab ⟨A5 tb0,L,Gl⟩ Tryz.f102 [.val (.int .u8 x)] [])).sem=some ((bV true),[]):=by
 exact Ag (ks:=[kn h0,kn h0,kn h0,kn h1,kn h1,kn h1,kn h2,kn h2,kn h2]) (by kernel_rfl)
theorem Al6 (h0:ieq x 32=false) (h1:ieq x 9=false) (h2:ieq x 10=false):(AL (Ar tab ⟨A5 tb0,L,Gl⟩ Tryz.f102 [.val (.int .u8 x)] [])).sem=some ((bV (ieq x 13)),[]):=by
 exact Ag (ks:=[kn h0,kn h0,kn h0,kn h1,kn h1,kn h1,kn h2,kn h2,kn h2]) (by kernel_rfl)
end
def Yu:List V->A3
 | [.val (.int .u8 x)]=>out (bV (Gt x))
 | _=>.fail
theorem AgT {α:Type} {l:List α} {i:Nat} {d:α} (h:i<l.length):l.getD i d=l[i]:=by simp [List.getD,h]
theorem GH {s:List UInt8} {a:Nat} (h:a<s.length):s.drop a=s[a]::s.drop (a+1):=List.drop_eq_getElem_cons h
theorem O2 {s:List UInt8} {a:Nat} (h:a<s.length):Gt (Oq s a)=HI s[a]:=by
 unfold Oq;rw [AgT h];exact AeM _
def getE (l:List E6) (i:Nat):E6:=l.getD i Ca
theorem Wb {l:List E6} {e:E6} {i:Nat} (h:i<l.length+1):getE (l++[e]) i=if i=l.length then e else getE l i:=by
 unfold getE;by_cases hi:i=l.length
 ·rw [if_pos hi,hi]; simp
 ·rw [if_neg hi]
  simp only [List.getD,List.getElem?_append_left (show i<l.length by omega)]
def F7 (acc:List E6):Nat->V:=BJ (λi=>eV (getE acc i)) acc.length
theorem NS {g g':Nat->V}:∀ n,(∀ i,i<n->g i=g' i)->BJ g n=BJ g' n
 | 0,_=>rfl
 | n+1,h=>by
  show AC n (BJ g n) (g n)=AC n (BJ g' n) (g' n);rw [h n (Nat.lt_succ_self n),NS n λi hi=>h i (by omega)]
theorem Aat (acc:List E6) (e:E6):AC acc.length (F7 acc) (eV e)=F7 (acc++[e]):=by
 have h1:F7 (acc++[e])=BJ (λi=>eV (getE (acc++[e]) i)) (acc.length+1):=by
  unfold F7;rw [List.length_append];rfl
 rw [h1];show _=AC acc.length (BJ (λi=>eV (getE (acc++[e]) i)) acc.length) (eV (getE (acc++[e]) acc.length));rw [Wb (Nat.lt_succ_self _),if_pos rfl];unfold F7;rw [NS (g:=λi=>eV (getE (acc++[e]) i)) (g':=λi=>eV (getE acc i)) acc.length λi hi=>by
  show eV (getE (acc++[e]) i)=eV (getE acc i);rw [Wb (by omega),if_neg (by omega)]]
def Ku:Nat->List UInt8->List E6->List E6×E6
 | 0,_,acc=>(acc,Ca)
 | _+1,[],acc=>(acc,Ca)
 | q+1,c::l,acc =>
  if HI c=true then Ku q l acc
  else if Gj (BA (c::l))=0 then Ku q ((c::l).drop (BA (c::l)).length) (acc++[Gk (BA (c::l))])
  else (acc,Gk (BA (c::l)))
def AeN (s:List UInt8):Bool:=ilt 262144 (Int.ofNat (CN s))
def psR (s:List UInt8):List E6×Int×Nat:=Db (s.length+1) s 0 []
def psL (s:List UInt8):List E6:=bif AeN s then [] else (psR s).1
def psE (s:List UInt8):Int:=bif AeN s then 2 else (psR s).2.1
def psI (s:List UInt8):Int:=bif AeN s then 0 else Int.ofNat (psR s).2.2
def psN (s:List UInt8):Nat:=(psL s).length
def psG (s:List UInt8) (i:Nat):E6:=getE (psL s) i
def psT:List V->A3
 | [.str s]=>.leaf (.tup [.ref 0,iV (psE s),iV (psI s)],[.row 46 6 (psN s) λi=>eV (psG s i)])
 | _=>.fail
theorem PI:∀ (q:Nat) (l:List UInt8) (a:Nat) (acc:List E6),(Db q l a acc).2.1=0->(Db q l a acc).2.2=0
 | 0,_,_,_,_=>rfl
 | q+1,[],_,_,_=>rfl
 | q+1,c::l,a,acc,h=>by
  rw [Db] at h ⊢;split
  ·rename_i hc
   rw [if_pos hc] at h;exact PI q _ _ _ h
  ·rename_i hc
   rw [if_neg hc] at h;split
   ·rename_i hp
    rw [if_pos hp] at h;exact PI q _ _ _ h
   ·rename_i hp
    rw [if_neg hp] at h;cases h
theorem Ak6 {L:LT} (hL:LLe L L) (k:Nat) (r:Ex×St):LLe (onP k (isP L k r) r L) (onP k (isP L k r) r L):=λid f f' st hf r' hr=>by
 unfold onP at hr ⊢;cases hk:Nat.beq id k with
 | true =>rw [hk] at hr;obtain ⟨h1,h2⟩:=Ab hr;unfold isP at h1;have h1:=@of_decide_eq_true _ (Classical.propDecidable _) h1;have h3:isP L k r f' st=true:=AB (hL k f f' st hf _ h1);show sel (isP L k r f' st) _ _=_;rw [h3];exact h2
 | false =>rw [hk] at hr;exact hL id f f' st hf _ hr
end Go.Proofs.YtkbgidbledjejaaGreat.Ed
