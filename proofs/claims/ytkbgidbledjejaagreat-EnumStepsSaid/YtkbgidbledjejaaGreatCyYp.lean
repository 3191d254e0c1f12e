/-
  Layer 6, plain: the program's cycles and the document's are the same. Conditions: edges have codes.
-/
import Derived.Test.YtkbgidbledjejaaGreatEnT
import Derived.Test.YtkbgidbledjejaaGreatEnE
namespace Go.Proofs.YtkbgidbledjejaaGreat.En
open Go.Sy Go Go.Proofs.YtkbgidbledjejaaGreat.Ed
open Int (ofNat)
section
variable {A:Int} {m:Nat} {v1 v2:Nat->E6} {keep:Nat->Bool}
theorem MR {l:List Nat} (h:l.Pairwise (·<·)):∀ {i j:Nat},i<j->j<l.length->l.getD i 0<l.getD j 0:=fun {i j} hi hj=>by
 rw [List.getD_eq_getElem?_getD,List.getD_eq_getElem?_getD,List.getElem?_eq_getElem (by omega),List.getElem?_eq_getElem hj];exact List.pairwise_iff_getElem.1 h i j (by omega) hj hi
theorem TD:((List.range m).filter keep).Pairwise (·<·):=List.Pairwise.filter _ List.pairwise_lt_range
abbrev sg (m:Nat) (keep:Nat->Bool) (j:Nat):Nat:=((List.range m).filter keep).getD j 0
theorem Ajk:(List.range ((List.range m).filter keep).length).map (sg m keep)=(List.range m).filter keep:=by
 refine List.ext_getElem (by simp) λi h1 h2=>?_;simp [sg,List.getD_eq_getElem?_getD,List.getElem?_eq_getElem h2]
theorem YR (s:Nat->Nat):∀ {r:List Nat},r ≠ []->Ci (r.map s)=s (Ci r)
 | [x],_=>rfl
 | x::y::r,_=>by
  show Ci (s x::s y::r.map s)=_;rw [Ci,Ci];exact YR s (r:=y::r) (by simp)
theorem Abd (s:Nat->Nat) {r:List Nat} {i:Nat} (h:i<r.length):wd (r.map s) i=s (wd r i):=by
 unfold wd;rw [<- List.map_reverse,List.getD_eq_getElem?_getD,List.getD_eq_getElem?_getD,List.getElem?_map,List.getElem?_eq_getElem (by simpa using h)];rfl
variable (hv:∀ j,j<((List.range m).filter keep).length->v2 j=v1 (sg m keep j))
include hv
theorem VD {r:List Nat} (hr:∀ e,e ∈ r->e<((List.range m).filter keep).length):BP A v1 (r.map (sg m keep))=BP A v2 r:=by
 unfold BP;rw [List.length_map];exact Nn λi hi=>by
  show v1 (wd (r.map (sg m keep)) i)=v2 (wd r i);rw [Abd _ hi,hv _ (hr _ (KB hi))]
theorem AiT {r:List Nat} (hr:∀ e,e ∈ r->e<((List.range m).filter keep).length) {j:Nat} (hj:j<((List.range m).filter keep).length):okP v1 (r.map (sg m keep)) (sg m keep j)=okP v2 r j:=by
 cases r with
 | nil=>rfl
 | cons y t =>
  have hf:=Gp (r:=y::t) (by simp) hr;show (ieq (v1 (sg m keep y)).dst (v1 (sg m keep j)).src && Nat.ble (Ci ((y::t).map (sg m keep))) (sg m keep j))=(ieq (v2 y).dst (v2 j).src && Nat.ble (Ci (y::t)) j);rw [YR _ (by simp),<- hv y (hr y (by simp)),<- hv j hj];congr 1;rw [Bool.eq_iff_iff,Nat.ble_eq,Nat.ble_eq];rcases Nat.lt_trichotomy (Ci (y::t)) j with h | h | h
  ·have:=MR TD h hj
   unfold sg; omega
  ·rw [h]; omega
  ·have:=MR TD h hf
   unfold sg; omega
theorem Acw:∀ (d:Nat) (r:List Nat),(∀ e,e ∈ r->e<((List.range m).filter keep).length)->onL m (okP v1) (BP A v1) keep d (r.map (sg m keep))=(onL ((List.range m).filter keep).length (okP v2) (BP A v2) (λ_=>true) d r).map (List.map (sg m keep))
 | 0,r,hr=>by
  unfold onL;rw [VD hv hr];cases BP A v2 r <;> rfl
 | d+1,r,hr=>by
  rw [onL,onL,VD hv hr,List.map_append,List.filter_eq_self.2 (λ_ _=>rfl:∀ a,a ∈ List.range ((List.range m).filter keep).length->(λ_=>true) a=true)];congr 1
  ·cases BP A v2 r <;> rfl
  ·conv=>lhs; rw [<- Ajk]
   rw [List.flatMap_map,List.map_flatMap];refine D6 λj hj=>?_;have hj:=List.mem_range.1 hj;rw [AiT hv hr hj];cases okP v2 r j with
   | false=>rfl
   | true =>
    refine Acw d (j::r) λe he=>?_;rcases List.mem_cons.1 he with rfl | he
    ·exact hj
    ·exact hr e he
omit hv in
theorem AgW:∀ (d:Nat) (r:List Nat) (D:List Nat),(∀ e,e ∈ r->e<m)->D ∈ onL m (okP v2) (BP A v2) keep d r->∀ e,e ∈ D->e<m
 | 0,r,D,hr,hD=>by
  unfold onL at hD;cases hg:BP A v2 r with
  | false=>rw [hg] at hD; cases hD
  | true =>rw [hg] at hD;simp at hD;subst hD;exact hr
 | d+1,r,D,hr,hD=>by
  rw [onL] at hD;rcases List.mem_append.1 hD with hD | hD
  ·cases hg:BP A v2 r with
   | false=>rw [hg] at hD; cases hD
   | true =>rw [hg] at hD;simp at hD;subst hD;exact hr
  ·obtain ⟨e,he,hD⟩:=List.mem_flatMap.1 hD
   cases ho:okP v2 r e with
   | false=>rw [ho] at hD; cases hD
   | true =>
    rw [ho] at hD;exact AgW d (e::r) D (λx hx=>by
     rcases List.mem_cons.1 hx with rfl | hx
     ·exact List.mem_range.1 (List.mem_filter.1 he).1
     ·exact hr x hx) hD
end
theorem Afp {a b:Nat} (h:ilt (sgI (ofNat a) (ofNat b)) 0=true):a<b:=by
 unfold sgI at h;cases h1:ilt (ofNat a) (ofNat b) with
 | true =>have:(a:Int)<(b:Int):=of_decide_eq_true h1;omega
 | false =>rw [h1] at h;cases h2:ilt (ofNat b) (ofNat a) <;> rw [h2] at h <;> cases h
theorem AbC {a b:Nat} (h:ieq (sgI (ofNat a) (ofNat b)) 0=true):a=b:=by
 unfold sgI at h;cases h1:ilt (ofNat a) (ofNat b) with
 | true=>rw [h1] at h; cases h
 | false =>
  rw [h1] at h;cases h2:ilt (ofNat b) (ofNat a) with
  | true=>rw [h2] at h; cases h
  | false =>have h1:¬ ((a:Int)<(b:Int)):=of_decide_eq_false h1;have h2:¬ ((b:Int)<(a:Int)):=of_decide_eq_false h2;omega
theorem Qq {q:Nat->Bool}:∀ {d i t:Nat},Az q d i=some t->∀ j,i <= j->j<t->q j=false
 | 0,_,_,h,_,_,_=>by cases h
 | d+1,i,t,h,j,h1,h2=>by
  cases hq:q i with
  | true=>rw [Fj hq] at h; cases h; omega
  | false =>
   rw [Gc hq] at h;rcases Nat.eq_or_lt_of_le h1 with rfl | h1
   ·exact hq
   ·exact Qq h j h1 h2
theorem Ajs {r:List Nat} (h:TO r.length (wdI r)=true):Hop r:=by
 unfold TO at h;cases hf:Az (TN r.length (wdI r)) (r.length-1) 1 with
 | none=>rw [hf] at h; cases h
 | some i =>
  obtain ⟨h1,h2,h3⟩:=Gb hf;unfold TN cmpI tO at h3;cases hg:Az (sgQ (λj=>wdI r (Cd i j)) (wdI r)) (FC r.length i) 0 with
  | none=>rw [hg] at h3; cases h3
  | some t =>
   rw [hg] at h3;obtain ⟨_,g2,_⟩:=Gb hg;have g2:t<0+(r.length-i):=g2;refine ⟨i,t,by omega,λj hj=>?_,?_⟩
   ·have:=Qq hg j (Nat.zero_le _) hj
    have:AI (ieq (sgI (wdI r (i+j)) (wdI r j)) 0)=false:=this;refine AbC ?_;cases hq:ieq (sgI (wdI r (i+j)) (wdI r j)) 0 with
    | true=>rfl
    | false=>rw [hq] at this; cases this
   ·exact Afp h3
theorem Af2 {n:Int} {N m:Nat} {v:Nat->E6} (hn:n=ofNat N) {r:List Nat} (h0:r ≠ []) (h:Fx n m v r=false):N <= r.length ∨ Hop r ∨ ∃ y t,r=y::t∧(v y).dst ≠ (v (Ci (y::t))).src∧∀ e,e<m->(v e).src=(v y).dst->(v e).dst=(v (Ci (y::t))).src->False:=by
 unfold Fx P3 at h;cases h1:ilt (ofNat r.length) n with
 | false =>have:¬ ((r.length:Int)<n):=of_decide_eq_false h1;rw [hn] at this;exact .inl (by simp only [Int.ofNat_eq_natCast] at this; omega)
 | true =>
  rw [h1] at h;cases h2:TO r.length (wdI r) with
  | true=>exact .inr (.inl (Ajs h2))
  | false =>
   rw [h2] at h;have h:J7 n m v r.length (wdI r)=false:=h;unfold J7 at h
   match r,h0 with
   | y::t,_ =>
    rw [show wdI (y::t) ((y::t).length-1)=ofNat y from congrArg ofNat Gz,show wdI (y::t) 0=ofNat (Ci (y::t)) from congrArg ofNat (Z0 (by simp)),show toN (ofNat y)=y from rfl,show toN (ofNat (Ci (y::t)))=Ci (y::t) from rfl,h1] at h;refine .inr (.inr ⟨y,t,rfl,λe=>?_,λe he e1 e2=>?_⟩)
    ·rw [e,eI] at h; cases h
    ·cases h3:ieq (v y).dst (v (Ci (y::t))).src with
     | true=>rw [h3] at h; cases h
     | false =>
      rw [h3] at h;have h:V8 m v (v y) (v (Ci (y::t)))=false:=h;unfold V8 at h;cases h4:Az (WG v (v y) (v (Ci (y::t)))) m 0 with
      | some t=>rw [h4] at h; cases h
      | none =>
       have:=CH.1 h4 e (Nat.zero_le _) (by omega);have h5:Te (v e) (v y) (v (Ci (y::t)))=true:=by
        unfold Te;rw [e1,e2,eI,eI];rfl
       rw [show WG v (v y) (v (Ci (y::t))) e=Te (v e) (v y) (v (Ci (y::t))) from rfl,h5] at this;cases this
theorem AfW {A:Int} {v:Nat->E6} {d:List Nat} (h:BP A v d=true):Good A v d:=by
 unfold BP isB at h;cases h1:ieq (Gr A d.length (wE v d)).1 0 with
 | false=>rw [h1] at h; cases h
 | true =>
  cases h2:Bv d.length (wE v d) with
  | false=>rw [h1,h2] at h; cases h
  | true =>rw [h1,h2] at h;exact ⟨PZ h1,(GN.1 h).2⟩
section
variable {k:Nat} {w:Nat->E6}
theorem YM {z:Int}:∀ {k:Nat},hsC w k (.i z)=true↔∃ j,j<k∧Aj (w j)=z
 | 0=>⟨λh=>(by cases h),λ⟨_,h,_⟩=>absurd h (Nat.not_lt_zero _)⟩
 | k+1=>by
  show bor (ieq z (Aj (w k))) (hsC w k (.i z))=true↔_;have ih:=YM (z:=z) (k:=k);constructor
  ·intro h
   cases h1:ieq z (Aj (w k)) with
   | true=>exact ⟨k,by omega,(Cu h1).symm⟩
   | false =>rw [h1] at h;obtain ⟨j,h2,h3⟩:=ih.1 h;exact ⟨j,by omega,h3⟩
  ·rintro ⟨j,h1,h2⟩
   rcases Nat.eq_or_lt_of_le (Nat.le_of_lt_succ h1) with rfl | h3
   ·rw [h2,eI]; rfl
   ·rw [ih.2 ⟨j,h3,h2⟩]
    cases ieq z (Aj (w k)) <;> rfl
theorem Adx {z:Int}:∀ {k:Nat},hsC w k (.i z)=true->∃ j,j<k∧Aj (w j)=z∧gtC w k (.i z)=w j
 | 0,h=>by cases h
 | k+1,h=>by
  have h:bor (ieq z (Aj (w k))) (hsC w k (.i z))=true:=h;show ∃ j,j<k+1∧Aj (w j)=z∧(bif ieq z (Aj (w k)) then w k else gtC w k (.i z))=w j;cases h1:ieq z (Aj (w k)) with
  | true=>exact ⟨k,by omega,(Cu h1).symm,rfl⟩
  | false =>rw [h1] at h;obtain ⟨j,h2,h3,h4⟩:=Adx h;exact ⟨j,by omega,h3,h4⟩
theorem SS {x:Nat}:∀ {k:Nat},thC w k x=true↔∃ j,j<k∧toN (Aj (w j))=x
 | 0=>⟨λh=>(by cases h),λ⟨_,h,_⟩=>absurd h (Nat.not_lt_zero _)⟩
 | k+1=>by
  show (bif Nat.beq x (toN (Aj (w k))) then true else thC w k x)=true↔_;have ih:=SS (x:=x) (k:=k);constructor
  ·intro h
   cases h1:Nat.beq x (toN (Aj (w k))) with
   | true=>exact ⟨k,by omega,(Nat.eq_of_beq_eq_true h1).symm⟩
   | false =>rw [h1] at h;obtain ⟨j,h2,h3⟩:=ih.1 h;exact ⟨j,by omega,h3⟩
  ·rintro ⟨j,h1,h2⟩
   rcases Nat.eq_or_lt_of_le (Nat.le_of_lt_succ h1) with rfl | h3
   ·rw [h2,Nat.beq_refl]; rfl
   ·rw [ih.2 ⟨j,h3,h2⟩]
    cases Nat.beq x (toN (Aj (w k))) <;> rfl
theorem Xe {p r:Int}:∀ {k:Nat},oC w p r k=true↔∃ j,j<k∧(w j).src=p∧(w j).dst=r
 | 0=>⟨λh=>(by cases h),λ⟨_,h,_⟩=>absurd h (Nat.not_lt_zero _)⟩
 | k+1=>by
  show oS (oC w p r k) (w k) p r=true↔_;have ih:=Xe (p:=p) (r:=r) (k:=k);unfold oS;constructor
  ·intro h
   cases h0:oC w p r k with
   | true =>obtain ⟨j,h2,h3⟩:=ih.1 h0;exact ⟨j,by omega,h3⟩
   | false =>
    rw [h0] at h;cases h1:ieq (w k).src p with
    | false=>rw [h1] at h; cases h
    | true=>rw [h1] at h; exact ⟨k,by omega,Cu h1,Cu h⟩
  ·rintro ⟨j,h1,h2,h3⟩
   rcases Nat.eq_or_lt_of_le (Nat.le_of_lt_succ h1) with rfl | h4
   ·rw [h2,h3,eI,eI]
    cases oC w p r j <;> rfl
   ·rw [ih.2 ⟨j,h4,h2,h3⟩]
    rfl
theorem Lo (hs:Key->Bool):∀ c,F5 hs c=(List.range c).filter λb=>hs (.i (ofNat b))
 | 0=>rfl
 | c+1=>by
  rw [F5,List.range_succ,List.filter_append,Lo hs c];cases h:hs (.i (ofNat c)) with
  | true =>rw [List.filter_cons_of_pos (p:=λb=>hs (.i (ofNat b))) h];rfl
  | false =>rw [List.filter_cons_of_neg (p:=λb=>hs (.i (ofNat b))) (by rw [h]; decide),List.filter_nil,List.append_nil];rfl
theorem Vw (th:Nat->Bool) (o c:Bool):∀ b,Cc th o c b=(List.range b).filter (GX th o c)
 | 0=>rfl
 | b+1=>by
  rw [Cc,List.range_succ,List.filter_append,Vw th o c b];cases h:GX th o c b <;> simp [h]
end
section
variable {A:Int} {k N:Nat} {w:Nat->E6} (hw:Bv k w=true)
abbrev cL (k:Nat) (w:Nat->E6):List Nat:=F5 (hsC w k) 112
include hw
theorem Ze {j:Nat} (hj:j<k):∃ c,c<112∧AA (w j)=0∧Aj (w j)=ofNat c∧B6 c=w j:=by
 rcases BH (w j) with ⟨c,hc,h1,h2,h3,_⟩ | ⟨hb,_⟩
 ·exact ⟨c,hc,h1,h2,h3⟩
 ·rw [Bh.1 hw j hj] at hb; cases hb
theorem OR {i:Nat} (hi:i<Eo k w):(cL k w).getD i 0<112∧BC k w i=B6 ((cL k w).getD i 0)∧∃ j,j<k∧BC k w i=w j:=by
 have hmem:(cL k w).getD i 0 ∈ cL k w:=by
  rw [List.getD_eq_getElem?_getD,List.getElem?_eq_getElem hi];exact List.getElem_mem hi
 rw [show cL k w=(List.range 112).filter λb=>hsC w k (.i (ofNat b)) from Lo _ _] at hmem;obtain ⟨h1,h2⟩:=List.mem_filter.1 hmem;rw [show (List.range 112).filter (λb=>hsC w k (.i (ofNat b)))=cL k w from (Lo _ _).symm] at h1 h2;obtain ⟨j,hj,h3,h4⟩:=Adx h2;obtain ⟨c,hc,_,h5,h6⟩:=Ze hw hj;have h7:c=(cL k w).getD i 0:=Int.ofNat.inj (h5.symm.trans h3);exact ⟨List.mem_range.1 h1,h4.trans (by rw [<- h6,h7]),j,hj,h4⟩
theorem Jh {i:Nat} (hi:i<Eo k w):AA (BC k w i)=0∧Aj (BC k w i)=ofNat ((cL k w).getD i 0):=by
 obtain ⟨h1,h2,j,hj,h3⟩:=OR hw hi;refine ⟨by rw [h3]; exact Bh.1 hw j hj,?_⟩;rw [h2];exact Nc h1
theorem U7 {i j:Nat} (hij:i<j) (hj:j<Eo k w):Aj (BC k w i)<Aj (BC k w j):=by
 rw [(Jh hw hj).2,(Jh hw (show i<Eo k w by omega)).2];have hp:(cL k w).Pairwise (·<·):=by
  rw [show cL k w=(List.range 112).filter λb=>hsC w k (.i (ofNat b)) from Lo _ _];exact TD
 have:=MR hp hij hj;exact Int.ofNat_lt.2 this
def F3 (k:Nat) (w:Nat->E6) (e:Nat):Bool:=GX (thC w k) (oC w 1 2 k) (oC w 2 1 k) ((cL k w).getD e 0)
theorem AkA {b:Nat}:thC w k b=hsC w k (.i (ofNat b)):=by
 rw [Bool.eq_iff_iff,SS,YM];constructor
 ·rintro ⟨j,hj,h⟩
  obtain ⟨c,_,_,h2,_⟩:=Ze hw hj;refine ⟨j,hj,?_⟩;rw [h2] at h ⊢;exact congrArg ofNat h
 ·rintro ⟨j,hj,h⟩
  exact ⟨j,hj,by rw [h]; rfl⟩
theorem PU:DR k w=((List.range (Eo k w)).filter (F3 k w)).map λe=>(cL k w).getD e 0:=by
 have h1:(List.range (Eo k w)).map (λe=>(cL k w).getD e 0)=cL k w:=List.ext_getElem (by simp) λi h1 h2=>by simp [List.getD_eq_getElem?_getD,List.getElem?_eq_getElem h2]
 have h2:((List.range (Eo k w)).filter (F3 k w)).map (λe=>(cL k w).getD e 0)=(cL k w).filter (GX (thC w k) (oC w 1 2 k) (oC w 2 1 k)):=by
  conv=>rhs; rw [<- h1]
  rw [List.filter_map];rfl
 rw [h2];unfold DR;rw [Vw,show cL k w=(List.range 112).filter λb=>hsC w k (.i (ofNat b)) from Lo _ _,List.filter_filter];refine List.filter_congr λb _=>?_;rw [<- AkA hw];unfold GX;cases thC w k b <;> simp [sel]
theorem Add {e:Nat} (he:e<Eo k w) (h:AjY (BC k w) (Eo k w) e):F3 k w e=true:=by
 obtain ⟨h1,h2,j,hj,h3⟩:=OR hw he;unfold F3 GX;have ht:thC w k ((cL k w).getD e 0)=true:=SS.2 ⟨j,hj,by rw [<- h3,(Jh hw he).2]; rfl⟩;rw [ht,<- h2];rcases h with h | ⟨⟨i,hi,h4,h5⟩,i',hi',h6,h7⟩
 ·rw [h,eI]; rfl
 ·obtain ⟨_,_,a,ha,h8⟩:=OR hw hi
  obtain ⟨_,_,b,hb,h9⟩:=OR hw hi';rw [Xe.2 ⟨a,ha,by rw [<- h8]; exact h4,by rw [<- h8]; exact h5⟩,Xe.2 ⟨b,hb,by rw [<- h9]; exact h6,by rw [<- h9]; exact h7⟩];cases ieq (BC k w e).src (BC k w e).dst <;> rfl
theorem AdK (hN:0<N):DO (BC k w) (Ds A k w (ofNat N))=DO (mkE (DR k w)) (K6 A k w (ofNat N))∧(Ds A k w (ofNat N)).length=(K6 A k w (ofNat N)).length:=by
 have h1:=ZI (a:=A) (v:=BC k w) (m:=Eo k w) (n:=N) (λi hi=>(Jh hw hi).1) (λi j hij hj=>U7 hw hij hj) (opn:=Fx (ofNat N) (Eo k w) (BC k w)) (good:=BP A (BC k w)) (keep:=F3 k w) (λd _ h=>AfW h) (λr h=>KN rfl h) (λr h0 _ h=>Af2 rfl h0 h) (λe he h=>Add hw he h) hN;have h2:Ds A k w (ofNat N)=onL (Eo k w) (okP (BC k w)) (BP A (BC k w)) (F3 k w) N []:=h1;have hlen:(DR k w).length=((List.range (Eo k w)).filter (F3 k w)).length:=by rw [PU hw,List.length_map]
 have hv:∀ j,j<((List.range (Eo k w)).filter (F3 k w)).length->mkE (DR k w) j=BC k w (sg (Eo k w) (F3 k w) j):=λj hj=>by
  have hs:sg (Eo k w) (F3 k w) j<Eo k w:=by
   unfold sg;rw [List.getD_eq_getElem?_getD,List.getElem?_eq_getElem hj];exact List.mem_range.1 (List.mem_filter.1 (List.getElem_mem hj)).1
  rw [(OR hw hs).2.1];unfold mkE;rw [PU hw,List.getD_eq_getElem?_getD,List.getElem?_map,List.getElem?_eq_getElem hj];unfold sg;rw [List.getD_eq_getElem?_getD (l:=(List.range (Eo k w)).filter (F3 k w)),List.getElem?_eq_getElem hj];rfl
 have h3:=Acw (A:=A) (m:=Eo k w) (v1:=BC k w) (v2:=mkE (DR k w)) (keep:=F3 k w) hv N [] (λe he=>by cases he);have h4:K6 A k w (ofNat N)=onL ((List.range (Eo k w)).filter (F3 k w)).length (okP (mkE (DR k w))) (BP A (mkE (DR k w))) (λ_=>true) N []:=by
  unfold K6 onW;rw [hlen];rfl
 rw [h2,show onL (Eo k w) (okP (BC k w)) (BP A (BC k w)) (F3 k w) N []=_ from h3,<- h4];refine ⟨?_,by rw [List.length_map]⟩;unfold DO;rw [List.map_map];refine List.map_congr_left λd hd=>?_;rw [h4] at hd;have hin:=AgW (A:=A) (v2:=mkE (DR k w)) (m:=((List.range (Eo k w)).filter (F3 k w)).length) (keep:=λ_=>true) N [] d (λe he=>by cases he) hd;show (List.range (d.map (sg (Eo k w) (F3 k w))).length).map (wE (BC k w) (d.map (sg (Eo k w) (F3 k w))))=(List.range d.length).map (wE (mkE (DR k w)) d);rw [List.length_map];refine List.map_congr_left λi hi=>?_;have hi:=List.mem_range.1 hi;show BC k w (wd (d.map (sg (Eo k w) (F3 k w))) i)=mkE (DR k w) (wd d i);rw [Abd _ hi,hv _ (hin _ (KB hi))]
end
theorem AdM (A:Int) (k:Nat) (w:Nat->E6) (n q:Int):EP A k w n q=EW A k w n q∧CP A k w n q=Gd A k w n q:=by
 cases h1:ieq (Dl A k w n) 0 with
 | false =>
  have he:EP A k w n q=Dl A k w n:=by unfold EP; rw [h1]; rfl
  have he2:EW A k w n q=Dl A k w n:=by unfold EW; rw [h1]; rfl
  refine ⟨he.trans he2.symm,?_⟩;unfold CP Gd;rw [he,he2,h1];rfl
 | true =>
  obtain ⟨g1,g2,g3,g4⟩:=KJ h1;have g2':¬ n<2:=of_decide_eq_false g2;obtain ⟨N,rfl⟩:∃ N:Nat,n=ofNat N:=⟨n.toNat,(Int.toNat_of_nonneg (by omega)).symm⟩;have hN:0<N:=by simp only [Int.ofNat_eq_natCast] at *; omega
  obtain ⟨e1,e2⟩:=AdK (A:=A) g1 hN;have he:EP A k w (ofNat N) q=EW A k w (ofNat N) q:=by unfold EP EW; rw [e2]
  refine ⟨he,?_⟩;unfold CP Gd;rw [he,e1]
end Go.Proofs.YtkbgidbledjejaaGreat.En
namespace Go.Proofs.YtkbgidbledjejaaGreat.En
open Go.Sy Go Go.Proofs.YtkbgidbledjejaaGreat.Ed
set_option maxRecDepth 100000
def lenV:V->Nat
 | .sl _ k _=>k
 | _=>0
def Aok:V->Nat->E6
 | .sl _ _ h=>λj=>edE (h j)
 | _=>λ_=>Ba
def okR:V->Bool
 | .sl 6 k h=>DL k λj=>okE (h j)
 | _=>false
def AmS {α:Type} (v:V) (F:Nat->(Nat->Nat)->(Nat->Nat->E6)->T α):T α:=match v with
 | .sl 1 n g=>.br (DL n λi=>okR (g i)) (F n (λi=>lenV (g i)) λi=>Aok (g i)) .fail
 | _=>.fail
def Amg (l1 l2:Nat->Nat) (x y:Nat->Nat->E6) (i:Nat):Bool:=Gx (l1 i) (x i) (l2 i) (y i)
def Amh (n m:Nat) (l1 l2:Nat->Nat) (x y:Nat->Nat->E6):Bool:=sel (ieq (Int.ofNat n) (Int.ofNat m)) (DL n (Amg l1 l2 x y)) false
def likeT:List V->A3
 | [u,v]=>AmS u λn l1 x=>AmS v λm l2 y=>.br (C7 n) (.br (DL n λi=>C7 (l1 i)) (.leaf (bV (Amh n m l1 l2 x y),[])) .fail) .fail
 | _=>.fail
noncomputable def AjH:List V->A3
 | [.val (.int .i64 A),u,.val (.int .i64 n),.val (.int .i64 q)]=>apL u λk w=>.leaf (.tup [iV (Int.ofNat (CP A k w n q).length),iV (EP A k w n q)],[])
 | _=>.fail
noncomputable def AkS:AD:=(9,Ug)::[]
theorem Afk:Al Tryz.prog Gl AkS:=.cons p9 .nil
theorem p11:Ar Tryz.prog Gl 11 AjH:=by
 refine Ah A0 mixed Tryz.func11 (by kernel_rfl) (by kernel_rfl) λvs r h' h=>?_;unfold AjH at h;split at h
 ·rename_i A u n q
  obtain ⟨k,w,ha,h⟩:=Bb h;have:=Aa h;simp only [Prod.mk.injEq] at this;obtain ⟨rfl,rfl⟩:=this;have hx:=AZ Afk [] (G:=Gl);refine ⟨[iV A,Ao k w,iV n,iV q],cxA Gl AkS [],_,λS W cs hq=>by
   obtain ⟨c,l,rfl,q1,c2,l2,rfl,q2,q3⟩:=hq;exact ⟨c,_,rfl,q1,c2,_,rfl,ha S W c2 q2,q3⟩,rfl,hx.1,hx.2,?_,As.refl _⟩
  generalize CP A k w n q=rows;exact DW.ok (.k (eL k) .l) (by kernel_rfl)
 ·cases h
end Go.Proofs.YtkbgidbledjejaaGreat.En
namespace Go.Proofs.YtkbgidbledjejaaGreat.En
open Go.Sy Go Go.Proofs.YtkbgidbledjejaaGreat.Ed
section
variable {w w':Nat->E6}
end
end Go.Proofs.YtkbgidbledjejaaGreat.En
namespace Go.Proofs.YtkbgidbledjejaaGreat.Ed
open Go.Sy Go
def HL (c:UInt8):Bool:=c == 32 || c == 9 || c == 10 || c == 13
def Gt (x:Int):Bool:=bor (ieq x 32) (bor (ieq x 9) (bor (ieq x 10) (ieq x 13)))
theorem OH (c:UInt8) (n:Nat) (hn:n<256):ieq ((c.toNat:Nat):Int) (n:Int)=(c == UInt8.ofNat n):=by
 rw [Bool.eq_iff_iff];simp only [ieq,beq_iff_eq];constructor
 ·intro h
  apply UInt8.toNat_inj.1;rw [UInt8.toNat_ofNat_of_lt' (by simpa using hn)];omega
 ·intro h
  rw [h,UInt8.toNat_ofNat_of_lt' (by simpa using hn)]
theorem Aeh (c:UInt8):Gt ((c.toNat:Nat):Int)=HL c:=by
 unfold Gt HL bor;have h1:=OH c 32 (by decide);have h2:=OH c 9 (by decide);have h3:=OH c 10 (by decide);have h4:=OH c 13 (by decide);have h1:ieq ((c.toNat:Nat):Int) 32=(c == 32):=h1;have h2:ieq ((c.toNat:Nat):Int) 9=(c == 9):=h2;have h3:ieq ((c.toNat:Nat):Int) 10=(c == 10):=h3;have h4:ieq ((c.toNat:Nat):Int) 13=(c == 13):=h4;rw [h1,h2,h3,h4];cases (c == 32) <;> cases (c == 9) <;> cases (c == 10) <;> rfl
def BA (l:List UInt8):List UInt8:=l.takeWhile λc=>!HL c
def Dc:Nat->List UInt8->Nat->List E6->List E6×Int×Nat
 | 0,_,_,acc=>(acc,0,0)
 | _+1,[],_,acc=>(acc,0,0)
 | q+1,c::l,a,acc =>
  if HL c=true then Dc q l (a+1) acc
  else if Gj (BA (c::l))=0 then Dc q ((c::l).drop (BA (c::l)).length) (a+(BA (c::l)).length) (acc++[Gk (BA (c::l))])
  else ([],30,a)
theorem Va {b:UInt8} (hb:HL b=true) (l:List UInt8) (q a:Nat) (acc:List E6):Dc (q+1) (b::l) a acc=Dc q l (a+1) acc:=by
 rw [Dc,if_pos hb]
theorem Abc (l:List UInt8):(BA l).length <= l.length:=by
 induction l with
 | nil=>exact Nat.le_refl _
 | cons c l ih =>
  unfold BA at ih ⊢;cases hc:HL c with
  | true=>rw [List.takeWhile_cons_of_neg (by simp [hc])]; exact Nat.zero_le _
  | false =>rw [List.takeWhile_cons_of_pos (by simp [hc])];simp only [List.length_cons];omega
section
variable (L:LT) (x:Int)
include L x
theorem Akv (h0:ieq x 32=true):(AM (Au tab ⟨A9 tb0,L,Gl⟩ Tryz.f102 [.val (.int .u8 x)] [])).sem=some ((bV true),[]):=by
 exact Ag (ks:=[kn h0,kn h0,kn h0,kT,kT,kT,kT,kT,kT]) (by kernel_rfl)
theorem Aku (h0:ieq x 32=false) (h1:ieq x 9=true):(AM (Au tab ⟨A9 tb0,L,Gl⟩ Tryz.f102 [.val (.int .u8 x)] [])).sem=some ((bV true),[]):=by
 exact Ag (ks:=[kn h0,kn h0,kn h0,kn h1,kn h1,kn h1,kT,kT,kT]) (by kernel_rfl)
theorem Akt (h0:ieq x 32=false) (h1:ieq x 9=false) (h2:ieq x 10=true):(AM (Au tab ⟨A9 tb0,L,Gl⟩ Tryz.f102 [.val (.int .u8 x)] [])).sem=some ((bV true),[]):=by
 exact Ag (ks:=[kn h0,kn h0,kn h0,kn h1,kn h1,kn h1,kn h2,kn h2,kn h2]) (by kernel_rfl)
theorem Aks (h0:ieq x 32=false) (h1:ieq x 9=false) (h2:ieq x 10=false):(AM (Au tab ⟨A9 tb0,L,Gl⟩ Tryz.f102 [.val (.int .u8 x)] [])).sem=some ((bV (ieq x 13)),[]):=by
 exact Ag (ks:=[kn h0,kn h0,kn h0,kn h1,kn h1,kn h1,kn h2,kn h2,kn h2]) (by kernel_rfl)
end
def XU:List V->A3
 | [.val (.int .u8 x)]=>out (bV (Gt x))
 | _=>.fail
theorem AfZ {α:Type} {l:List α} {i:Nat} {d:α} (h:i<l.length):l.getD i d=l[i]:=by simp [List.getD,h]
theorem GH {s:List UInt8} {a:Nat} (h:a<s.length):s.drop a=s[a]::s.drop (a+1):=List.drop_eq_getElem_cons h
theorem Oq {s:List UInt8} {a:Nat} (h:a<s.length):Gt (Of s a)=HL s[a]:=by
 unfold Of;rw [AfZ h];exact Aeh _
def getE (l:List E6) (i:Nat):E6:=l.getD i Ba
theorem VF {l:List E6} {e:E6} {i:Nat} (h:i<l.length+1):getE (l++[e]) i=if i=l.length then e else getE l i:=by
 unfold getE;by_cases hi:i=l.length
 ·rw [if_pos hi,hi]; simp
 ·rw [if_neg hi]
  simp only [List.getD,List.getElem?_append_left (show i<l.length by omega)]
def F8 (acc:List E6):Nat->V:=BL (λi=>eV (getE acc i)) acc.length
theorem NJ {g g':Nat->V}:∀ n,(∀ i,i<n->g i=g' i)->BL g n=BL g' n
 | 0,_=>rfl
 | n+1,h=>by
  show AE n (BL g n) (g n)=AE n (BL g' n) (g' n);rw [h n (Nat.lt_succ_self n),NJ n λi hi=>h i (by omega)]
theorem ZM (acc:List E6) (e:E6):AE acc.length (F8 acc) (eV e)=F8 (acc++[e]):=by
 have h1:F8 (acc++[e])=BL (λi=>eV (getE (acc++[e]) i)) (acc.length+1):=by
  unfold F8;rw [List.length_append];rfl
 rw [h1];show _=AE acc.length (BL (λi=>eV (getE (acc++[e]) i)) acc.length) (eV (getE (acc++[e]) acc.length));rw [VF (Nat.lt_succ_self _),if_pos rfl];unfold F8;rw [NJ (g:=λi=>eV (getE (acc++[e]) i)) (g':=λi=>eV (getE acc i)) acc.length λi hi=>by
  show eV (getE (acc++[e]) i)=eV (getE acc i);rw [VF (by omega),if_neg (by omega)]]
def Kq:Nat->List UInt8->List E6->List E6×E6
 | 0,_,acc=>(acc,Ba)
 | _+1,[],acc=>(acc,Ba)
 | q+1,c::l,acc =>
  if HL c=true then Kq q l acc
  else if Gj (BA (c::l))=0 then Kq q ((c::l).drop (BA (c::l)).length) (acc++[Gk (BA (c::l))])
  else (acc,Gk (BA (c::l)))
def Aei (s:List UInt8):Bool:=ilt 262144 (Int.ofNat (CM s))
def psR (s:List UInt8):List E6×Int×Nat:=Dc (s.length+1) s 0 []
def psL (s:List UInt8):List E6:=bif Aei s then [] else (psR s).1
def psE (s:List UInt8):Int:=bif Aei s then 2 else (psR s).2.1
def psI (s:List UInt8):Int:=bif Aei s then 0 else Int.ofNat (psR s).2.2
def psN (s:List UInt8):Nat:=(psL s).length
def psG (s:List UInt8) (i:Nat):E6:=getE (psL s) i
def psT:List V->A3
 | [.str s]=>.leaf (.tup [.ref 0,iV (psE s),iV (psI s)],[.row 46 6 (psN s) λi=>eV (psG s i)])
 | _=>.fail
theorem Pz:∀ (q:Nat) (l:List UInt8) (a:Nat) (acc:List E6),(Dc q l a acc).2.1=0->(Dc q l a acc).2.2=0
 | 0,_,_,_,_=>rfl
 | q+1,[],_,_,_=>rfl
 | q+1,c::l,a,acc,h=>by
  rw [Dc] at h ⊢;split
  ·rename_i hc
   rw [if_pos hc] at h;exact Pz q _ _ _ h
  ·rename_i hc
   rw [if_neg hc] at h;split
   ·rename_i hp
    rw [if_pos hp] at h;exact Pz q _ _ _ h
   ·rename_i hp
    rw [if_neg hp] at h;cases h
theorem Ajn {L:LT} (hL:LLe L L) (k:Nat) (r:Ex×St):LLe (onP k (isP L k r) r L) (onP k (isP L k r) r L):=λid f f' st hf r' hr=>by
 unfold onP at hr ⊢;cases hk:Nat.beq id k with
 | true =>rw [hk] at hr;obtain ⟨h1,h2⟩:=Ab hr;unfold isP at h1;have h1:=@of_decide_eq_true _ (Classical.propDecidable _) h1;have h3:isP L k r f' st=true:=AW (hL k f f' st hf _ h1);show sel (isP L k r f' st) _ _=_;rw [h3];exact h2
 | false =>rw [hk] at hr;exact hL id f f' st hf _ hr
end Go.Proofs.YtkbgidbledjejaaGreat.Ed
