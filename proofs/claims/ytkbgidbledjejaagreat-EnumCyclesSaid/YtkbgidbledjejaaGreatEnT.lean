/-
  Layer 6: all that the document's search finds. Conditions: a rising vocabulary of no more than 112 edges, lists of no more than 16.
-/
import Derived.Test.YtkbgidbledjejaaGreatEnO
import Derived.Test.YtkbgidbledjejaaGreatEnJ
namespace Go.Proofs.YtkbgidbledjejaaGreat.En
open Go.Sy Go Go.Proofs.YtkbgidbledjejaaGreat.Ed
open Int (ofNat)
theorem AaW {a:Int} {k:Nat} {f af:Nat->E6}:EP a k f af=isB a k f:=by
 rw [Bool.eq_iff_iff];constructor
 ·intro h
  obtain ⟨_,g2,g3,_⟩:=Md h;unfold HA at g3;cases hm:BF k f with
  | false=>rw [hm] at g3; cases g3
  | true =>rw [hm] at g3;have g3:=(FV.1 g3).2;unfold isB;rw [g2,hm];exact FV.2 ⟨rfl,λi hi=>(ZK hm (λ_ _=>rfl) i hi).trans (g3 i hi).symm⟩
 ·intro h
  unfold isB at h;cases h1:ieq (Gr a k f).1 0 with
  | false=>rw [h1] at h; cases h
  | true =>
   cases hm:BF k f with
   | false=>rw [h1,hm] at h; cases h
   | true =>rw [h1,hm] at h;have h2:=(FV.1 h).2;have hc:=Qq (a:=a) (n:=k) (f:=f) h1;have hlo:=hc.lo;unfold EP HA;rw [h1,hm,show ile 2 (ofNat k)=true from decide_eq_true (by show (2:Int) <= (k:Int); omega),show FW k f k (λi=>BV k f (ofNat (Ed.refL k λk=>Ao (f k))) i)=true from FV.2 ⟨rfl,λi hi=>(h2 i hi).symm.trans (ZK hm (λ_ _=>rfl) i hi)⟩];show ilt 0 (Ox k f 0 af)=true;unfold Ox;rw [hm,show BF 0 af=true from rfl,show Cd k f=Ao (f 0)::(Cd k f).drop 1 from (Eh k 0 f (by omega))];rfl
abbrev Aox:=Nat->(Nat->V)->(Nat->Bool)->(Nat->Nat)->(Nat->Nat->V)->Prop
def Jh (q:Int) (v:Nat->E6) (c:Nat) (ln:Nat->Nat) (me:Nat->Nat->V) (ws:List (List Nat)) (G B:Aox):Prop :=
 (q<ofNat (c+ws.length)∧∃ c' g' lv' ln' me',B c' g' lv' ln' me') ∨
 (ofNat (c+ws.length) <= q∧∃ g' lv' ln' me',G (c+ws.length) g' lv' ln' me'∧(∀ i,i<c+ws.length->lv' i=true)∧(∀ i,i<c->ln' i=ln i∧me' i=me i)∧Holds9 v ws c ln' me')
section
variable {q:Int} {v:Nat->E6} {c:Nat} {ln:Nat->Nat} {me:Nat->Nat->V} {ws ws2:List (List Nat)} {G1 B1 G B:Aox}
theorem SG {l l2:List (List Nat)} {j:Nat} (h:j<l.length):(l++l2).getD j []=l.getD j []:=by rw [List.getD_eq_getElem?_getD,List.getD_eq_getElem?_getD,List.getElem?_append_left h]
theorem SE {l l2:List (List Nat)} {j:Nat}:(l++l2).getD (l.length+j) []=l2.getD j []:=by rw [List.getD_eq_getElem?_getD,List.getD_eq_getElem?_getD,List.getElem?_append_right (Nat.le_add_right _ _),Nat.add_sub_cancel_left]
theorem Jh.app (h:Jh q v c ln me ws G1 B1) (hb:∀ c' g' lv' ln' me',B1 c' g' lv' ln' me'->B c' g' lv' ln' me') (hg:∀ g' lv' ln' me',G1 (c+ws.length) g' lv' ln' me'->(∀ i,i<c+ws.length->lv' i=true)->ofNat (c+ws.length) <= q->Jh q v (c+ws.length) ln' me' ws2 G B):Jh q v c ln me (ws++ws2) G B:=by
 have hl:c+(ws++ws2).length=c+ws.length+ws2.length:=by rw [List.length_append]; omega
 unfold Jh;rw [hl];rcases h with ⟨h1,c',g',lv',ln',me',h2⟩ | ⟨h1,g',lv',ln',me',h2,h3,h4,h5⟩
 ·exact .inl ⟨by simp only [Int.ofNat_eq_natCast] at *; omega,c',g',lv',ln',me',hb _ _ _ _ _ h2⟩
 ·rcases hg g' lv' ln' me' h2 h3 h1 with h6 | ⟨h6,g2,lv2,ln2,me2,h7,h8,h9,h10⟩
  ·exact .inl h6
  ·refine .inr ⟨h6,g2,lv2,ln2,me2,h7,h8,λi hi=>?_,⟨λj hj=>?_,λj hj t ht=>?_⟩⟩
   ·obtain ⟨p1,p2⟩:=h9 i (by omega)
    obtain ⟨p3,p4⟩:=h4 i hi;exact ⟨p1.trans p3,p2.trans p4⟩
   ·rcases Nat.lt_or_ge j ws.length with hj1 | hj1
    ·rw [(h9 (c+j) (by omega)).1,h5.len j hj1,SG hj1]
    ·obtain ⟨i,rfl⟩:∃ i,j=ws.length+i:=⟨j-ws.length,by omega⟩
     rw [<- Nat.add_assoc,h10.len i (by rw [List.length_append] at hj; omega),SE]
   ·rcases Nat.lt_or_ge j ws.length with hj1 | hj1
    ·rw [SG hj1] at ht ⊢
     rw [(h9 (c+j) (by omega)).2,h5.el j hj1 t ht]
    ·obtain ⟨i,rfl⟩:∃ i,j=ws.length+i:=⟨j-ws.length,by omega⟩
     rw [SE] at ht ⊢;rw [<- Nat.add_assoc,h10.el i (by rw [List.length_append] at hj; omega) t ht]
theorem Jh.nil {g:Nat->V} {lv:Nat->Bool} (hq:ofNat c <= q) (h:G c g lv ln me) (hlv:∀ i,i<c->lv i=true):Jh q v c ln me [] G B :=
 .inr ⟨hq,g,lv,ln,me,h,hlv,λ_ _=>⟨rfl,rfl⟩,⟨λj hj=>absurd hj (Nat.not_lt_zero _),λj hj=>absurd hj (Nat.not_lt_zero _)⟩⟩
theorem Jh.map (h:Jh q v c ln me ws G1 B1) (hg:∀ c' g' lv' ln' me',G1 c' g' lv' ln' me'->G c' g' lv' ln' me') (hb:∀ c' g' lv' ln' me',B1 c' g' lv' ln' me'->B c' g' lv' ln' me'):Jh q v c ln me ws G B:=by
 rcases h with ⟨h1,c',g',lv',ln',me',h2⟩ | ⟨h1,g',lv',ln',me',h2,h3⟩
 ·exact .inl ⟨h1,c',g',lv',ln',me',hb _ _ _ _ _ h2⟩
 ·exact .inr ⟨h1,g',lv',ln',me',hg _ _ _ _ _ h2,h3⟩
end
section
variable {a q:Int} {m N:Nat} {v af:Nat->E6} (hm:m <= 112) (hN:N <= 16) (hq2:q <= 65536) (hlt:∀ i j,i<m->j<m->ilt (Ao (v i)) (Ao (v j))=Nat.blt i j)
abbrev onW (a:Int) (m:Nat) (v:Nat->E6) (d:Nat) (r:List Nat):List (List Nat):=onL m (okP v) (BQ a v) (λ_=>true) d r
def Aow (a q:Int) (m N:Nat) (v af:Nat->E6) (d:Nat):Prop:=∀ (r:List Nat) (k:Nat) (f:Nat->E6) (c:Nat) (g:Nat->V) (lv:Nat->Bool) (ln:Nat->Nat) (me:Nat->Nat->V),r.length=k->(∀ i,i<k->f i=v (wd r i))->(∀ e,e ∈ r->e<m)->k+d=N->c <= 65536->ofNat c <= q->(∀ i,i<c->lv i=true) ->
 Jh q v c ln me (onW a m v d r) (λc' g' lv' ln' me'=>(E37 (d+1) [.ptr 0 0,.ref 1] (E5 a (ofNat N) q k (λi=>eV (f i)) m v af c g lv ln me false)).sem=some (bV true,E5 a (ofNat N) q k (λi=>eV (f i)) m v af c' g' lv' ln' me' false))
  (λc' g' lv' ln' me'=>(E37 (d+1) [.ptr 0 0,.ref 1] (E5 a (ofNat N) q k (λi=>eV (f i)) m v af c g lv ln me false)).sem=some (bV false,E5 a (ofNat N) q k (λi=>eV (f i)) m v af c' g' lv' ln' me' true))
theorem AhA {k:Nat} {f:Nat->E6} {i:Nat} (h:i<k):BV k f 0 i=f i:=by
 unfold BV EZ;have e:Ay 0 (ofNat k)=0:=by simp [Ay]
 rw [e];show f ((0+i) % k)=f i;rw [Nat.zero_add,Nat.mod_eq_of_lt h]
def nxF (k:Nat) (f:Nat->E6) (e:E6) (i:Nat):E6:=bif Nat.beq i k then e else BV k f 0 i
theorem Akn (k:Nat) (f:Nat->E6) (e:E6):AC k (λi=>eV (BV k f 0 i)) (Cw 1 [eV e] 0)=λi=>eV (nxF k f e i):=by
 funext i;rw [BN];unfold nxF;cases Nat.beq i k <;> rfl
theorem Agz {r:List Nat} {k:Nat} {f:Nat->E6} {b:Nat} (hk:r.length=k) (hk0:0<k) (hf:∀ i,i<k->f i=v (wd r i)) (hr:∀ e,e ∈ r->e<m) (hb:b<m) (hlt:∀ i j,i<m->j<m->ilt (Ao (v i)) (Ao (v j))=Nat.blt i j):okP v r b=Av (ieq (f (k-1)).dst (v b).src) (AN (ilt (Ao (v b)) (Ao (f 0)))):=by
 match r,hk with
 | [],hk=>simp at hk; omega
 | y::t,hk =>have hl:t.length+1=k:=hk;rw [hf (k-1) (by omega),hf 0 hk0,ZY (by simp),show k-1=t.length by omega,Gy,hlt b _ hb (Gp (by simp) hr)];show (ieq (v y).dst (v b).src && Nat.ble (Cj (y::t)) b)=(ieq (v y).dst (v b).src && !Nat.blt b (Cj (y::t)));congr 1;rw [Bool.eq_iff_iff,Bool.not_eq_true',<- Bool.not_eq_true,Nat.ble_eq];simp only [Nat.blt,Nat.ble_eq];omega
include hm hN hq2 hlt in
theorem XC {d:Nat} (ih:Aow a q m N v af d) {r:List Nat} {k:Nat} {f:Nat->E6} (hk:r.length=k) (hf:∀ i,i<k->f i=v (wd r i)) (hr:∀ e,e ∈ r->e<m) (hd:k+(d+1)=N):∀ (dd b:Nat) (c:Nat) (g:Nat->V) (lv:Nat->Bool) (ln:Nat->Nat) (me:Nat->Nat->V) (M:Nat),b+dd=m->c <= 65536->ofNat c <= q->(∀ i,i<c->lv i=true)->dd<M ->
  Jh q v c ln me (((List.range m).drop b).flatMap λe=>bif okP v r e then onW a m v d (e::r) else []) (λc' g' lv' ln' me'=>(Ax (B37 (E37 (d+1))) lp37 M (S37 a (ofNat N) q k (λi=>eV (f i)) m v af (ofNat b) c g lv ln me)).sem=some (Afm a (ofNat N) q k (λi=>eV (f i)) m v af c' g' lv' ln' me'))
   (λc' g' lv' ln' me'=>(Ax (B37 (E37 (d+1))) lp37 M (S37 a (ofNat N) q k (λi=>eV (f i)) m v af (ofNat b) c g lv ln me)).sem=some (Ab8 a (ofNat N) q k (λi=>eV (f i)) m v af c' g' lv' ln' me'))
 | 0,b,c,g,lv,ln,me,M,hb,hc,hq,hlv,hM=>by
  obtain ⟨M,rfl⟩:∃ o,M=o+1:=⟨M-1,by omega⟩;obtain rfl:b=m:=by omega
  rw [List.drop_eq_nil_of_le (by simp),List.flatMap_nil];exact Jh.nil (g:=g) (lv:=lv) hq (Ae Am2) hlv
 | dd+1,b,c,g,lv,ln,me,M,hb,hc,hq,hlv,hM=>by
  obtain ⟨M,rfl⟩:∃ o,M=o+1:=⟨M-1,by omega⟩;have hbm:b<m:=by omega
  have hm4:m <= 4611686018427387904:=by omega
  have hfk:Cl k=true:=decide_eq_true (by omega);have hak:Ck k 1 40=true:=decide_eq_true (by omega);rw [QJ hbm,List.flatMap_cons];have next:=λc g lv ln me h1 h2 h3=>XC ih hk hf hr hd dd (b+1) c g lv ln me M (by omega) h1 h2 h3 (by omega)
  have hch:=ih (b::r) (k+1) (nxF k f (v b)) c g lv ln me (by rw [List.length_cons,hk]) (λi hi=>by
   unfold nxF;by_cases e:i=k
   ·subst e
    rw [Nat.beq_refl,<- hk,Gy];rfl
   ·rw [Gu e,O1 (y:=0) (by omega),<- hf i (by omega)]
    exact AhA (by omega)) (λe he=>by
   rcases List.mem_cons.1 he with rfl | he
   ·exact hbm
   ·exact hr e he) (by omega) hc hq hlv
  rw [<- Akn] at hch;rcases Nat.eq_zero_or_pos k with hk0 | hk0
  ·have hr0:r=[]:=List.length_eq_zero_iff.1 (by omega)
   have h0:ilt 0 (ofNat k)=false:=by rw [hk0]; rfl
   rw [show okP v r b=true by rw [hr0]; rfl];refine Jh.app hch (λc' g' lv' ln' me' hE=>?_) λg' lv' ln' me' hE hlv' hq'=>?_
   ·exact Ae (AjB hbm hm4 hfk hak hlv h0 hE)
   ·refine (next _ g' lv' ln' me' (by simp only [Int.ofNat_eq_natCast] at *; omega) hq' hlv').map (λc' g2 lv2 ln2 me2 h=>?_) λc' g2 lv2 ln2 me2 h=>?_
    ·rw [Ae (AcD hbm hm4 hfk hak hlv h0 hE)]; exact h
    ·rw [Ae (AcD hbm hm4 hfk hak hlv h0 hE)]; exact h
  ·have ho:=Agz hk hk0 hf hr hbm hlt
   have hk4:k <= 4611686018427387904:=by omega
   cases h1:okP v r b with
   | false =>
    rw [h1] at ho;have hs:sel (ieq (f (k-1)).dst (v b).src) (ilt (Ao (v b)) (Ao (f 0))) true=true:=by
     cases h2:ieq (f (k-1)).dst (v b).src with
     | false=>rfl
     | true =>
      rw [h2] at ho;cases h3:ilt (Ao (v b)) (Ao (f 0)) with
      | true=>rfl
      | false=>rw [h3] at ho; cases ho
    show Jh q v c ln me ([]++_) _ _;rw [List.nil_append];refine (next c g lv ln me hc hq hlv).map (λc' g2 lv2 ln2 me2 h=>?_) λc' g2 lv2 ln2 me2 h=>?_
    ·rw [Ae (AhM hbm hm4 hk0 hk4 hs)]; exact h
    ·rw [Ae (AhM hbm hm4 hk0 hk4 hs)]; exact h
   | true =>
    rw [h1] at ho;obtain ⟨t1,t2⟩:=Bl ho.symm;have t2:ilt (Ao (v b)) (Ao (f 0))=false:=by
     cases h3:ilt (Ao (v b)) (Ao (f 0)) with
     | false=>rfl
     | true=>rw [h3] at t2; cases t2
    refine Jh.app hch (λc' g' lv' ln' me' hE=>?_) λg' lv' ln' me' hE hlv' hq'=>?_
    ·exact Ae (Am1 hbm hm4 hfk hak hlv hk0 hk4 t1 t2 hE)
    ·refine (next _ g' lv' ln' me' (by simp only [Int.ofNat_eq_natCast] at *; omega) hq' hlv').map (λc' g2 lv2 ln2 me2 h=>?_) λc' g2 lv2 ln2 me2 h=>?_
     ·rw [Ae (AhL hbm hm4 hfk hak hlv hk0 hk4 t1 t2 hE)]; exact h
     ·rw [Ae (AhL hbm hm4 hfk hak hlv hk0 hk4 t1 t2 hE)]; exact h
theorem Abi {c:Nat} {ln:Nat->Nat} {me:Nat->Nat->V} {k:Nat} {f:Nat->E6} {r:List Nat} {lv:Nat->Bool} (hk:r.length=k) (hf:∀ i,i<k->f i=v (wd r i)) (hlv:∀ i,i<c->lv i=true):(∀ i,i<c+1->CU lv c true i=true)∧(∀ i,i<c->Dn ln c k i=ln i∧Dj me c (λi=>eV (BV k f 0 i)) i=me i)∧Holds9 v [r] c (Dn ln c k) (Dj me c λi=>eV (BV k f 0 i)):=by
 refine ⟨λi hi=>?_,λi hi=>?_,⟨λj hj=>?_,λj hj t ht=>?_⟩⟩
 ·rw [Tv]
  split
  ·rfl
  ·exact hlv i (by omega)
 ·rw [L1,L6,if_neg (by omega),if_neg (by omega)]
  exact ⟨rfl,rfl⟩
 ·obtain rfl:j=0:=by simp at hj; omega
  rw [Nat.add_zero,L1,if_pos rfl];exact hk.symm
 ·obtain rfl:j=0:=by simp at hj; omega
  have ht:t<r.length:=ht;rw [Nat.add_zero,L6,if_pos rfl];show eV (BV k f 0 t)=eV (v (wd r t));rw [AhA (by omega),hf t (by omega)]
include hm hN hq2 hlt in
theorem AcU:∀ d,Aow a q m N v af d
 | d,r,k,f,c,g,lv,ln,me,hk,hf,hr,hd,hc,hq,hlv=>by
  have hfk:Cl k=true:=decide_eq_true (by omega);have hgd:EP a k f af=BQ a v r:=by
   rw [AaW];unfold BQ;rw [hk];exact Ny λi hi=>(hf i hi)
  cases hg:BQ a v r with
  | true =>
   rw [hg] at hgd;cases hfull:ieq (ofNat c) q with
   | true =>
    have h5:=Ct hfull;have hlen:1 <= (onW a m v d r).length:=by
     unfold onW;cases d <;> (unfold onL; rw [hg]; simp)
    exact .inl ⟨by rw [<- h5]; simp only [Int.ofNat_eq_natCast]; omega,c,g,lv,ln,me,Aek hfk hlv hgd hfull⟩
   | false =>
    have hne:ofNat c ≠ q:=λh=>by rw [h,eI] at hfull; cases hfull
    have hc1:c+1 <= 65536:=by simp only [Int.ofNat_eq_natCast] at *; omega
    have hq1:ofNat (c+1) <= q:=by simp only [Int.ofNat_eq_natCast] at *; omega
    have hca:Ck c 1 24=true:=decide_eq_true (by omega);obtain ⟨e1,e2,e3⟩:=Abi (v:=v) (c:=c) (ln:=ln) (me:=me) (lv:=lv) hk hf hlv
    match d with
    | 0 =>
     have h6:ieq (ofNat k) (ofNat N)=true:=by rw [show k=N by omega]; exact eI _
     have hW:onW a m v 0 r=[r]:=by unfold onW onL; rw [hg]; rfl
     rw [hW];exact .inr ⟨hq1,_,_,_,_,Ael hfk hlv h6 hca hgd hfull,e1,e2,e3⟩
    | d+1 =>
     have h6:ieq (ofNat k) (ofNat N)=false:=by
      cases h:ieq (ofNat k) (ofNat N) with
      | false=>rfl
      | true=>have:=Int.ofNat.inj (Ct h); omega
     have hW:onW a m v (d+1) r=[r]++((List.range m).drop 0).flatMap λe=>bif okP v r e then onW a m v d (e::r) else []:=by
      unfold onW;rw [onL,hg,List.filter_eq_self.2 λ_ _=>rfl,List.drop_zero];rfl
     rw [hW];refine Jh.app (G1:=λc' g' lv' ln' me'=>c'=c+1∧g'=AC c g .und∧lv'=CU lv c true∧ln'=Dn ln c k∧me'=Dj me c λi=>eV (BV k f 0 i)) (B1:=λ_ _ _ _ _=>False) (.inr ⟨hq1,_,_,_,_,⟨rfl,rfl,rfl,rfl,rfl⟩,e1,e2,e3⟩) (λ_ _ _ _ _ h=>h.elim) λg' lv' ln' me' he hlv' hq'=>?_;obtain ⟨_,rfl,rfl,rfl,rfl⟩:=he;refine (XC (a:=a) (af:=af) hm hN hq2 hlt (AcU d) hk hf hr hd m 0 (c+1) (AC c g .und) (CU lv c true) (Dn ln c k) (Dj me c λi=>eV (BV k f 0 i)) 4611686018427387905 (by omega) hc1 hq1 hlv' (by omega)).map (λc' g2 lv2 ln2 me2 h=>?_) λc' g2 lv2 ln2 me2 h=>?_
     ·exact AkN hfk hlv h6 hca hgd hfull h
     ·exact AkL hfk hlv h6 hca hgd hfull h
  | false =>
   rw [hg] at hgd
   match d with
   | 0 =>
    have h6:ieq (ofNat k) (ofNat N)=true:=by rw [show k=N by omega]; exact eI _
    have hW:onW a m v 0 r=[]:=by unfold onW onL; rw [hg]; rfl
    rw [hW];exact Jh.nil (g:=g) (lv:=lv) hq (Aem hfk hlv h6 hgd) hlv
   | d+1 =>
    have h6:ieq (ofNat k) (ofNat N)=false:=by
     cases h:ieq (ofNat k) (ofNat N) with
     | false=>rfl
     | true=>have:=Int.ofNat.inj (Ct h); omega
    have hW:onW a m v (d+1) r=((List.range m).drop 0).flatMap λe=>bif okP v r e then onW a m v d (e::r) else []:=by
     unfold onW;rw [onL,hg,List.filter_eq_self.2 λ_ _=>rfl,List.drop_zero];rfl
    rw [hW];refine (XC (a:=a) (af:=af) hm hN hq2 hlt (AcU d) hk hf hr hd m 0 c g lv ln me 4611686018427387905 (by omega) hc hq hlv (by omega)).map (λc' g2 lv2 ln2 me2 h=>?_) λc' g2 lv2 ln2 me2 h=>?_
    ·exact AkO hfk hlv h6 hgd h
    ·exact AkM hfk hlv h6 hgd h
end
end Go.Proofs.YtkbgidbledjejaaGreat.En
namespace Go.Proofs.YtkbgidbledjejaaGreat.En
open Go.Sy Go Go.Proofs.YtkbgidbledjejaaGreat.Ed
open Int (ofNat)
set_option maxRecDepth 100000
theorem Yx (c:FuncId->List V->St->T (V×Res)) (G:Nat->V) (ls:List (Nat×Lp×List (Nat×(Nat->V)))):Ru ⟨c,Cp ls,G⟩:=λid f st r hr=>by
 have hr:(Cp ls id f st).sem=some r:=hr;unfold Cp at hr;split at hr
 ·rename_i l z _
  cases hi:(Ax f l l.fuel (K7 (FH l.ks l.n st) z)).sem with
  | none=>rw [hi] at hr; cases hr
  | some r' =>rw [hi] at hr;cases hr;exact .weak ((HL _ _ _).trans (MK _ _)) (GE hi)
 ·cases hr
theorem Vp {P:Program} {G:Nat->V} {f:FuncId} {F0 F:List V->A3} (hp:As P G f F0) (h:∀ vs v h',(F vs).sem=some (v,h')->∃ vs' h'',By vs vs'∧(F0 vs').sem=some (v,h'')∧Au h'' h'):As P G f F:=by
 refine ⟨hp.1,λvs cs S w v h' hS hE hv he=>?_⟩;obtain ⟨vs',h'',h1,h4,h5⟩:=h vs v h' he;obtain ⟨hr,hc⟩:=hp.2 vs' cs S w v h'' hS hE (h1 S w cs hv) h4;refine ⟨h5.rows hr,hc.mono ?_⟩
 rintro e w' ⟨u,κ',S',rfl,g1,g2,g3⟩
 obtain ⟨p1,p2⟩:=h5.good g1;refine ⟨u,κ',S',rfl,p1,g2,Ext.ofNil g3.os g3.tape g3.output g3.size g3.keep (λi b hb=>?_) g3.sub g3.sup (h5.rows hr)⟩;rw [p2] at hb;exact g3.own i b hb
theorem Apn:ES Tryz.prog Gl 19 E19:=by
 have hx:=Be tb19_ok [] (G:=Gl);exact Ik (P:=Tryz.prog) A2 (Γ:=cxA Gl tb19 []) mixed hx.1 hx.2 Tryz.func19 (by kernel_rfl) (by kernel_rfl)
theorem Ai5:Bb Tryz.prog cx9.base:=M5 (.cons Apn .nil) (Fq rfl Aja)
theorem AkX:Bb Tryz.prog Ae6.base:=M5 (.cons Apg (.cons p43 .nil)) (Fq rfl tb41_ok)
theorem Aph:ES Tryz.prog Gl 41 E41 :=
 SJ (P:=Tryz.prog) A2 (Γ:=Ae6) (R:=R41) mixed AkX (Yx _ _ _) (Aj1 A2 mixed (Γ:=cx9) (Γ':=Ae6) (R:=rN) rfl Ai5 (Yx _ _ _) (Xr .nil) .nil) Tryz.func41 (by kernel_rfl) (by kernel_rfl)
theorem p9b:As Tryz.prog Gl 9 F9 :=
 (SJ (P:=Tryz.prog) A2 (Γ:=cx9) (R:=R9) mixed Ai5 (Yx _ _ _) (Xr (.cons Aph .nil)) Tryz.func9 (by kernel_rfl) (by kernel_rfl)).pure
def XH (rows:List (List E6)):Blk:=.jag ⟨22,1,rows.length,λ_=>.und,0,46,6,λ_=>true,λi=>(rows.getD i []).length,λi t=>eV ((rows.getD i []).getD t Ca),none⟩
abbrev E9 (k:Nat) (w:Nat->E6):Nat:=(F4 (hsC w k) 112).length
abbrev El (k:Nat) (w:Nat->E6):Nat->E6:=KC (gtC w k) (F4 (hsC w k) 112)
def HH (A:Int) (k:Nat) (w:Nat->E6) (n:Int):List (List Nat):=(W7 n (E9 k w) (El k w) (toN n)).filter (Qw A (El k w))
def FY (v:Nat->E6) (D:List (List Nat)):List (List E6):=D.map λd=>(List.range d.length).map (wE v d)
noncomputable def Ew (A:Int) (k:Nat) (w:Nat->E6) (n q:Int):Int :=
 sel (ieq (E3 A k w n) 0) (sel (ilt q 0) 1 (sel (ilt 65536 q) 1 (sel (HS k w n) 3 (sel (ilt q (ofNat (HH A k w n).length)) 3 0)))) (E3 A k w n)
noncomputable def CL (A:Int) (k:Nat) (w:Nat->E6) (n q:Int):List (List E6):=sel (ieq (Ew A k w n q) 0) (FY (El k w) (HH A k w n)) []
noncomputable def Uv:List V->A3
 | [.val (.int .i64 A),u,.val (.int .i64 n),.val (.int .i64 q)]=>apL u λk w=>.leaf (.tup [.jref 0,iV (Ew A k w n q)],[XH (CL A k w n q)])
 | _=>.fail
theorem Dz {rows:List (List E6)} (h:rows=[]):Au [.jag ⟨22,1,0,λ_=>.und,0,46,6,λ_=>true,λ_=>0,λ_ _=>.und,none⟩] [XH rows]:=by
 subst h;exact .consB (.jag (j:=⟨22,1,0,λ_=>.und,0,46,6,λ_=>true,λ_=>0,λ_ _=>.und,none⟩) (λ_ h=>absurd h (Nat.not_lt_zero _)) (λ_ h=>absurd h (Nat.not_lt_zero _)) (λ_ h=>absurd h (Nat.not_lt_zero _)) λ_ h=>absurd h (Nat.not_lt_zero _)) (.refl _)
theorem P3 (v:Nat->E6) (D:List (List Nat)):(FY v D).length=D.length:=by simp [FY]
theorem O7 (v:Nat->E6) (D:List (List Nat)) (j:Nat):(FY v D).getD j []=(List.range (D.getD j []).length).map (wE v (D.getD j [])):=by
 unfold FY;simp only [List.getD_eq_getElem?_getD,List.getElem?_map];cases D[j]? with
 | none=>rfl
 | some d=>rfl
theorem Aju (v:Nat->E6) (d:List Nat) {t:Nat} (h:t<d.length):((List.range d.length).map (wE v d)).getD t Ca=v (wd d t):=by
 rw [List.getD_eq_getElem?_getD,List.getElem?_map,List.getElem?_range h];rfl
theorem VI {v:Nat->E6} {D:List (List Nat)} {g:Nat->V} {lv:Nat->Bool} {ln:Nat->Nat} {me:Nat->Nat->V} (hl:∀ i,i<D.length->lv i=true) (hH:Holds9 v D 0 ln me):Au [.jag ⟨22,1,D.length,g,0,46,6,lv,ln,me,none⟩] [XH (FY v D)]:=by
 unfold XH;rw [P3];refine .consB (.jag (j:=⟨22,1,D.length,g,0,46,6,lv,ln,me,none⟩) (λ_ _=>.inr rfl) (λk hk=>(hl k hk).symm) (λk hk=>?_) λk hk t ht=>?_) (.refl _)
 ·have:=hH.len k hk
  rw [Nat.zero_add] at this;show _=ln k;rw [this,O7];simp
 ·have h1:=hH.len k hk
  have h2:=hH.el k hk t;rw [Nat.zero_add] at h1 h2;have ht:t<ln k:=ht;rw [h1] at ht;show _=me k t;rw [h2 ht,O7,Aju _ _ ht];rfl
theorem TE {A n:Int} {k:Nat} {w:Nat->E6} (h:ieq (E3 A k w n) 0=true):BF k w=true∧ilt n 2=false∧ilt 16 n=false∧k <= 128:=by
 unfold E3 at h;cases h1:bor (ieq A 1) (ieq A 2) with
 | false=>rw [h1] at h; cases h
 | true =>
  rw [h1] at h;cases h2:ilt n 2 with
  | true=>rw [h2] at h; cases h
  | false =>
   rw [h2] at h;cases h3:ilt 16 n with
   | true=>rw [h3] at h; cases h
   | false =>
    rw [h3] at h;cases h4:ilt 128 (ofNat k) with
    | true=>rw [h4] at h; cases h
    | false =>
     rw [h4] at h;have h4:¬ ((128:Int)<(k:Int)):=of_decide_eq_false h4;refine ⟨?_,rfl,rfl,by omega⟩;have h:ieq (refL A k w) 0=true:=h;unfold refL at h;cases h5:A0 (G6 A w) k 0 with
     | some t =>rw [h5] at h;have h:ieq (Vh w (tO (G6 A w) k)) 0=true:=h;unfold Vh at h;cases h6:ieq (AE (w (tO (G6 A w) k))) 0 <;> rw [h6] at h <;> cases h
     | none =>
      refine BO.2 λi hi=>?_;have:=CJ.1 h5 i (Nat.zero_le _) (by omega);unfold G6 at this;cases h7:ieq (AE (w i)) 0 with
      | true=>exact Ct h7
      | false=>rw [h7] at this; cases this
theorem p9:As Tryz.prog Gl 9 Uv:=by
 refine Vp p9b λvs u h' h=>?_;unfold Uv at h;split at h
 rotate_left
 ·cases h
 rename_i A u0 n q;obtain ⟨k,w,ha,h⟩:=Bd h;have:=Aa h;simp only [Prod.mk.injEq] at this;obtain ⟨rfl,rfl⟩:=this;have hv:By [iV A,u0,iV n,iV q] [iV A,Ap k w,iV n,iV q]:=λS W cs hq=>by
  obtain ⟨c,l,rfl,q1,c2,l2,rfl,q2,q3⟩:=hq;exact ⟨c,_,rfl,q1,c2,_,rfl,ha S W c2 q2,q3⟩
 cases h1:ieq (E3 A k w n) 0 with
 | false =>
  have he:Ew A k w n q=E3 A k w n:=by unfold Ew; rw [h1]; rfl
  have hr:CL A k w n q=[]:=by unfold CL; rw [he,h1]; rfl
  rw [he];exact ⟨_,_,hv,DW.ok (.k (eL k) <| .k (eN h1) <| .l) (by kernel_rfl),Dz hr⟩
 | true =>
  cases h2:ilt q 0 with
  | true =>
   have he:Ew A k w n q=1:=by unfold Ew; rw [h1,h2]; rfl
   have hr:CL A k w n q=[]:=by unfold CL; rw [he]; rfl
   rw [he];exact ⟨_,_,hv,DW.ok (.k (eL k) <| .k (eN h1) <| .r 3 h2 <| .k eT <| .l) (by kernel_rfl),Dz hr⟩
  | false =>
   cases h3:ilt 65536 q with
   | true =>
    have he:Ew A k w n q=1:=by unfold Ew; rw [h1,h2,h3]; rfl
    have hr:CL A k w n q=[]:=by unfold CL; rw [he]; rfl
    rw [he];exact ⟨_,_,hv,DW.ok (.k (eL k) <| .k (eN h1) <| .r 3 h2 <| .k h3 <| .l) (by kernel_rfl),Dz hr⟩
   | false =>
    obtain ⟨g1,g2,g3,g4⟩:=TE h1;have h2':¬ q<0:=of_decide_eq_false h2;have h3':¬ 65536<q:=of_decide_eq_false h3;have g2':¬ n<2:=of_decide_eq_false g2;have g3':¬ 16<n:=of_decide_eq_false g3;have hG:Pa k w n=true:=by
     unfold Pa;rw [g1,show ile 2 n=true from decide_eq_true (by omega),show ile n 16=true from decide_eq_true (by omega),decide_eq_true g4];rfl
    cases h4:HS k w n with
    | true =>
     have he:Ew A k w n q=3:=by unfold Ew; rw [h1,h2,h3,h4]; rfl
     have hr:CL A k w n q=[]:=by unfold CL; rw [he]; rfl
     rw [he];exact ⟨_,_,hv,DW.ok (.k (eL k) <| .k (eN h1) <| .r 3 h2 <| .k h3 <| .k (eL k) <| .k hG <| .k h4 <| .l) (by kernel_rfl),Dz hr⟩
    | false =>
     have hc:Ck 0 k 40=true:=decide_eq_true (by omega);have hB:=AeO (a:=A) (n:=n) (k:=k) (e:=w) (by omega) λi hi=>by
      rcases BW (w i) with ⟨c,hc,_,hn,_⟩ | ⟨hb,_⟩
      ·rw [hn]; exact XP hc
      ·rw [BO.1 g1 i hi] at hb; cases hb
     obtain ⟨N,rfl⟩:∃ N:Nat,n=ofNat N:=⟨n.toNat,(Int.toNat_of_nonneg (by omega)).symm⟩;have hN:0<N∧N <= 16:=by simp only [Int.ofNat_eq_natCast] at *; omega
     have hm:E9 k w <= 112:=WL _ _;have hR:=Aav (a:=A) (n:=ofNat N) (v:=El k w) (x:=λ_=>0) rfl hN.1 hN.2 hm;have hF:=W6 (n:=ofNat N) (v:=El k w) hm hN.2;have hlen:(HH A k w (ofNat N)).length<10000000000000000000000000000000000000000000000000000:=by
      have h5:=List.length_filter_le (Qw A (El k w)) (W7 (ofNat N) (E9 k w) (El k w) N);have h6:F43=10000000000000000000000000000000000000000000000000000:=rfl;rw [<- h6];show ((W7 (ofNat N) (E9 k w) (El k w) N).filter (Qw A (El k w))).length<F43;omega
     have hl:=Akz (A:=A) (n:=ofNat N) (q:=q) (k:=k) (w:=w) hN.2 hm (hs:=hsC w k) (gt:=λy=>eV (gtC w k y)) hR (by omega) (by omega) hlen;have heq:Ew A k w (ofNat N) q=sel (ilt q (ofNat (HH A k w (ofNat N)).length)) 3 0:=by unfold Ew; rw [h1,h2,h3,h4]; rfl
     rcases hl with ⟨hq,h5⟩ | ⟨hq,h5⟩
     ·have hq:q<ofNat (HH A k w (ofNat N)).length:=hq
      have he:Ew A k w (ofNat N) q=3:=by rw [heq,show ilt q _=true from decide_eq_true hq]; rfl
      have hr0:CL A k w (ofNat N) q=[]:=by unfold CL; rw [he]; rfl
      rw [he];rcases h5 with ⟨L',x',hr⟩ | ⟨L',x',c',g',lv',ln',me',hr⟩
      ·exact ⟨_,_,hv,DW.ok (.k (eL k) <| .k (eN h1) <| .r 3 h2 <| .k h3 <| .k (eL k) <| .k hG <| .k h4 <| .k (eL k) <| .k hc <| .k (eL k) <| .r 3 (eN h1) <| .k (eL k) <| .k hG <| .k (eN h1) <| .k h4 <| .a (E7 hB) <| .a hr <| .l) (by kernel_rfl),Dz hr0⟩
      ·exact ⟨_,_,hv,DW.ok (.k (eL k) <| .k (eN h1) <| .r 3 h2 <| .k h3 <| .k (eL k) <| .k hG <| .k h4 <| .k (eL k) <| .k hc <| .k (eL k) <| .r 3 (eN h1) <| .k (eL k) <| .k hG <| .k (eN h1) <| .k h4 <| .a (E7 hB) <| .a hr <| .l) (by kernel_rfl),Dz hr0⟩
     ·have hq:ofNat (HH A k w (ofNat N)).length <= q:=hq
      have he:Ew A k w (ofNat N) q=0:=by rw [heq,show ilt q _=false from decide_eq_false (by simp only [Int.ofNat_eq_natCast] at *; omega)]; rfl
      have hr0:CL A k w (ofNat N) q=FY (El k w) (HH A k w (ofNat N)):=by unfold CL; rw [he]; rfl
      rw [he];rcases h5 with ⟨hd,x',hr⟩ | ⟨L',x',g',lv',ln',me',hr,hlv,hH⟩
      ·exact ⟨_,_,hv,DW.ok (.k (eL k) <| .k (eN h1) <| .r 3 h2 <| .k h3 <| .k (eL k) <| .k hG <| .k h4 <| .k (eL k) <| .k hc <| .k (eL k) <| .r 3 (eN h1) <| .k (eL k) <| .k hG <| .k (eN h1) <| .k h4 <| .a (E7 hB) <| .a hr <| .l) (by kernel_rfl),Dz (by rw [hr0]; show FY _ (HH A k w (ofNat N))=[]; rw [show HH A k w (ofNat N)=[] from hd]; rfl)⟩
      ·rw [hr0]
       exact ⟨_,_,hv,DW.ok (.k (eL k) <| .k (eN h1) <| .r 3 h2 <| .k h3 <| .k (eL k) <| .k hG <| .k h4 <| .k (eL k) <| .k hc <| .k (eL k) <| .r 3 (eN h1) <| .k (eL k) <| .k hG <| .k (eN h1) <| .k h4 <| .a (E7 hB) <| .a hr <| .l) (by kernel_rfl),VI (g:=g') hlv hH⟩
end Go.Proofs.YtkbgidbledjejaaGreat.En
namespace Go.Proofs.YtkbgidbledjejaaGreat.En
open Go.Sy Go Go.Proofs.YtkbgidbledjejaaGreat.Ed
open Int (ofNat)
set_option maxRecDepth 100000
theorem fill_ok {P:Program} {G:Nat->V} {f:FuncId} {E:List V->List Blk->A3} (h:ES P G f E) (z:List (Nat×(Nat->V))):ES P G f λvs hp=>E vs (K7 ⟨vs,hp⟩ z).h :=
 ⟨h.1,λvs cs κ S hp w v h' h1 h2 h3 h4=>by
  obtain ⟨κ2,S2,r1,r2⟩:=MK (Γ:=⟨λ_ _ _=>.fail,G⟩) z ⟨vs,hp⟩ [] κ S { tmps:=cs.toArray,defers:=[] } w ⟨h1,h2,by simpa using h3,rfl⟩;have ht:(K7 ⟨vs,hp⟩ z).t=vs:=fill_t z _;have hv:VRs S2 w vs κ2 cs:=by
   have:=r1.tmps;rw [ht] at this;simpa using this
  refine (h.2 vs cs κ2 S2 _ w v h' r1.good r1.env hv h4).mono ?_
  rintro e w' ⟨c,κ',S',rfl,g1,g2,g3⟩
  exact ⟨c,κ',S',rfl,g1,g2,r2.trans g3⟩⟩
where
 fill_t:∀ (z:List (Nat×(Nat->V))) (st:St),(K7 st z).t=st.t
  | [],_=>rfl
  | (id,g)::l,st=>by
    unfold K7;rw [fill_t l];split <;> rfl
def z37:List (Nat×(Nat->V)):=[(1,λ_=>eV Ca),(3,λ_=>eV Ca)]
noncomputable def Afj (vs:List V) (h:List Blk):A3:=match h with
 | .cells [_,_,.val (.int .i64 n),_,_,_,_]::_=>E37 (toN n+1) vs (K7 ⟨vs,h⟩ z37).h
 | _=>.fail
theorem Apj:ES Tryz.prog Gl 37 Afj:=ES.dep (Akg 0).1 λvs hp r hr=>by
 unfold Afj at hr;split at hr
 ·exact ⟨_,fill_ok (Akg _) z37,hr⟩
 ·cases hr
noncomputable def tb10:AG:=(34,Vi)::(35,OZ)::(36,AlM)::[]
theorem tb10_ok:Al Tryz.prog Gl tb10:=.cons Apl <| .cons p35 <| .cons Apk <| .nil
noncomputable abbrev cx10:Cx:=⟨QT [(37,UD Afj)] (A5 tb10),Cp [],Gl⟩
noncomputable def F10 (vs:List V):A3:=AL (Ar tab cx10 Tryz.f10 vs [])
theorem Apy:As Tryz.prog Gl 10 F10 :=
 (Ik (P:=Tryz.prog) A2 (Γ:=cx10) mixed (M5 (.cons Apj.ask .nil) (Fq rfl tb10_ok)) (ME _ _ _) Tryz.func10 (by kernel_rfl) (by kernel_rfl)).pure
def K8 (A:Int) (k:Nat) (w:Nat->E6) (n:Int):List (List Nat):=onW A (DV k w).length (mkE (DV k w)) (toN n) []
noncomputable def EY (A:Int) (k:Nat) (w:Nat->E6) (n q:Int):Int :=
 sel (ieq (E3 A k w n) 0) (sel (ilt q 0) 1 (sel (ilt 65536 q) 1 (sel (HS k w n) 3 (sel (ilt q (ofNat (K8 A k w n).length)) 3 0)))) (E3 A k w n)
noncomputable def Gd (A:Int) (k:Nat) (w:Nat->E6) (n q:Int):List (List E6):=sel (ieq (EY A k w n q) 0) (FY (mkE (DV k w)) (K8 A k w n)) []
noncomputable def ZC:List V->A3
 | [.val (.int .i64 A),u,.val (.int .i64 n),.val (.int .i64 q)]=>apL u λk w=>.leaf (.tup [.jref 0,iV (EY A k w n q)],[XH (Gd A k w n q)])
 | _=>.fail
theorem Adq:(List.range 112).all (λc=>ieq (Ao (B8 c)) (ofNat c))=true:=by kernel_rfl
theorem OH {th:Nat->Bool} {o c:Bool}:∀ b e,e ∈ Ce th o c b->e<b
 | 0,e,h=>by cases h
 | b+1,e,h=>by
  unfold Ce at h;cases hq:GX th o c b with
  | true =>
   rw [hq] at h;rcases List.mem_append.1 h with h | h
   ·have:=OH b e h; omega
   ·simp at h; omega
  | false=>rw [hq] at h; have:=OH b e h; omega
theorem Ki {th:Nat->Bool} {o c:Bool}:∀ b i j,i<j->j<(Ce th o c b).length->(Ce th o c b).getD i 0<(Ce th o c b).getD j 0
 | 0,i,j,h,hj=>by cases hj
 | b+1,i,j,h,hj=>by
  unfold Ce at hj ⊢;cases hq:GX th o c b with
  | false=>rw [hq] at hj; exact Ki b i j h hj
  | true =>
   rw [hq] at hj;have hj:j<(Ce th o c b++[b]).length:=hj;rw [List.length_append] at hj;show (Ce th o c b++[b]).getD i 0<(Ce th o c b++[b]).getD j 0;have hi:i<(Ce th o c b).length:=by simp at hj; omega
   rw [List.getD_eq_getElem?_getD,List.getD_eq_getElem?_getD,List.getElem?_append_left hi];rcases Nat.lt_or_ge j (Ce th o c b).length with hl | hl
   ·rw [List.getElem?_append_left hl]
    have:=Ki b i j h hl;rw [List.getD_eq_getElem?_getD,List.getD_eq_getElem?_getD] at this;exact this
   ·obtain rfl:j=(Ce th o c b).length:=by simp at hj; omega
    rw [List.getElem?_append_right (Nat.le_refl _),Nat.sub_self];have:=OH b ((Ce th o c b)[i]'hi) (List.getElem_mem hi);rw [List.getElem?_eq_getElem hi];exact this
theorem Np {c:Nat} (h:c<112):Ao (B8 c)=ofNat c:=by
 have:=List.all_eq_true.1 Adq c (List.mem_range.2 h);exact Ct this
theorem Zi {th:Nat->Bool} {o c:Bool} {i:Nat} (hi:i<(Ce th o c 112).length):(Ce th o c 112).getD i 0<112:=by
 rw [List.getD_eq_getElem?_getD,List.getElem?_eq_getElem hi];exact OH 112 _ (List.getElem_mem hi)
theorem Anl (k:Nat) (w:Nat->E6) (i j:Nat) (hi:i<(DV k w).length) (hj:j<(DV k w).length):ilt (Ao (mkE (DV k w) i)) (Ao (mkE (DV k w) j))=Nat.blt i j:=by
 unfold mkE;have h1:=Zi hi;have h2:=Zi hj;rw [show Ao (B8 ((DV k w).getD i 0))=ofNat ((DV k w).getD i 0) from Np h1,show Ao (B8 ((DV k w).getD j 0))=ofNat ((DV k w).getD j 0) from Np h2];rw [Bool.eq_iff_iff];simp only [ilt,decide_eq_true_eq,Int.ofNat_eq_natCast,Nat.blt,Nat.ble_eq];rcases Nat.lt_trichotomy i j with h | h | h
 ·have:=Ki 112 i j h hj
  have:(DV k w).getD i 0<(DV k w).getD j 0:=this;omega
 ·subst h; omega
 ·have:=Ki 112 j i h hi
  have:(DV k w).getD j 0<(DV k w).getD i 0:=this;omega
theorem p10:As Tryz.prog Gl 10 ZC:=by
 refine Vp Apy λvs u h' h=>?_;unfold ZC at h;split at h
 rotate_left
 ·cases h
 rename_i A u0 n q;obtain ⟨k,w,ha,h⟩:=Bd h;have:=Aa h;simp only [Prod.mk.injEq] at this;obtain ⟨rfl,rfl⟩:=this;have hv:By [iV A,u0,iV n,iV q] [iV A,Ap k w,iV n,iV q]:=λS W cs hq=>by
  obtain ⟨c,l,rfl,q1,c2,l2,rfl,q2,q3⟩:=hq;exact ⟨c,_,rfl,q1,c2,_,rfl,ha S W c2 q2,q3⟩
 cases h1:ieq (E3 A k w n) 0 with
 | false =>
  have he:EY A k w n q=E3 A k w n:=by unfold EY; rw [h1]; rfl
  have hr:Gd A k w n q=[]:=by unfold Gd; rw [he,h1]; rfl
  rw [he];exact ⟨_,_,hv,DW.ok (.k (eL k) <| .k (eN h1) <| .l) (by kernel_rfl),Dz hr⟩
 | true =>
  cases h2:ilt q 0 with
  | true =>
   have he:EY A k w n q=1:=by unfold EY; rw [h1,h2]; rfl
   have hr:Gd A k w n q=[]:=by unfold Gd; rw [he]; rfl
   rw [he];exact ⟨_,_,hv,DW.ok (.k (eL k) <| .k (eN h1) <| .r 3 h2 <| .k eT <| .l) (by kernel_rfl),Dz hr⟩
  | false =>
   cases h3:ilt 65536 q with
   | true =>
    have he:EY A k w n q=1:=by unfold EY; rw [h1,h2,h3]; rfl
    have hr:Gd A k w n q=[]:=by unfold Gd; rw [he]; rfl
    rw [he];exact ⟨_,_,hv,DW.ok (.k (eL k) <| .k (eN h1) <| .r 3 h2 <| .k h3 <| .l) (by kernel_rfl),Dz hr⟩
   | false =>
    obtain ⟨g1,g2,g3,g4⟩:=TE h1;have h2':¬ q<0:=of_decide_eq_false h2;have h3':¬ 65536<q:=of_decide_eq_false h3;have g2':¬ n<2:=of_decide_eq_false g2;have g3':¬ 16<n:=of_decide_eq_false g3;have hG:Pa k w n=true:=by
     unfold Pa;rw [g1,show ile 2 n=true from decide_eq_true (by omega),show ile n 16=true from decide_eq_true (by omega),decide_eq_true g4];rfl
    cases h4:HS k w n with
    | true =>
     have he:EY A k w n q=3:=by unfold EY; rw [h1,h2,h3,h4]; rfl
     have hr:Gd A k w n q=[]:=by unfold Gd; rw [he]; rfl
     rw [he];exact ⟨_,_,hv,DW.ok (.k (eL k) <| .k (eN h1) <| .r 3 h2 <| .k h3 <| .k (eL k) <| .k hG <| .k h4 <| .l) (by kernel_rfl),Dz hr⟩
    | false =>
     obtain ⟨N,rfl⟩:∃ N:Nat,n=ofNat N:=⟨n.toNat,(Int.toNat_of_nonneg (by omega)).symm⟩;have hN:0<N∧N <= 16:=by simp only [Int.ofNat_eq_natCast] at *; omega
     have hm:(DV k w).length <= 112:=TW _ _ _ _;have hon:=AcU (a:=A) (af:=λ_=>Ca) hm hN.2 (q:=q) (by omega) (Anl k w) N [] 0 (λ_=>Ca) 0 Ac (λ_=>true) (λ_=>0) (λ_ _=>.und) rfl (λ_ h=>absurd h (Nat.not_lt_zero _)) (λ_ h=>by cases h) (by omega) (by omega) (by show (0:Int) <= q; omega) (λ_ _=>rfl);have heq:EY A k w (ofNat N) q=sel (ilt q (ofNat (K8 A k w (ofNat N)).length)) 3 0:=by unfold EY; rw [h1,h2,h3,h4]; rfl
     rcases hon with ⟨hq,c2,g2,lv2,ln2,me2,hE⟩ | ⟨hq,g2,lv2,ln2,me2,hE,hlv,_,hH⟩
     ·rw [Nat.zero_add] at hq
      have hq:q<ofNat (K8 A k w (ofNat N)).length:=hq;have he:EY A k w (ofNat N) q=3:=by rw [heq,show ilt q _=true from decide_eq_true hq]; rfl
      have hr0:Gd A k w (ofNat N) q=[]:=by unfold Gd; rw [he]; rfl
      rw [he];have hE:(Afj [.ptr 0 0,.ref 1] (E5 A (ofNat N) q 0 Ac (DV k w).length (mkE (DV k w)) (λ_=>Ca) 0 Ac (λ_=>true) (λ_=>0) (λ_ _=>.und) false |>.set 3 (.row 46 6 0 λ_=>.und))).sem=_:=hE
      exact ⟨_,_,hv,DW.ok (.k (eL k) <| .k (eN h1) <| .r 3 h2 <| .k h3 <| .k (eL k) <| .k hG <| .k h4 <| .k (eL k) <| .k g1 <| .k (decide_eq_true g4) <| .a (E7 hE) <| .k eT <| .l) (by kernel_rfl),Dz hr0⟩
     ·rw [Nat.zero_add] at hq hE hlv
      have hq:ofNat (K8 A k w (ofNat N)).length <= q:=hq;have he:EY A k w (ofNat N) q=0:=by rw [heq,show ilt q _=false from decide_eq_false (by simp only [Int.ofNat_eq_natCast] at *; omega)]; rfl
      have hr0:Gd A k w (ofNat N) q=FY (mkE (DV k w)) (K8 A k w (ofNat N)):=by unfold Gd; rw [he]; rfl
      rw [he,hr0];have hE:(Afj [.ptr 0 0,.ref 1] (E5 A (ofNat N) q 0 Ac (DV k w).length (mkE (DV k w)) (λ_=>Ca) 0 Ac (λ_=>true) (λ_=>0) (λ_ _=>.und) false |>.set 3 (.row 46 6 0 λ_=>.und))).sem=_:=hE
      exact ⟨_,_,hv,DW.ok (.k (eL k) <| .k (eN h1) <| .r 3 h2 <| .k h3 <| .k (eL k) <| .k hG <| .k h4 <| .k (eL k) <| .k g1 <| .k (decide_eq_true g4) <| .a (E7 hE) <| .k eF <| .l) (by kernel_rfl),VI (g:=g2) hlv hH⟩
end Go.Proofs.YtkbgidbledjejaaGreat.En
