/-
  Layer 6: all that the document's search finds. Conditions: a rising vocabulary of no more than 112 edges, lists of no more than 16.
-/
import Derived.Test.YtkbgidbledjejaaGreatEnO
import Derived.Test.YtkbgidbledjejaaGreatEnJ
namespace Go.Proofs.YtkbgidbledjejaaGreat.En
open Go.Sy Go Go.Proofs.YtkbgidbledjejaaGreat.Ed
open Int (ofNat)
theorem Aav {a:Int} {k:Nat} {f af:Nat->E6}:EO a k f af=isB a k f:=by
 rw [Bool.eq_iff_iff];constructor
 ·intro h
  obtain ⟨_,g2,g3,_⟩:=Md h;unfold HE at g3;cases hm:Bv k f with
  | false=>rw [hm] at g3; cases g3
  | true =>rw [hm] at g3;have g3:=(GN.1 g3).2;unfold isB;rw [g2,hm];exact GN.2 ⟨rfl,λi hi=>(Zl hm (λ_ _=>rfl) i hi).trans (g3 i hi).symm⟩
 ·intro h
  unfold isB at h;cases h1:ieq (Gr a k f).1 0 with
  | false=>rw [h1] at h; cases h
  | true =>
   cases hm:Bv k f with
   | false=>rw [h1,hm] at h; cases h
   | true =>rw [h1,hm] at h;have h2:=(GN.1 h).2;have hc:=PZ (a:=a) (n:=k) (f:=f) h1;have hlo:=hc.lo;unfold EO HE;rw [h1,hm,show ile 2 (ofNat k)=true from decide_eq_true (by show (2:Int) <= (k:Int); omega),show Gx k f k (λi=>BV k f (ofNat (Ed.refL k λk=>Aj (f k))) i)=true from GN.2 ⟨rfl,λi hi=>(h2 i hi).symm.trans (Zl hm (λ_ _=>rfl) i hi)⟩];show ilt 0 (Ge k f 0 af)=true;unfold Ge;rw [hm,show Bv 0 af=true from rfl,show Bt k f=Aj (f 0)::(Bt k f).drop 1 from (Eh k 0 f (by omega))];rfl
abbrev Ana:=Nat->(Nat->V)->(Nat->Bool)->(Nat->Nat)->(Nat->Nat->V)->Prop
def Jf (q:Int) (v:Nat->E6) (c:Nat) (ln:Nat->Nat) (me:Nat->Nat->V) (ws:List (List Nat)) (G B:Ana):Prop :=
 (q<ofNat (c+ws.length)∧∃ c' g' lv' ln' me',B c' g' lv' ln' me') ∨
 (ofNat (c+ws.length) <= q∧∃ g' lv' ln' me',G (c+ws.length) g' lv' ln' me'∧(∀ i,i<c+ws.length->lv' i=true)∧(∀ i,i<c->ln' i=ln i∧me' i=me i)∧Holds9 v ws c ln' me')
section
variable {q:Int} {v:Nat->E6} {c:Nat} {ln:Nat->Nat} {me:Nat->Nat->V} {ws ws2:List (List Nat)} {G1 B1 G B:Ana}
theorem Ss {l l2:List (List Nat)} {j:Nat} (h:j<l.length):(l++l2).getD j []=l.getD j []:=by rw [List.getD_eq_getElem?_getD,List.getD_eq_getElem?_getD,List.getElem?_append_left h]
theorem Sr {l l2:List (List Nat)} {j:Nat}:(l++l2).getD (l.length+j) []=l2.getD j []:=by rw [List.getD_eq_getElem?_getD,List.getD_eq_getElem?_getD,List.getElem?_append_right (Nat.le_add_right _ _),Nat.add_sub_cancel_left]
theorem Jf.app (h:Jf q v c ln me ws G1 B1) (hb:∀ c' g' lv' ln' me',B1 c' g' lv' ln' me'->B c' g' lv' ln' me') (hg:∀ g' lv' ln' me',G1 (c+ws.length) g' lv' ln' me'->(∀ i,i<c+ws.length->lv' i=true)->ofNat (c+ws.length) <= q->Jf q v (c+ws.length) ln' me' ws2 G B):Jf q v c ln me (ws++ws2) G B:=by
 have hl:c+(ws++ws2).length=c+ws.length+ws2.length:=by rw [List.length_append]; omega
 unfold Jf;rw [hl];rcases h with ⟨h1,c',g',lv',ln',me',h2⟩ | ⟨h1,g',lv',ln',me',h2,h3,h4,h5⟩
 ·exact .inl ⟨by simp only [Int.ofNat_eq_natCast] at *; omega,c',g',lv',ln',me',hb _ _ _ _ _ h2⟩
 ·rcases hg g' lv' ln' me' h2 h3 h1 with h6 | ⟨h6,g2,lv2,ln2,me2,h7,h8,h9,h10⟩
  ·exact .inl h6
  ·refine .inr ⟨h6,g2,lv2,ln2,me2,h7,h8,λi hi=>?_,⟨λj hj=>?_,λj hj t ht=>?_⟩⟩
   ·obtain ⟨p1,p2⟩:=h9 i (by omega)
    obtain ⟨p3,p4⟩:=h4 i hi;exact ⟨p1.trans p3,p2.trans p4⟩
   ·rcases Nat.lt_or_ge j ws.length with hj1 | hj1
    ·rw [(h9 (c+j) (by omega)).1,h5.len j hj1,Ss hj1]
    ·obtain ⟨i,rfl⟩:∃ i,j=ws.length+i:=⟨j-ws.length,by omega⟩
     rw [<- Nat.add_assoc,h10.len i (by rw [List.length_append] at hj; omega),Sr]
   ·rcases Nat.lt_or_ge j ws.length with hj1 | hj1
    ·rw [Ss hj1] at ht ⊢
     rw [(h9 (c+j) (by omega)).2,h5.el j hj1 t ht]
    ·obtain ⟨i,rfl⟩:∃ i,j=ws.length+i:=⟨j-ws.length,by omega⟩
     rw [Sr] at ht ⊢;rw [<- Nat.add_assoc,h10.el i (by rw [List.length_append] at hj; omega) t ht]
theorem Jf.nil {g:Nat->V} {lv:Nat->Bool} (hq:ofNat c <= q) (h:G c g lv ln me) (hlv:∀ i,i<c->lv i=true):Jf q v c ln me [] G B :=
 .inr ⟨hq,g,lv,ln,me,h,hlv,λ_ _=>⟨rfl,rfl⟩,⟨λj hj=>absurd hj (Nat.not_lt_zero _),λj hj=>absurd hj (Nat.not_lt_zero _)⟩⟩
theorem Jf.map (h:Jf q v c ln me ws G1 B1) (hg:∀ c' g' lv' ln' me',G1 c' g' lv' ln' me'->G c' g' lv' ln' me') (hb:∀ c' g' lv' ln' me',B1 c' g' lv' ln' me'->B c' g' lv' ln' me'):Jf q v c ln me ws G B:=by
 rcases h with ⟨h1,c',g',lv',ln',me',h2⟩ | ⟨h1,g',lv',ln',me',h2,h3⟩
 ·exact .inl ⟨h1,c',g',lv',ln',me',hb _ _ _ _ _ h2⟩
 ·exact .inr ⟨h1,g',lv',ln',me',hg _ _ _ _ _ h2,h3⟩
end
section
variable {a q:Int} {m N:Nat} {v af:Nat->E6} (hm:m <= 112) (hN:N <= 16) (hq2:q <= 65536) (hlt:∀ i j,i<m->j<m->ilt (Aj (v i)) (Aj (v j))=Nat.blt i j)
abbrev onW (a:Int) (m:Nat) (v:Nat->E6) (d:Nat) (r:List Nat):List (List Nat):=onL m (okP v) (BP a v) (λ_=>true) d r
def AmZ (a q:Int) (m N:Nat) (v af:Nat->E6) (d:Nat):Prop:=∀ (r:List Nat) (k:Nat) (f:Nat->E6) (c:Nat) (g:Nat->V) (lv:Nat->Bool) (ln:Nat->Nat) (me:Nat->Nat->V),r.length=k->(∀ i,i<k->f i=v (wd r i))->(∀ e,e ∈ r->e<m)->k+d=N->c <= 65536->ofNat c <= q->(∀ i,i<c->lv i=true) ->
 Jf q v c ln me (onW a m v d r) (λc' g' lv' ln' me'=>(E37 (d+1) [.ptr 0 0,.ref 1] (E4 a (ofNat N) q k (λi=>eV (f i)) m v af c g lv ln me false)).sem=some (bV true,E4 a (ofNat N) q k (λi=>eV (f i)) m v af c' g' lv' ln' me' false))
  (λc' g' lv' ln' me'=>(E37 (d+1) [.ptr 0 0,.ref 1] (E4 a (ofNat N) q k (λi=>eV (f i)) m v af c g lv ln me false)).sem=some (bV false,E4 a (ofNat N) q k (λi=>eV (f i)) m v af c' g' lv' ln' me' true))
theorem AgH {k:Nat} {f:Nat->E6} {i:Nat} (h:i<k):BV k f 0 i=f i:=by
 unfold BV EY;have e:Aw 0 (ofNat k)=0:=by simp [Aw]
 rw [e];show f ((0+i) % k)=f i;rw [Nat.zero_add,Nat.mod_eq_of_lt h]
def nxF (k:Nat) (f:Nat->E6) (e:E6) (i:Nat):E6:=bif Nat.beq i k then e else BV k f 0 i
theorem AiW (k:Nat) (f:Nat->E6) (e:E6):AE k (λi=>eV (BV k f 0 i)) (Ct 1 [eV e] 0)=λi=>eV (nxF k f e i):=by
 funext i;rw [Ca];unfold nxF;cases Nat.beq i k <;> rfl
theorem Af5 {r:List Nat} {k:Nat} {f:Nat->E6} {b:Nat} (hk:r.length=k) (hk0:0<k) (hf:∀ i,i<k->f i=v (wd r i)) (hr:∀ e,e ∈ r->e<m) (hb:b<m) (hlt:∀ i j,i<m->j<m->ilt (Aj (v i)) (Aj (v j))=Nat.blt i j):okP v r b=Av (ieq (f (k-1)).dst (v b).src) (AI (ilt (Aj (v b)) (Aj (f 0)))):=by
 match r,hk with
 | [],hk=>simp at hk; omega
 | y::t,hk =>have hl:t.length+1=k:=hk;rw [hf (k-1) (by omega),hf 0 hk0,Z0 (by simp),show k-1=t.length by omega,Gz,hlt b _ hb (Gp (by simp) hr)];show (ieq (v y).dst (v b).src && Nat.ble (Ci (y::t)) b)=(ieq (v y).dst (v b).src && !Nat.blt b (Ci (y::t)));congr 1;rw [Bool.eq_iff_iff,Bool.not_eq_true',<- Bool.not_eq_true,Nat.ble_eq];simp only [Nat.blt,Nat.ble_eq];omega
include hm hN hq2 hlt in
theorem Xm {d:Nat} (ih:AmZ a q m N v af d) {r:List Nat} {k:Nat} {f:Nat->E6} (hk:r.length=k) (hf:∀ i,i<k->f i=v (wd r i)) (hr:∀ e,e ∈ r->e<m) (hd:k+(d+1)=N):∀ (dd b:Nat) (c:Nat) (g:Nat->V) (lv:Nat->Bool) (ln:Nat->Nat) (me:Nat->Nat->V) (M:Nat),b+dd=m->c <= 65536->ofNat c <= q->(∀ i,i<c->lv i=true)->dd<M ->
  Jf q v c ln me (((List.range m).drop b).flatMap λe=>bif okP v r e then onW a m v d (e::r) else []) (λc' g' lv' ln' me'=>(Ay (B37 (E37 (d+1))) lp37 M (S37 a (ofNat N) q k (λi=>eV (f i)) m v af (ofNat b) c g lv ln me)).sem=some (Ae4 a (ofNat N) q k (λi=>eV (f i)) m v af c' g' lv' ln' me'))
   (λc' g' lv' ln' me'=>(Ay (B37 (E37 (d+1))) lp37 M (S37 a (ofNat N) q k (λi=>eV (f i)) m v af (ofNat b) c g lv ln me)).sem=some (AaZ a (ofNat N) q k (λi=>eV (f i)) m v af c' g' lv' ln' me'))
 | 0,b,c,g,lv,ln,me,M,hb,hc,hq,hlv,hM=>by
  obtain ⟨M,rfl⟩:∃ o,M=o+1:=⟨M-1,by omega⟩;obtain rfl:b=m:=by omega
  rw [List.drop_eq_nil_of_le (by simp),List.flatMap_nil];exact Jf.nil (g:=g) (lv:=lv) hq (Ae Alr) hlv
 | dd+1,b,c,g,lv,ln,me,M,hb,hc,hq,hlv,hM=>by
  obtain ⟨M,rfl⟩:∃ o,M=o+1:=⟨M-1,by omega⟩;have hbm:b<m:=by omega
  have hm4:m <= 4611686018427387904:=by omega
  have hfk:BZ k=true:=decide_eq_true (by omega);have hak:CJ k 1 40=true:=decide_eq_true (by omega);rw [Q3 hbm,List.flatMap_cons];have next:=λc g lv ln me h1 h2 h3=>Xm ih hk hf hr hd dd (b+1) c g lv ln me M (by omega) h1 h2 h3 (by omega)
  have hch:=ih (b::r) (k+1) (nxF k f (v b)) c g lv ln me (by rw [List.length_cons,hk]) (λi hi=>by
   unfold nxF;by_cases e:i=k
   ·subst e
    rw [Nat.beq_refl,<- hk,Gz];rfl
   ·rw [Hg e,Oo (y:=0) (by omega),<- hf i (by omega)]
    exact AgH (by omega)) (λe he=>by
   rcases List.mem_cons.1 he with rfl | he
   ·exact hbm
   ·exact hr e he) (by omega) hc hq hlv
  rw [<- AiW] at hch;rcases Nat.eq_zero_or_pos k with hk0 | hk0
  ·have hr0:r=[]:=List.length_eq_zero_iff.1 (by omega)
   have h0:ilt 0 (ofNat k)=false:=by rw [hk0]; rfl
   rw [show okP v r b=true by rw [hr0]; rfl];refine Jf.app hch (λc' g' lv' ln' me' hE=>?_) λg' lv' ln' me' hE hlv' hq'=>?_
   ·exact Ae (Aiy hbm hm4 hfk hak hlv h0 hE)
   ·refine (next _ g' lv' ln' me' (by simp only [Int.ofNat_eq_natCast] at *; omega) hq' hlv').map (λc' g2 lv2 ln2 me2 h=>?_) λc' g2 lv2 ln2 me2 h=>?_
    ·rw [Ae (Acc hbm hm4 hfk hak hlv h0 hE)]; exact h
    ·rw [Ae (Acc hbm hm4 hfk hak hlv h0 hE)]; exact h
  ·have ho:=Af5 hk hk0 hf hr hbm hlt
   have hk4:k <= 4611686018427387904:=by omega
   cases h1:okP v r b with
   | false =>
    rw [h1] at ho;have hs:sel (ieq (f (k-1)).dst (v b).src) (ilt (Aj (v b)) (Aj (f 0))) true=true:=by
     cases h2:ieq (f (k-1)).dst (v b).src with
     | false=>rfl
     | true =>
      rw [h2] at ho;cases h3:ilt (Aj (v b)) (Aj (f 0)) with
      | true=>rfl
      | false=>rw [h3] at ho; cases ho
    show Jf q v c ln me ([]++_) _ _;rw [List.nil_append];refine (next c g lv ln me hc hq hlv).map (λc' g2 lv2 ln2 me2 h=>?_) λc' g2 lv2 ln2 me2 h=>?_
    ·rw [Ae (AgP hbm hm4 hk0 hk4 hs)]; exact h
    ·rw [Ae (AgP hbm hm4 hk0 hk4 hs)]; exact h
   | true =>
    rw [h1] at ho;obtain ⟨t1,t2⟩:=Bf ho.symm;have t2:ilt (Aj (v b)) (Aj (f 0))=false:=by
     cases h3:ilt (Aj (v b)) (Aj (f 0)) with
     | false=>rfl
     | true=>rw [h3] at t2; cases t2
    refine Jf.app hch (λc' g' lv' ln' me' hE=>?_) λg' lv' ln' me' hE hlv' hq'=>?_
    ·exact Ae (Alq hbm hm4 hfk hak hlv hk0 hk4 t1 t2 hE)
    ·refine (next _ g' lv' ln' me' (by simp only [Int.ofNat_eq_natCast] at *; omega) hq' hlv').map (λc' g2 lv2 ln2 me2 h=>?_) λc' g2 lv2 ln2 me2 h=>?_
     ·rw [Ae (AgO hbm hm4 hfk hak hlv hk0 hk4 t1 t2 hE)]; exact h
     ·rw [Ae (AgO hbm hm4 hfk hak hlv hk0 hk4 t1 t2 hE)]; exact h
theorem Aa7 {c:Nat} {ln:Nat->Nat} {me:Nat->Nat->V} {k:Nat} {f:Nat->E6} {r:List Nat} {lv:Nat->Bool} (hk:r.length=k) (hf:∀ i,i<k->f i=v (wd r i)) (hlv:∀ i,i<c->lv i=true):(∀ i,i<c+1->CW lv c true i=true)∧(∀ i,i<c->Dj ln c k i=ln i∧DN me c (λi=>eV (BV k f 0 i)) i=me i)∧Holds9 v [r] c (Dj ln c k) (DN me c λi=>eV (BV k f 0 i)):=by
 refine ⟨λi hi=>?_,λi hi=>?_,⟨λj hj=>?_,λj hj t ht=>?_⟩⟩
 ·rw [Td]
  split
  ·rfl
  ·exact hlv i (by omega)
 ·rw [Lz,L1,if_neg (by omega),if_neg (by omega)]
  exact ⟨rfl,rfl⟩
 ·obtain rfl:j=0:=by simp at hj; omega
  rw [Nat.add_zero,Lz,if_pos rfl];exact hk.symm
 ·obtain rfl:j=0:=by simp at hj; omega
  have ht:t<r.length:=ht;rw [Nat.add_zero,L1,if_pos rfl];show eV (BV k f 0 t)=eV (v (wd r t));rw [AgH (by omega),hf t (by omega)]
include hm hN hq2 hlt in
theorem Acv:∀ d,AmZ a q m N v af d
 | d,r,k,f,c,g,lv,ln,me,hk,hf,hr,hd,hc,hq,hlv=>by
  have hfk:BZ k=true:=decide_eq_true (by omega);have hgd:EO a k f af=BP a v r:=by
   rw [Aav];unfold BP;rw [hk];exact Nn λi hi=>(hf i hi)
  cases hg:BP a v r with
  | true =>
   rw [hg] at hgd;cases hfull:ieq (ofNat c) q with
   | true =>
    have h5:=Cu hfull;have hlen:1 <= (onW a m v d r).length:=by
     unfold onW;cases d <;> (unfold onL; rw [hg]; simp)
    exact .inl ⟨by rw [<- h5]; simp only [Int.ofNat_eq_natCast]; omega,c,g,lv,ln,me,Ad7 hfk hlv hgd hfull⟩
   | false =>
    have hne:ofNat c ≠ q:=λh=>by rw [h,eI] at hfull; cases hfull
    have hc1:c+1 <= 65536:=by simp only [Int.ofNat_eq_natCast] at *; omega
    have hq1:ofNat (c+1) <= q:=by simp only [Int.ofNat_eq_natCast] at *; omega
    have hca:CJ c 1 24=true:=decide_eq_true (by omega);obtain ⟨e1,e2,e3⟩:=Aa7 (v:=v) (c:=c) (ln:=ln) (me:=me) (lv:=lv) hk hf hlv
    match d with
    | 0 =>
     have h6:ieq (ofNat k) (ofNat N)=true:=by rw [show k=N by omega]; exact eI _
     have hW:onW a m v 0 r=[r]:=by unfold onW onL; rw [hg]; rfl
     rw [hW];exact .inr ⟨hq1,_,_,_,_,Ad8 hfk hlv h6 hca hgd hfull,e1,e2,e3⟩
    | d+1 =>
     have h6:ieq (ofNat k) (ofNat N)=false:=by
      cases h:ieq (ofNat k) (ofNat N) with
      | false=>rfl
      | true=>have:=Int.ofNat.inj (Cu h); omega
     have hW:onW a m v (d+1) r=[r]++((List.range m).drop 0).flatMap λe=>bif okP v r e then onW a m v d (e::r) else []:=by
      unfold onW;rw [onL,hg,List.filter_eq_self.2 λ_ _=>rfl,List.drop_zero];rfl
     rw [hW];refine Jf.app (G1:=λc' g' lv' ln' me'=>c'=c+1∧g'=AE c g .und∧lv'=CW lv c true∧ln'=Dj ln c k∧me'=DN me c λi=>eV (BV k f 0 i)) (B1:=λ_ _ _ _ _=>False) (.inr ⟨hq1,_,_,_,_,⟨rfl,rfl,rfl,rfl,rfl⟩,e1,e2,e3⟩) (λ_ _ _ _ _ h=>h.elim) λg' lv' ln' me' he hlv' hq'=>?_;obtain ⟨_,rfl,rfl,rfl,rfl⟩:=he;refine (Xm (a:=a) (af:=af) hm hN hq2 hlt (Acv d) hk hf hr hd m 0 (c+1) (AE c g .und) (CW lv c true) (Dj ln c k) (DN me c λi=>eV (BV k f 0 i)) 4611686018427387905 (by omega) hc1 hq1 hlv' (by omega)).map (λc' g2 lv2 ln2 me2 h=>?_) λc' g2 lv2 ln2 me2 h=>?_
     ·exact Aj5 hfk hlv h6 hca hgd hfull h
     ·exact Aj3 hfk hlv h6 hca hgd hfull h
  | false =>
   rw [hg] at hgd
   match d with
   | 0 =>
    have h6:ieq (ofNat k) (ofNat N)=true:=by rw [show k=N by omega]; exact eI _
    have hW:onW a m v 0 r=[]:=by unfold onW onL; rw [hg]; rfl
    rw [hW];exact Jf.nil (g:=g) (lv:=lv) hq (Ad9 hfk hlv h6 hgd) hlv
   | d+1 =>
    have h6:ieq (ofNat k) (ofNat N)=false:=by
     cases h:ieq (ofNat k) (ofNat N) with
     | false=>rfl
     | true=>have:=Int.ofNat.inj (Cu h); omega
    have hW:onW a m v (d+1) r=((List.range m).drop 0).flatMap λe=>bif okP v r e then onW a m v d (e::r) else []:=by
     unfold onW;rw [onL,hg,List.filter_eq_self.2 λ_ _=>rfl,List.drop_zero];rfl
    rw [hW];refine (Xm (a:=a) (af:=af) hm hN hq2 hlt (Acv d) hk hf hr hd m 0 c g lv ln me 4611686018427387905 (by omega) hc hq hlv (by omega)).map (λc' g2 lv2 ln2 me2 h=>?_) λc' g2 lv2 ln2 me2 h=>?_
    ·exact Aj6 hfk hlv h6 hgd h
    ·exact Aj4 hfk hlv h6 hgd h
end
end Go.Proofs.YtkbgidbledjejaaGreat.En
namespace Go.Proofs.YtkbgidbledjejaaGreat.En
open Go.Sy Go Go.Proofs.YtkbgidbledjejaaGreat.Ed
open Int (ofNat)
set_option maxRecDepth 100000
theorem N2 (c:FuncId->List V->St->T (V×Res)) (G:Nat->V) (ls:List (Nat×Lp×List (Nat×(Nat->V)))):Ra ⟨c,C3 ls,G⟩:=λid f st r hr=>by
 have hr:(C3 ls id f st).sem=some r:=hr;unfold C3 at hr;split at hr
 ·rename_i l z _
  cases hi:(Ay f l l.fuel (K5 (EC l.ks l.n st) z)).sem with
  | none=>rw [hi] at hr; cases hr
  | some r' =>rw [hi] at hr;cases hr;exact .weak ((Fv _ _ _).trans (ME _ _)) (GE hi)
 ·cases hr
theorem Pt {P:Program} {G:Nat->V} {f:FuncId} {F0 F:List V->A3} (hp:Ar P G f F0) (h:∀ vs v h',(F vs).sem=some (v,h')->∃ vs' h'',B2 vs vs'∧(F0 vs').sem=some (v,h'')∧As h'' h'):Ar P G f F:=by
 refine ⟨hp.1,λvs cs S w v h' hS hE hv he=>?_⟩;obtain ⟨vs',h'',h1,h4,h5⟩:=h vs v h' he;obtain ⟨hr,hc⟩:=hp.2 vs' cs S w v h'' hS hE (h1 S w cs hv) h4;refine ⟨h5.rows hr,hc.mono ?_⟩
 rintro e w' ⟨u,κ',S',rfl,g1,g2,g3⟩
 obtain ⟨p1,p2⟩:=h5.good g1;refine ⟨u,κ',S',rfl,p1,g2,Ext.ofNil g3.os g3.tape g3.output g3.size g3.keep (λi b hb=>?_) g3.sub g3.sup (h5.rows hr)⟩;rw [p2] at hb;exact g3.own i b hb
theorem AlK:EG Tryz.prog Gl 19 E19:=by
 have hx:=AZ tb19_ok [] (G:=Gl);exact Ii (P:=Tryz.prog) A0 (Γ:=cxA Gl tb19 []) mixed hx.1 hx.2 Tryz.func19 (by kernel_rfl) (by kernel_rfl)
theorem Ah3:AY Tryz.prog cx9.base:=Io (.cons AlK .nil) (Ek rfl AhY)
theorem AjJ:AY Tryz.prog AdO.base:=Io (.cons AlI (.cons p43 .nil)) (Ek rfl tb41_ok)
theorem AnH:EG Tryz.prog Gl 41 E41 :=
 Kh (P:=Tryz.prog) A0 (Γ:=AdO) (R:=R41) mixed AjJ (N2 _ _ _) (AbX A0 mixed (Γ:=cx9) (Γ':=AdO) (R:=rN) rfl Ah3 (N2 _ _ _) (Po .nil) .nil) Tryz.func41 (by kernel_rfl) (by kernel_rfl)
theorem p9b:Ar Tryz.prog Gl 9 F9 :=
 (Kh (P:=Tryz.prog) A0 (Γ:=cx9) (R:=R9) mixed Ah3 (N2 _ _ _) (Po (.cons AnH .nil)) Tryz.func9 (by kernel_rfl) (by kernel_rfl)).pure
def PX (rows:List (List E6)):Blk:=.jag ⟨22,1,rows.length,λ_=>.und,0,46,6,λ_=>true,λi=>(rows.getD i []).length,λi t=>eV ((rows.getD i []).getD t Ba),none⟩
abbrev Eo (k:Nat) (w:Nat->E6):Nat:=(F5 (hsC w k) 112).length
abbrev BC (k:Nat) (w:Nat->E6):Nat->E6:=KC (gtC w k) (F5 (hsC w k) 112)
def Ds (A:Int) (k:Nat) (w:Nat->E6) (n:Int):List (List Nat):=(Ru n (Eo k w) (BC k w) (toN n)).filter (Me A (BC k w))
def DO (v:Nat->E6) (D:List (List Nat)):List (List E6):=D.map λd=>(List.range d.length).map (wE v d)
noncomputable def EP (A:Int) (k:Nat) (w:Nat->E6) (n q:Int):Int :=
 sel (ieq (Dl A k w n) 0) (sel (ilt q 0) 1 (sel (ilt 65536 q) 1 (sel (Gv k w n) 3 (sel (ilt q (ofNat (Ds A k w n).length)) 3 0)))) (Dl A k w n)
noncomputable def CP (A:Int) (k:Nat) (w:Nat->E6) (n q:Int):List (List E6):=sel (ieq (EP A k w n q) 0) (DO (BC k w) (Ds A k w n)) []
noncomputable def Ug:List V->A3
 | [.val (.int .i64 A),u,.val (.int .i64 n),.val (.int .i64 q)]=>apL u λk w=>.leaf (.tup [.jref 0,iV (EP A k w n q)],[PX (CP A k w n q)])
 | _=>.fail
theorem Du {rows:List (List E6)} (h:rows=[]):As [.jag ⟨22,1,0,λ_=>.und,0,46,6,λ_=>true,λ_=>0,λ_ _=>.und,none⟩] [PX rows]:=by
 subst h;exact .consB (.jag (j:=⟨22,1,0,λ_=>.und,0,46,6,λ_=>true,λ_=>0,λ_ _=>.und,none⟩) (λ_ h=>absurd h (Nat.not_lt_zero _)) (λ_ h=>absurd h (Nat.not_lt_zero _)) (λ_ h=>absurd h (Nat.not_lt_zero _)) λ_ h=>absurd h (Nat.not_lt_zero _)) (.refl _)
theorem LD (v:Nat->E6) (D:List (List Nat)):(DO v D).length=D.length:=by simp [DO]
theorem JQ (v:Nat->E6) (D:List (List Nat)) (j:Nat):(DO v D).getD j []=(List.range (D.getD j []).length).map (wE v (D.getD j [])):=by
 unfold DO;simp only [List.getD_eq_getElem?_getD,List.getElem?_map];cases D[j]? with
 | none=>rfl
 | some d=>rfl
theorem WR (v:Nat->E6) (d:List Nat) {t:Nat} (h:t<d.length):((List.range d.length).map (wE v d)).getD t Ba=v (wd d t):=by
 rw [List.getD_eq_getElem?_getD,List.getElem?_map,List.getElem?_range h];rfl
theorem Vx {v:Nat->E6} {D:List (List Nat)} {g:Nat->V} {lv:Nat->Bool} {ln:Nat->Nat} {me:Nat->Nat->V} (hl:∀ i,i<D.length->lv i=true) (hH:Holds9 v D 0 ln me):As [.jag ⟨22,1,D.length,g,0,46,6,lv,ln,me,none⟩] [PX (DO v D)]:=by
 unfold PX;rw [LD];refine .consB (.jag (j:=⟨22,1,D.length,g,0,46,6,lv,ln,me,none⟩) (λ_ _=>.inr rfl) (λk hk=>(hl k hk).symm) (λk hk=>?_) λk hk t ht=>?_) (.refl _)
 ·have:=hH.len k hk
  rw [Nat.zero_add] at this;show _=ln k;rw [this,JQ];simp
 ·have h1:=hH.len k hk
  have h2:=hH.el k hk t;rw [Nat.zero_add] at h1 h2;have ht:t<ln k:=ht;rw [h1] at ht;show _=me k t;rw [h2 ht,JQ,WR _ _ ht];rfl
theorem KJ {A n:Int} {k:Nat} {w:Nat->E6} (h:ieq (Dl A k w n) 0=true):Bv k w=true∧ilt n 2=false∧ilt 16 n=false∧k <= 128:=by
 unfold Dl at h;cases h1:bor (ieq A 1) (ieq A 2) with
 | false=>rw [h1] at h; cases h
 | true =>
  rw [h1] at h;cases h2:ilt n 2 with
  | true=>rw [h2] at h; cases h
  | false =>
   rw [h2] at h;cases h3:ilt 16 n with
   | true=>rw [h3] at h; cases h
   | false =>
    rw [h3] at h;cases h4:ilt 128 (ofNat k) with
    | true=>rw [h4] at h; cases h
    | false =>
     rw [h4] at h;have h4:¬ ((128:Int)<(k:Int)):=of_decide_eq_false h4;refine ⟨?_,rfl,rfl,by omega⟩;have h:ieq (refL A k w) 0=true:=h;unfold refL at h;cases h5:Az (Ir A w) k 0 with
     | some t =>rw [h5] at h;have h:ieq (WT w (tO (Ir A w) k)) 0=true:=h;unfold WT at h;cases h6:ieq (AA (w (tO (Ir A w) k))) 0 <;> rw [h6] at h <;> cases h
     | none =>
      refine Bh.2 λi hi=>?_;have:=CH.1 h5 i (Nat.zero_le _) (by omega);unfold Ir at this;cases h7:ieq (AA (w i)) 0 with
      | true=>exact Cu h7
      | false=>rw [h7] at this; cases this
theorem p9:Ar Tryz.prog Gl 9 Ug:=by
 refine Pt p9b λvs u h' h=>?_;unfold Ug at h;split at h
 rotate_left
 ·cases h
 rename_i A u0 n q;obtain ⟨k,w,ha,h⟩:=Bb h;have:=Aa h;simp only [Prod.mk.injEq] at this;obtain ⟨rfl,rfl⟩:=this;have hv:B2 [iV A,u0,iV n,iV q] [iV A,Ao k w,iV n,iV q]:=λS W cs hq=>by
  obtain ⟨c,l,rfl,q1,c2,l2,rfl,q2,q3⟩:=hq;exact ⟨c,_,rfl,q1,c2,_,rfl,ha S W c2 q2,q3⟩
 cases h1:ieq (Dl A k w n) 0 with
 | false =>
  have he:EP A k w n q=Dl A k w n:=by unfold EP; rw [h1]; rfl
  have hr:CP A k w n q=[]:=by unfold CP; rw [he,h1]; rfl
  rw [he];exact ⟨_,_,hv,DW.ok (.k (eL k) <| .k (eN h1) <| .l) (by kernel_rfl),Du hr⟩
 | true =>
  cases h2:ilt q 0 with
  | true =>
   have he:EP A k w n q=1:=by unfold EP; rw [h1,h2]; rfl
   have hr:CP A k w n q=[]:=by unfold CP; rw [he]; rfl
   rw [he];exact ⟨_,_,hv,DW.ok (.k (eL k) <| .k (eN h1) <| .r 3 h2 <| .k eT <| .l) (by kernel_rfl),Du hr⟩
  | false =>
   cases h3:ilt 65536 q with
   | true =>
    have he:EP A k w n q=1:=by unfold EP; rw [h1,h2,h3]; rfl
    have hr:CP A k w n q=[]:=by unfold CP; rw [he]; rfl
    rw [he];exact ⟨_,_,hv,DW.ok (.k (eL k) <| .k (eN h1) <| .r 3 h2 <| .k h3 <| .l) (by kernel_rfl),Du hr⟩
   | false =>
    obtain ⟨g1,g2,g3,g4⟩:=KJ h1;have h2':¬ q<0:=of_decide_eq_false h2;have h3':¬ 65536<q:=of_decide_eq_false h3;have g2':¬ n<2:=of_decide_eq_false g2;have g3':¬ 16<n:=of_decide_eq_false g3;have hG:Lm k w n=true:=by
     unfold Lm;rw [g1,show ile 2 n=true from decide_eq_true (by omega),show ile n 16=true from decide_eq_true (by omega),decide_eq_true g4];rfl
    cases h4:Gv k w n with
    | true =>
     have he:EP A k w n q=3:=by unfold EP; rw [h1,h2,h3,h4]; rfl
     have hr:CP A k w n q=[]:=by unfold CP; rw [he]; rfl
     rw [he];exact ⟨_,_,hv,DW.ok (.k (eL k) <| .k (eN h1) <| .r 3 h2 <| .k h3 <| .k (eL k) <| .k hG <| .k h4 <| .l) (by kernel_rfl),Du hr⟩
    | false =>
     have hc:CJ 0 k 40=true:=decide_eq_true (by omega);have hB:=Wj (a:=A) (n:=n) (k:=k) (e:=w) (by omega) λi hi=>by
      rcases BH (w i) with ⟨c,hc,_,hn,_⟩ | ⟨hb,_⟩
      ·rw [hn]; exact TY hc
      ·rw [Bh.1 g1 i hi] at hb; cases hb
     obtain ⟨N,rfl⟩:∃ N:Nat,n=ofNat N:=⟨n.toNat,(Int.toNat_of_nonneg (by omega)).symm⟩;have hN:0<N∧N <= 16:=by simp only [Int.ofNat_eq_natCast] at *; omega
     have hm:Eo k w <= 112:=SQ _ _;have hR:=RL (a:=A) (n:=ofNat N) (v:=BC k w) (x:=λ_=>0) rfl hN.1 hN.2 hm;have hF:=QM (n:=ofNat N) (v:=BC k w) hm hN.2;have hlen:(Ds A k w (ofNat N)).length<10000000000000000000000000000000000000000000000000000:=by
      have h5:=List.length_filter_le (Me A (BC k w)) (Ru (ofNat N) (Eo k w) (BC k w) N);have h6:F43=10000000000000000000000000000000000000000000000000000:=rfl;rw [<- h6];show ((Ru (ofNat N) (Eo k w) (BC k w) N).filter (Me A (BC k w))).length<F43;omega
     have hl:=Ajg (A:=A) (n:=ofNat N) (q:=q) (k:=k) (w:=w) hN.2 hm (hs:=hsC w k) (gt:=λy=>eV (gtC w k y)) hR (by omega) (by omega) hlen;have heq:EP A k w (ofNat N) q=sel (ilt q (ofNat (Ds A k w (ofNat N)).length)) 3 0:=by unfold EP; rw [h1,h2,h3,h4]; rfl
     rcases hl with ⟨hq,h5⟩ | ⟨hq,h5⟩
     ·have hq:q<ofNat (Ds A k w (ofNat N)).length:=hq
      have he:EP A k w (ofNat N) q=3:=by rw [heq,show ilt q _=true from decide_eq_true hq]; rfl
      have hr0:CP A k w (ofNat N) q=[]:=by unfold CP; rw [he]; rfl
      rw [he];rcases h5 with ⟨L',x',hr⟩ | ⟨L',x',c',g',lv',ln',me',hr⟩
      ·exact ⟨_,_,hv,DW.ok (.k (eL k) <| .k (eN h1) <| .r 3 h2 <| .k h3 <| .k (eL k) <| .k hG <| .k h4 <| .k (eL k) <| .k hc <| .k (eL k) <| .r 3 (eN h1) <| .k (eL k) <| .k hG <| .k (eN h1) <| .k h4 <| .a (CS hB) <| .a hr <| .l) (by kernel_rfl),Du hr0⟩
      ·exact ⟨_,_,hv,DW.ok (.k (eL k) <| .k (eN h1) <| .r 3 h2 <| .k h3 <| .k (eL k) <| .k hG <| .k h4 <| .k (eL k) <| .k hc <| .k (eL k) <| .r 3 (eN h1) <| .k (eL k) <| .k hG <| .k (eN h1) <| .k h4 <| .a (CS hB) <| .a hr <| .l) (by kernel_rfl),Du hr0⟩
     ·have hq:ofNat (Ds A k w (ofNat N)).length <= q:=hq
      have he:EP A k w (ofNat N) q=0:=by rw [heq,show ilt q _=false from decide_eq_false (by simp only [Int.ofNat_eq_natCast] at *; omega)]; rfl
      have hr0:CP A k w (ofNat N) q=DO (BC k w) (Ds A k w (ofNat N)):=by unfold CP; rw [he]; rfl
      rw [he];rcases h5 with ⟨hd,x',hr⟩ | ⟨L',x',g',lv',ln',me',hr,hlv,hH⟩
      ·exact ⟨_,_,hv,DW.ok (.k (eL k) <| .k (eN h1) <| .r 3 h2 <| .k h3 <| .k (eL k) <| .k hG <| .k h4 <| .k (eL k) <| .k hc <| .k (eL k) <| .r 3 (eN h1) <| .k (eL k) <| .k hG <| .k (eN h1) <| .k h4 <| .a (CS hB) <| .a hr <| .l) (by kernel_rfl),Du (by rw [hr0]; show DO _ (Ds A k w (ofNat N))=[]; rw [show Ds A k w (ofNat N)=[] from hd]; rfl)⟩
      ·rw [hr0]
       exact ⟨_,_,hv,DW.ok (.k (eL k) <| .k (eN h1) <| .r 3 h2 <| .k h3 <| .k (eL k) <| .k hG <| .k h4 <| .k (eL k) <| .k hc <| .k (eL k) <| .r 3 (eN h1) <| .k (eL k) <| .k hG <| .k (eN h1) <| .k h4 <| .a (CS hB) <| .a hr <| .l) (by kernel_rfl),Vx (g:=g') hlv hH⟩
end Go.Proofs.YtkbgidbledjejaaGreat.En
namespace Go.Proofs.YtkbgidbledjejaaGreat.En
open Go.Sy Go Go.Proofs.YtkbgidbledjejaaGreat.Ed
open Int (ofNat)
set_option maxRecDepth 100000
theorem fill_ok {P:Program} {G:Nat->V} {f:FuncId} {E:List V->List Blk->A3} (h:EG P G f E) (z:List (Nat×(Nat->V))):EG P G f λvs hp=>E vs (K5 ⟨vs,hp⟩ z).h :=
 ⟨h.1,λvs cs κ S hp w v h' h1 h2 h3 h4=>by
  obtain ⟨κ2,S2,r1,r2⟩:=ME (Γ:=⟨λ_ _ _=>.fail,G⟩) z ⟨vs,hp⟩ [] κ S { tmps:=cs.toArray,defers:=[] } w ⟨h1,h2,by simpa using h3,rfl⟩;have ht:(K5 ⟨vs,hp⟩ z).t=vs:=fill_t z _;have hv:VRs S2 w vs κ2 cs:=by
   have:=r1.tmps;rw [ht] at this;simpa using this
  refine (h.2 vs cs κ2 S2 _ w v h' r1.good r1.env hv h4).mono ?_
  rintro e w' ⟨c,κ',S',rfl,g1,g2,g3⟩
  exact ⟨c,κ',S',rfl,g1,g2,r2.trans g3⟩⟩
where
 fill_t:∀ (z:List (Nat×(Nat->V))) (st:St),(K5 st z).t=st.t
  | [],_=>rfl
  | (id,g)::l,st=>by
    unfold K5;rw [fill_t l];split <;> rfl
def z37:List (Nat×(Nat->V)):=[(1,λ_=>eV Ba),(3,λ_=>eV Ba)]
noncomputable def Ae1 (vs:List V) (h:List Blk):A3:=match h with
 | .cells [_,_,.val (.int .i64 n),_,_,_,_]::_=>E37 (toN n+1) vs (K5 ⟨vs,h⟩ z37).h
 | _=>.fail
theorem AnJ:EG Tryz.prog Gl 37 Ae1:=EG.dep (AiO 0).1 λvs hp r hr=>by
 unfold Ae1 at hr;split at hr
 ·exact ⟨_,fill_ok (AiO _) z37,hr⟩
 ·cases hr
noncomputable def tb10:AD:=(34,Tm)::(35,NA)::(36,Ak8)::[]
theorem tb10_ok:Al Tryz.prog Gl tb10:=.cons AnL <| .cons p35 <| .cons AnK <| .nil
noncomputable abbrev cx10:Cx:=⟨My [(37,QI Ae1)] (A9 tb10),C3 [],Gl⟩
noncomputable def F10 (vs:List V):A3:=AM (Au tab cx10 Tryz.f10 vs [])
theorem AnZ:Ar Tryz.prog Gl 10 F10 :=
 (Ii (P:=Tryz.prog) A0 (Γ:=cx10) mixed (Io (.cons AnJ.ask .nil) (Ek rfl tb10_ok)) (M8 _ _ _) Tryz.func10 (by kernel_rfl) (by kernel_rfl)).pure
def K6 (A:Int) (k:Nat) (w:Nat->E6) (n:Int):List (List Nat):=onW A (DR k w).length (mkE (DR k w)) (toN n) []
noncomputable def EW (A:Int) (k:Nat) (w:Nat->E6) (n q:Int):Int :=
 sel (ieq (Dl A k w n) 0) (sel (ilt q 0) 1 (sel (ilt 65536 q) 1 (sel (Gv k w n) 3 (sel (ilt q (ofNat (K6 A k w n).length)) 3 0)))) (Dl A k w n)
noncomputable def Gd (A:Int) (k:Nat) (w:Nat->E6) (n q:Int):List (List E6):=sel (ieq (EW A k w n q) 0) (DO (mkE (DR k w)) (K6 A k w n)) []
noncomputable def Zc:List V->A3
 | [.val (.int .i64 A),u,.val (.int .i64 n),.val (.int .i64 q)]=>apL u λk w=>.leaf (.tup [.jref 0,iV (EW A k w n q)],[PX (Gd A k w n q)])
 | _=>.fail
theorem AcE:(List.range 112).all (λc=>ieq (Aj (B6 c)) (ofNat c))=true:=by kernel_rfl
theorem O7 {th:Nat->Bool} {o c:Bool}:∀ b e,e ∈ Cc th o c b->e<b
 | 0,e,h=>by cases h
 | b+1,e,h=>by
  unfold Cc at h;cases hq:GX th o c b with
  | true =>
   rw [hq] at h;rcases List.mem_append.1 h with h | h
   ·have:=O7 b e h; omega
   ·simp at h; omega
  | false=>rw [hq] at h; have:=O7 b e h; omega
theorem Kd {th:Nat->Bool} {o c:Bool}:∀ b i j,i<j->j<(Cc th o c b).length->(Cc th o c b).getD i 0<(Cc th o c b).getD j 0
 | 0,i,j,h,hj=>by cases hj
 | b+1,i,j,h,hj=>by
  unfold Cc at hj ⊢;cases hq:GX th o c b with
  | false=>rw [hq] at hj; exact Kd b i j h hj
  | true =>
   rw [hq] at hj;have hj:j<(Cc th o c b++[b]).length:=hj;rw [List.length_append] at hj;show (Cc th o c b++[b]).getD i 0<(Cc th o c b++[b]).getD j 0;have hi:i<(Cc th o c b).length:=by simp at hj; omega
   rw [List.getD_eq_getElem?_getD,List.getD_eq_getElem?_getD,List.getElem?_append_left hi];rcases Nat.lt_or_ge j (Cc th o c b).length with hl | hl
   ·rw [List.getElem?_append_left hl]
    have:=Kd b i j h hl;rw [List.getD_eq_getElem?_getD,List.getD_eq_getElem?_getD] at this;exact this
   ·obtain rfl:j=(Cc th o c b).length:=by simp at hj; omega
    rw [List.getElem?_append_right (Nat.le_refl _),Nat.sub_self];have:=O7 b ((Cc th o c b)[i]'hi) (List.getElem_mem hi);rw [List.getElem?_eq_getElem hi];exact this
theorem Nc {c:Nat} (h:c<112):Aj (B6 c)=ofNat c:=by
 have:=List.all_eq_true.1 AcE c (List.mem_range.2 h);exact Cu this
theorem YF {th:Nat->Bool} {o c:Bool} {i:Nat} (hi:i<(Cc th o c 112).length):(Cc th o c 112).getD i 0<112:=by
 rw [List.getD_eq_getElem?_getD,List.getElem?_eq_getElem hi];exact O7 112 _ (List.getElem_mem hi)
theorem AlU (k:Nat) (w:Nat->E6) (i j:Nat) (hi:i<(DR k w).length) (hj:j<(DR k w).length):ilt (Aj (mkE (DR k w) i)) (Aj (mkE (DR k w) j))=Nat.blt i j:=by
 unfold mkE;have h1:=YF hi;have h2:=YF hj;rw [show Aj (B6 ((DR k w).getD i 0))=ofNat ((DR k w).getD i 0) from Nc h1,show Aj (B6 ((DR k w).getD j 0))=ofNat ((DR k w).getD j 0) from Nc h2];rw [Bool.eq_iff_iff];simp only [ilt,decide_eq_true_eq,Int.ofNat_eq_natCast,Nat.blt,Nat.ble_eq];rcases Nat.lt_trichotomy i j with h | h | h
 ·have:=Kd 112 i j h hj
  have:(DR k w).getD i 0<(DR k w).getD j 0:=this;omega
 ·subst h; omega
 ·have:=Kd 112 j i h hi
  have:(DR k w).getD j 0<(DR k w).getD i 0:=this;omega
theorem p10:Ar Tryz.prog Gl 10 Zc:=by
 refine Pt AnZ λvs u h' h=>?_;unfold Zc at h;split at h
 rotate_left
 ·cases h
 rename_i A u0 n q;obtain ⟨k,w,ha,h⟩:=Bb h;have:=Aa h;simp only [Prod.mk.injEq] at this;obtain ⟨rfl,rfl⟩:=this;have hv:B2 [iV A,u0,iV n,iV q] [iV A,Ao k w,iV n,iV q]:=λS W cs hq=>by
  obtain ⟨c,l,rfl,q1,c2,l2,rfl,q2,q3⟩:=hq;exact ⟨c,_,rfl,q1,c2,_,rfl,ha S W c2 q2,q3⟩
 cases h1:ieq (Dl A k w n) 0 with
 | false =>
  have he:EW A k w n q=Dl A k w n:=by unfold EW; rw [h1]; rfl
  have hr:Gd A k w n q=[]:=by unfold Gd; rw [he,h1]; rfl
  rw [he];exact ⟨_,_,hv,DW.ok (.k (eL k) <| .k (eN h1) <| .l) (by kernel_rfl),Du hr⟩
 | true =>
  cases h2:ilt q 0 with
  | true =>
   have he:EW A k w n q=1:=by unfold EW; rw [h1,h2]; rfl
   have hr:Gd A k w n q=[]:=by unfold Gd; rw [he]; rfl
   rw [he];exact ⟨_,_,hv,DW.ok (.k (eL k) <| .k (eN h1) <| .r 3 h2 <| .k eT <| .l) (by kernel_rfl),Du hr⟩
  | false =>
   cases h3:ilt 65536 q with
   | true =>
    have he:EW A k w n q=1:=by unfold EW; rw [h1,h2,h3]; rfl
    have hr:Gd A k w n q=[]:=by unfold Gd; rw [he]; rfl
    rw [he];exact ⟨_,_,hv,DW.ok (.k (eL k) <| .k (eN h1) <| .r 3 h2 <| .k h3 <| .l) (by kernel_rfl),Du hr⟩
   | false =>
    obtain ⟨g1,g2,g3,g4⟩:=KJ h1;have h2':¬ q<0:=of_decide_eq_false h2;have h3':¬ 65536<q:=of_decide_eq_false h3;have g2':¬ n<2:=of_decide_eq_false g2;have g3':¬ 16<n:=of_decide_eq_false g3;have hG:Lm k w n=true:=by
     unfold Lm;rw [g1,show ile 2 n=true from decide_eq_true (by omega),show ile n 16=true from decide_eq_true (by omega),decide_eq_true g4];rfl
    cases h4:Gv k w n with
    | true =>
     have he:EW A k w n q=3:=by unfold EW; rw [h1,h2,h3,h4]; rfl
     have hr:Gd A k w n q=[]:=by unfold Gd; rw [he]; rfl
     rw [he];exact ⟨_,_,hv,DW.ok (.k (eL k) <| .k (eN h1) <| .r 3 h2 <| .k h3 <| .k (eL k) <| .k hG <| .k h4 <| .l) (by kernel_rfl),Du hr⟩
    | false =>
     obtain ⟨N,rfl⟩:∃ N:Nat,n=ofNat N:=⟨n.toNat,(Int.toNat_of_nonneg (by omega)).symm⟩;have hN:0<N∧N <= 16:=by simp only [Int.ofNat_eq_natCast] at *; omega
     have hm:(DR k w).length <= 112:=TF _ _ _ _;have hon:=Acv (a:=A) (af:=λ_=>Ba) hm hN.2 (q:=q) (by omega) (AlU k w) N [] 0 (λ_=>Ba) 0 Ac (λ_=>true) (λ_=>0) (λ_ _=>.und) rfl (λ_ h=>absurd h (Nat.not_lt_zero _)) (λ_ h=>by cases h) (by omega) (by omega) (by show (0:Int) <= q; omega) (λ_ _=>rfl);have heq:EW A k w (ofNat N) q=sel (ilt q (ofNat (K6 A k w (ofNat N)).length)) 3 0:=by unfold EW; rw [h1,h2,h3,h4]; rfl
     rcases hon with ⟨hq,c2,g2,lv2,ln2,me2,hE⟩ | ⟨hq,g2,lv2,ln2,me2,hE,hlv,_,hH⟩
     ·rw [Nat.zero_add] at hq
      have hq:q<ofNat (K6 A k w (ofNat N)).length:=hq;have he:EW A k w (ofNat N) q=3:=by rw [heq,show ilt q _=true from decide_eq_true hq]; rfl
      have hr0:Gd A k w (ofNat N) q=[]:=by unfold Gd; rw [he]; rfl
      rw [he];have hE:(Ae1 [.ptr 0 0,.ref 1] (E4 A (ofNat N) q 0 Ac (DR k w).length (mkE (DR k w)) (λ_=>Ba) 0 Ac (λ_=>true) (λ_=>0) (λ_ _=>.und) false |>.set 3 (.row 46 6 0 λ_=>.und))).sem=_:=hE
      exact ⟨_,_,hv,DW.ok (.k (eL k) <| .k (eN h1) <| .r 3 h2 <| .k h3 <| .k (eL k) <| .k hG <| .k h4 <| .k (eL k) <| .k g1 <| .k (decide_eq_true g4) <| .a (CS hE) <| .k eT <| .l) (by kernel_rfl),Du hr0⟩
     ·rw [Nat.zero_add] at hq hE hlv
      have hq:ofNat (K6 A k w (ofNat N)).length <= q:=hq;have he:EW A k w (ofNat N) q=0:=by rw [heq,show ilt q _=false from decide_eq_false (by simp only [Int.ofNat_eq_natCast] at *; omega)]; rfl
      have hr0:Gd A k w (ofNat N) q=DO (mkE (DR k w)) (K6 A k w (ofNat N)):=by unfold Gd; rw [he]; rfl
      rw [he,hr0];have hE:(Ae1 [.ptr 0 0,.ref 1] (E4 A (ofNat N) q 0 Ac (DR k w).length (mkE (DR k w)) (λ_=>Ba) 0 Ac (λ_=>true) (λ_=>0) (λ_ _=>.und) false |>.set 3 (.row 46 6 0 λ_=>.und))).sem=_:=hE
      exact ⟨_,_,hv,DW.ok (.k (eL k) <| .k (eN h1) <| .r 3 h2 <| .k h3 <| .k (eL k) <| .k hG <| .k h4 <| .k (eL k) <| .k g1 <| .k (decide_eq_true g4) <| .a (CS hE) <| .k eF <| .l) (by kernel_rfl),Vx (g:=g2) hlv hH⟩
end Go.Proofs.YtkbgidbledjejaaGreat.En
