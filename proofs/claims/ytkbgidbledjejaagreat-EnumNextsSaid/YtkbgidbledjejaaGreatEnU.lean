/-
  Layer 6: all that the document's search finds. Conditions: a rising vocabulary of no more than 112 edges, lists of no more than 16.
-/
import Derived.Test.YtkbgidbledjejaaGreatEnO
import Derived.Test.YtkbgidbledjejaaGreatEnK
namespace Go.Proofs.YtkbgidbledjejaaGreat.En
open Go.Sy Go Go.Proofs.YtkbgidbledjejaaGreat.Ed
theorem good37_eq {a:Int} {k:Nat} {f af:Nat->E6}:good37 a k f af=isB a k f:=by
 rw [Bool.eq_iff_iff];constructor
 ·intro h
  obtain ⟨_,g2,g3,_⟩:=good_ok h;unfold DJ at g3;cases hm:By k f with
  | false=>rw [hm] at g3; cases g3
  | true =>rw [hm] at g3;have g3:=(CM.1 g3).2;unfold isB;rw [g2,hm];exact CM.2 ⟨rfl,λi hi=>(OS hm (λ_ _=>rfl) i hi).trans (g3 i hi).symm⟩
 ·intro h
  unfold isB at h;cases h1:ieq (Ft a k f).1 0 with
  | false=>rw [h1] at h; cases h
  | true =>
   cases hm:By k f with
   | false=>rw [h1,hm] at h; cases h
   | true =>rw [h1,hm] at h;have h2:=(CM.1 h).2;have hc:=Qt (a:=a) (n:=k) (f:=f) h1;have hlo:=hc.lo;unfold good37 DJ;rw [h1,hm,show ile 2 (Int.ofNat k)=true from decide_eq_true (by show (2:Int) <= (k:Int); omega),show EB k f k (λi=>BR k f (Int.ofNat (Ed.refL k λk=>Al (f k))) i)=true from CM.2 ⟨rfl,λi hi=>(h2 i hi).symm.trans (OS hm (λ_ _=>rfl) i hi)⟩];show ilt 0 (EG k f 0 af)=true;unfold EG;rw [hm,show By 0 af=true from rfl,show BH k f=Al (f 0)::(BH k f).drop 1 from (El k 0 f (by omega))];rfl
abbrev Alg:=Nat->(Nat->V)->(Nat->Bool)->(Nat->Nat)->(Nat->Nat->V)->Prop
section
variable {q:Int} {v:Nat->E6} {c:Nat} {ln:Nat->Nat} {me:Nat->Nat->V} {ws ws2:List (List Nat)} {G1 B1 G B:Alg}
theorem SN {l l2:List (List Nat)} {j:Nat} (h:j<l.length):(l++l2).getD j []=l.getD j []:=by rw [List.getD_eq_getElem?_getD,List.getD_eq_getElem?_getD,List.getElem?_append_left h]
theorem SL {l l2:List (List Nat)} {j:Nat}:(l++l2).getD (l.length+j) []=l2.getD j []:=by rw [List.getD_eq_getElem?_getD,List.getD_eq_getElem?_getD,List.getElem?_append_right (Nat.le_add_right _ _),Nat.add_sub_cancel_left]
end
section
variable {a q:Int} {m N:Nat} {v af:Nat->E6} (hm:m <= 112) (hN:N <= 16) (hq2:q <= 65536) (hlt:∀ i j,i<m->j<m->ilt (Al (v i)) (Al (v j))=Nat.blt i j)
abbrev onW (a:Int) (m:Nat) (v:Nat->E6) (d:Nat) (r:List Nat):List (List Nat):=onL m (okP v) (BW a v) (λ_=>true) d r
theorem AhC {k:Nat} {f:Nat->E6} {i:Nat} (h:i<k):BR k f 0 i=f i:=by
 unfold BR EY;have e:Aw 0 (Int.ofNat k)=0:=by simp [Aw]
 rw [e];show f ((0+i) % k)=f i;rw [Nat.zero_add,Nat.mod_eq_of_lt h]
def nxF (k:Nat) (f:Nat->E6) (e:E6) (i:Nat):E6:=bif Nat.beq i k then e else BR k f 0 i
theorem Akb (k:Nat) (f:Nat->E6) (e:E6):AA k (λi=>eV (BR k f 0 i)) (Cy 1 [eV e] 0)=λi=>eV (nxF k f e i):=by
 funext i;rw [BS];unfold nxF;cases Nat.beq i k <;> rfl
theorem Ag1 {r:List Nat} {k:Nat} {f:Nat->E6} {b:Nat} (hk:r.length=k) (hk0:0<k) (hf:∀ i,i<k->f i=v (wd r i)) (hr:∀ e,e ∈ r->e<m) (hb:b<m) (hlt:∀ i j,i<m->j<m->ilt (Al (v i)) (Al (v j))=Nat.blt i j):okP v r b=Av (ieq (f (k-1)).dst (v b).src) (AL (ilt (Al (v b)) (Al (f 0)))):=by
 match r,hk with
 | [],hk=>simp at hk; omega
 | y::t,hk =>have hl:t.length+1=k:=hk;rw [hf (k-1) (by omega),hf 0 hk0,ZU (by simp),show k-1=t.length by omega,Gx,hlt b _ hb (Gn (by simp) hr)];show (ieq (v y).dst (v b).src && Nat.ble (Ch (y::t)) b)=(ieq (v y).dst (v b).src && !Nat.blt b (Ch (y::t)));congr 1;rw [Bool.eq_iff_iff,Bool.not_eq_true',<- Bool.not_eq_true,Nat.ble_eq];simp only [Nat.blt,Nat.ble_eq];omega
theorem Abd {c:Nat} {ln:Nat->Nat} {me:Nat->Nat->V} {k:Nat} {f:Nat->E6} {r:List Nat} {lv:Nat->Bool} (hk:r.length=k) (hf:∀ i,i<k->f i=v (wd r i)) (hlv:∀ i,i<c->lv i=true):(∀ i,i<c+1->Da lv c true i=true)∧(∀ i,i<c->Dq ln c k i=ln i∧Dz me c (λi=>eV (BR k f 0 i)) i=me i)∧Holds9 v [r] c (Dq ln c k) (Dz me c λi=>eV (BR k f 0 i)):=by
 refine ⟨λi hi=>?_,λi hi=>?_,⟨λj hj=>?_,λj hj t ht=>?_⟩⟩
 ·rw [T9]
  split
  ·rfl
  ·exact hlv i (by omega)
 ·rw [Lz,L0,if_neg (by omega),if_neg (by omega)]
  exact ⟨rfl,rfl⟩
 ·obtain rfl:j=0:=by simp at hj; omega
  rw [Nat.add_zero,Lz,if_pos rfl];exact hk.symm
 ·obtain rfl:j=0:=by simp at hj; omega
  have ht:t<r.length:=ht;rw [Nat.add_zero,L0,if_pos rfl];show eV (BR k f 0 t)=eV (v (wd r t));rw [AhC (by omega),hf t (by omega)]
end
end Go.Proofs.YtkbgidbledjejaaGreat.En
namespace Go.Proofs.YtkbgidbledjejaaGreat.En
open Go.Sy Go Go.Proofs.YtkbgidbledjejaaGreat.Ed
open Int (ofNat)
set_option maxRecDepth 100000
theorem NE (c:FuncId->List V->St->T (V×Res)) (G:Nat->V) (ls:List (Nat×Lp×List (Nat×(Nat->V)))):Rx ⟨c,C6 ls,G⟩:=λid f st r hr=>by
 have hr:(C6 ls id f st).sem=some r:=hr;unfold C6 at hr;split at hr
 ·rename_i l z _
  cases hi:(Ax f l l.fuel (K9 (FK l.ks l.n st) z)).sem with
  | none=>rw [hi] at hr; cases hr
  | some r' =>rw [hi] at hr;cases hr;exact .weak ((HG _ _ _).trans (MJ _ _)) (GA hi)
 ·cases hr
theorem LH {P:Program} {G:Nat->V} {f:FuncId} {F0 F:List V->A2} (hp:As P G f F0) (h:∀ vs v h',(F vs).sem=some (v,h')->∃ vs' h'',B0 vs vs'∧(F0 vs').sem=some (v,h'')∧Au h'' h'):As P G f F:=by
 refine ⟨hp.1,λvs cs S w v h' hS hE hv he=>?_⟩;obtain ⟨vs',h'',h1,h4,h5⟩:=h vs v h' he;obtain ⟨hr,hc⟩:=hp.2 vs' cs S w v h'' hS hE (h1 S w cs hv) h4;refine ⟨h5.rows hr,hc.mono ?_⟩
 rintro e w' ⟨u,κ',S',rfl,g1,g2,g3⟩
 obtain ⟨p1,p2⟩:=h5.good g1;refine ⟨u,κ',S',rfl,p1,g2,Ext.ofNil g3.os g3.tape g3.output g3.size g3.keep (λi b hb=>?_) g3.sub g3.sup (h5.rows hr)⟩;rw [p2] at hb;exact g3.own i b hb
theorem Ane:E4 Tryz.prog Gl 19 E19:=by
 have hx:=Ba AfZ [] (G:=Gl);exact GF (P:=Tryz.prog) Az (Γ:=cxA Gl Ajj []) mixed hx.1 hx.2 Tryz.func19 (by kernel_rfl) (by kernel_rfl)
theorem Ai4:Bb Tryz.prog cx9.base:=Ij (.cons Ane .nil) (Ep rfl AiW)
theorem AkQ:Bb Tryz.prog Ae2.base:=Ij (.cons Anb (.cons p43 .nil)) (Ep rfl tb41_ok)
theorem Apd:E4 Tryz.prog Gl 41 E41 :=
 Km (P:=Tryz.prog) Az (Γ:=Ae2) (R:=R41) mixed AkQ (NE _ _ _) (AcA Az mixed (Γ:=cx9) (Γ':=Ae2) (R:=rN) rfl Ai4 (NE _ _ _) (P5 .nil) .nil) Tryz.func41 (by kernel_rfl) (by kernel_rfl)
theorem p9b:As Tryz.prog Gl 9 F9 :=
 (Km (P:=Tryz.prog) Az (Γ:=cx9) (R:=R9) mixed Ai4 (NE _ _ _) (P5 (.cons Apd .nil)) Tryz.func9 (by kernel_rfl) (by kernel_rfl)).pure
def AdN (rows:List (List E6)):Blk:=.jag ⟨22,1,rows.length,λ_=>.und,0,46,6,λ_=>true,λi=>(rows.getD i []).length,λi t=>eV ((rows.getD i []).getD t Bv),none⟩
abbrev DX (k:Nat) (w:Nat->E6):Nat:=(F7 (hsC w k) 112).length
abbrev Cq (k:Nat) (w:Nat->E6):Nat->E6:=KD (gtC w k) (F7 (hsC w k) 112)
def Ih (A:Int) (k:Nat) (w:Nat->E6) (n:Int):List (List Nat):=(RN n (DX k w) (Cq k w) (toN n)).filter (Me A (Cq k w))
def Fb (v:Nat->E6) (D:List (List Nat)):List (List E6):=D.map λd=>(List.range d.length).map (wE v d)
noncomputable def Jf (A:Int) (k:Nat) (w:Nat->E6) (n q:Int):Int :=
 sel (ieq (Dt A k w n) 0) (sel (ilt q 0) 1 (sel (ilt 65536 q) 1 (sel (FT k w n) 3 (sel (ilt q (ofNat (Ih A k w n).length)) 3 0)))) (Dt A k w n)
noncomputable def F3 (A:Int) (k:Nat) (w:Nat->E6) (n q:Int):List (List E6):=sel (ieq (Jf A k w n q) 0) (Fb (Cq k w) (Ih A k w n)) []
noncomputable def Ahc:List V->A2
 | [.val (.int .i64 A),u,.val (.int .i64 n),.val (.int .i64 q)]=>apL u λk w=>.leaf (.tup [.jref 0,iV (Jf A k w n q)],[AdN (F3 A k w n q)])
 | _=>.fail
theorem Ff {rows:List (List E6)} (h:rows=[]):Au [.jag ⟨22,1,0,λ_=>.und,0,46,6,λ_=>true,λ_=>0,λ_ _=>.und,none⟩] [AdN rows]:=by
 subst h;exact .consB (.jag (j:=⟨22,1,0,λ_=>.und,0,46,6,λ_=>true,λ_=>0,λ_ _=>.und,none⟩) (λ_ h=>absurd h (Nat.not_lt_zero _)) (λ_ h=>absurd h (Nat.not_lt_zero _)) (λ_ h=>absurd h (Nat.not_lt_zero _)) λ_ h=>absurd h (Nat.not_lt_zero _)) (.refl _)
theorem Vd (v:Nat->E6) (D:List (List Nat)):(Fb v D).length=D.length:=by simp [Fb]
theorem TE (v:Nat->E6) (D:List (List Nat)) (j:Nat):(Fb v D).getD j []=(List.range (D.getD j []).length).map (wE v (D.getD j [])):=by
 unfold Fb;simp only [List.getD_eq_getElem?_getD,List.getElem?_map];cases D[j]? with
 | none=>rfl
 | some d=>rfl
theorem Xm (v:Nat->E6) (d:List Nat) {t:Nat} (h:t<d.length):((List.range d.length).map (wE v d)).getD t Bv=v (wd d t):=by
 rw [List.getD_eq_getElem?_getD,List.getElem?_map,List.getElem?_range h];rfl
theorem VF {v:Nat->E6} {D:List (List Nat)} {g:Nat->V} {lv:Nat->Bool} {ln:Nat->Nat} {me:Nat->Nat->V} (hl:∀ i,i<D.length->lv i=true) (hH:Holds9 v D 0 ln me):Au [.jag ⟨22,1,D.length,g,0,46,6,lv,ln,me,none⟩] [AdN (Fb v D)]:=by
 unfold AdN;rw [Vd];refine .consB (.jag (j:=⟨22,1,D.length,g,0,46,6,lv,ln,me,none⟩) (λ_ _=>.inr rfl) (λk hk=>(hl k hk).symm) (λk hk=>?_) λk hk t ht=>?_) (.refl _)
 ·have:=hH.len k hk
  rw [Nat.zero_add] at this;show _=ln k;rw [this,TE];simp
 ·have h1:=hH.len k hk
  have h2:=hH.el k hk t;rw [Nat.zero_add] at h1 h2;have ht:t<ln k:=ht;rw [h1] at ht;show _=me k t;rw [h2 ht,TE,Xm _ _ ht];rfl
theorem Na {A n:Int} {k:Nat} {w:Nat->E6} (h:ieq (Dt A k w n) 0=true):By k w=true∧ilt n 2=false∧ilt 16 n=false∧k <= 128:=by
 unfold Dt at h;cases h1:bor (ieq A 1) (ieq A 2) with
 | false=>rw [h1] at h; cases h
 | true =>
  rw [h1] at h;cases h2:ilt n 2 with
  | true=>rw [h2] at h; cases h
  | false =>
   rw [h2] at h;cases h3:ilt 16 n with
   | true=>rw [h3] at h; cases h
   | false =>
    rw [h3] at h;cases h4:ilt 128 (ofNat k) with
    | true=>rw [h4] at h; cases h
    | false =>
     rw [h4] at h;have h4:¬ ((128:Int)<(k:Int)):=of_decide_eq_false h4;refine ⟨?_,rfl,rfl,by omega⟩;have h:ieq (refL A k w) 0=true:=h;unfold refL at h;cases h5:A1 (G4 A w) k 0 with
     | some t =>rw [h5] at h;have h:ieq (Vh w (tO (G4 A w) k)) 0=true:=h;unfold Vh at h;cases h6:ieq (AB (w (tO (G4 A w) k))) 0 <;> rw [h6] at h <;> cases h
     | none =>
      refine Bw.2 λi hi=>?_;have:=Ei.1 h5 i (Nat.zero_le _) (by omega);unfold G4 at this;cases h7:ieq (AB (w i)) 0 with
      | true=>exact Cz h7
      | false=>rw [h7] at this; cases this
theorem p9:As Tryz.prog Gl 9 Ahc:=by
 refine LH p9b λvs u h' h=>?_;unfold Ahc at h;split at h
 rotate_left
 ·cases h
 rename_i A u0 n q;obtain ⟨k,w,ha,h⟩:=AQ h;have:=Aa h;simp only [Prod.mk.injEq] at this;obtain ⟨rfl,rfl⟩:=this;have hv:B0 [iV A,u0,iV n,iV q] [iV A,Am k w,iV n,iV q]:=λS W cs hq=>by
  obtain ⟨c,l,rfl,q1,c2,l2,rfl,q2,q3⟩:=hq;exact ⟨c,_,rfl,q1,c2,_,rfl,ha S W c2 q2,q3⟩
 cases h1:ieq (Dt A k w n) 0 with
 | false =>
  have he:Jf A k w n q=Dt A k w n:=by unfold Jf; rw [h1]; rfl
  have hr:F3 A k w n q=[]:=by unfold F3; rw [he,h1]; rfl
  rw [he];exact ⟨_,_,hv,DW.ok (.k (eL k) <| .k (eN h1) <| .l) (by kernel_rfl),Ff hr⟩
 | true =>
  cases h2:ilt q 0 with
  | true =>
   have he:Jf A k w n q=1:=by unfold Jf; rw [h1,h2]; rfl
   have hr:F3 A k w n q=[]:=by unfold F3; rw [he]; rfl
   rw [he];exact ⟨_,_,hv,DW.ok (.k (eL k) <| .k (eN h1) <| .r 3 h2 <| .k eT <| .l) (by kernel_rfl),Ff hr⟩
  | false =>
   cases h3:ilt 65536 q with
   | true =>
    have he:Jf A k w n q=1:=by unfold Jf; rw [h1,h2,h3]; rfl
    have hr:F3 A k w n q=[]:=by unfold F3; rw [he]; rfl
    rw [he];exact ⟨_,_,hv,DW.ok (.k (eL k) <| .k (eN h1) <| .r 3 h2 <| .k h3 <| .l) (by kernel_rfl),Ff hr⟩
   | false =>
    obtain ⟨g1,g2,g3,g4⟩:=Na h1;have h2':¬ q<0:=of_decide_eq_false h2;have h3':¬ 65536<q:=of_decide_eq_false h3;have g2':¬ n<2:=of_decide_eq_false g2;have g3':¬ 16<n:=of_decide_eq_false g3;have hG:Pb k w n=true:=by
     unfold Pb;rw [g1,show ile 2 n=true from decide_eq_true (by omega),show ile n 16=true from decide_eq_true (by omega),decide_eq_true g4];rfl
    cases h4:FT k w n with
    | true =>
     have he:Jf A k w n q=3:=by unfold Jf; rw [h1,h2,h3,h4]; rfl
     have hr:F3 A k w n q=[]:=by unfold F3; rw [he]; rfl
     rw [he];exact ⟨_,_,hv,DW.ok (.k (eL k) <| .k (eN h1) <| .r 3 h2 <| .k h3 <| .k (eL k) <| .k hG <| .k h4 <| .l) (by kernel_rfl),Ff hr⟩
    | false =>
     have hc:Ci 0 k 40=true:=decide_eq_true (by omega);have hB:=W3 (a:=A) (n:=n) (k:=k) (e:=w) (by omega) λi hi=>by
      rcases BK (w i) with ⟨c,hc,_,hn,_⟩ | ⟨hb,_⟩
      ·rw [hn]; exact Ut hc
      ·rw [Bw.1 g1 i hi] at hb; cases hb
     obtain ⟨N,rfl⟩:∃ N:Nat,n=ofNat N:=⟨n.toNat,(Int.toNat_of_nonneg (by omega)).symm⟩;have hN:0<N∧N <= 16:=by simp only [Int.ofNat_eq_natCast] at *; omega
     have hm:DX k w <= 112:=Tq _ _;have hR:=Sj (a:=A) (n:=ofNat N) (v:=Cq k w) (x:=λ_=>0) rfl hN.1 hN.2 hm;have hF:=Rh (n:=ofNat N) (v:=Cq k w) hm hN.2;have hlen:(Ih A k w (ofNat N)).length<10000000000000000000000000000000000000000000000000000:=by
      have h5:=List.length_filter_le (Me A (Cq k w)) (RN (ofNat N) (DX k w) (Cq k w) N);have h6:F43=10000000000000000000000000000000000000000000000000000:=rfl;rw [<- h6];show ((RN (ofNat N) (DX k w) (Cq k w) N).filter (Me A (Cq k w))).length<F43;omega
     have hl:=Ako (A:=A) (n:=ofNat N) (q:=q) (k:=k) (w:=w) hN.2 hm (hs:=hsC w k) (gt:=λy=>eV (gtC w k y)) hR (by omega) (by omega) hlen;have heq:Jf A k w (ofNat N) q=sel (ilt q (ofNat (Ih A k w (ofNat N)).length)) 3 0:=by unfold Jf; rw [h1,h2,h3,h4]; rfl
     rcases hl with ⟨hq,h5⟩ | ⟨hq,h5⟩
     ·have hq:q<ofNat (Ih A k w (ofNat N)).length:=hq
      have he:Jf A k w (ofNat N) q=3:=by rw [heq,show ilt q _=true from decide_eq_true hq]; rfl
      have hr0:F3 A k w (ofNat N) q=[]:=by unfold F3; rw [he]; rfl
      rw [he];rcases h5 with ⟨L',x',hr⟩ | ⟨L',x',c',g',lv',ln',me',hr⟩
      ·exact ⟨_,_,hv,DW.ok (.k (eL k) <| .k (eN h1) <| .r 3 h2 <| .k h3 <| .k (eL k) <| .k hG <| .k h4 <| .k (eL k) <| .k hc <| .k (eL k) <| .r 3 (eN h1) <| .k (eL k) <| .k hG <| .k (eN h1) <| .k h4 <| .a (CX hB) <| .a hr <| .l) (by kernel_rfl),Ff hr0⟩
      ·exact ⟨_,_,hv,DW.ok (.k (eL k) <| .k (eN h1) <| .r 3 h2 <| .k h3 <| .k (eL k) <| .k hG <| .k h4 <| .k (eL k) <| .k hc <| .k (eL k) <| .r 3 (eN h1) <| .k (eL k) <| .k hG <| .k (eN h1) <| .k h4 <| .a (CX hB) <| .a hr <| .l) (by kernel_rfl),Ff hr0⟩
     ·have hq:ofNat (Ih A k w (ofNat N)).length <= q:=hq
      have he:Jf A k w (ofNat N) q=0:=by rw [heq,show ilt q _=false from decide_eq_false (by simp only [Int.ofNat_eq_natCast] at *; omega)]; rfl
      have hr0:F3 A k w (ofNat N) q=Fb (Cq k w) (Ih A k w (ofNat N)):=by unfold F3; rw [he]; rfl
      rw [he];rcases h5 with ⟨hd,x',hr⟩ | ⟨L',x',g',lv',ln',me',hr,hlv,hH⟩
      ·exact ⟨_,_,hv,DW.ok (.k (eL k) <| .k (eN h1) <| .r 3 h2 <| .k h3 <| .k (eL k) <| .k hG <| .k h4 <| .k (eL k) <| .k hc <| .k (eL k) <| .r 3 (eN h1) <| .k (eL k) <| .k hG <| .k (eN h1) <| .k h4 <| .a (CX hB) <| .a hr <| .l) (by kernel_rfl),Ff (by rw [hr0]; show Fb _ (Ih A k w (ofNat N))=[]; rw [show Ih A k w (ofNat N)=[] from hd]; rfl)⟩
      ·rw [hr0]
       exact ⟨_,_,hv,DW.ok (.k (eL k) <| .k (eN h1) <| .r 3 h2 <| .k h3 <| .k (eL k) <| .k hG <| .k h4 <| .k (eL k) <| .k hc <| .k (eL k) <| .r 3 (eN h1) <| .k (eL k) <| .k hG <| .k (eN h1) <| .k h4 <| .a (CX hB) <| .a hr <| .l) (by kernel_rfl),VF (g:=g') hlv hH⟩
end Go.Proofs.YtkbgidbledjejaaGreat.En
namespace Go.Proofs.YtkbgidbledjejaaGreat.En
open Go.Sy Go Go.Proofs.YtkbgidbledjejaaGreat.Ed
set_option maxRecDepth 100000
theorem fill_ok {P:Program} {G:Nat->V} {f:FuncId} {E:List V->List Blk->A2} (h:E4 P G f E) (z:List (Nat×(Nat->V))):E4 P G f λvs hp=>E vs (K9 ⟨vs,hp⟩ z).h :=
 ⟨h.1,λvs cs κ S hp w v h' h1 h2 h3 h4=>by
  obtain ⟨κ2,S2,r1,r2⟩:=MJ (Γ:=⟨λ_ _ _=>.fail,G⟩) z ⟨vs,hp⟩ [] κ S { tmps:=cs.toArray,defers:=[] } w ⟨h1,h2,by simpa using h3,rfl⟩;have ht:(K9 ⟨vs,hp⟩ z).t=vs:=fill_t z _;have hv:VRs S2 w vs κ2 cs:=by
   have:=r1.tmps;rw [ht] at this;simpa using this
  refine (h.2 vs cs κ2 S2 _ w v h' r1.good r1.env hv h4).mono ?_
  rintro e w' ⟨c,κ',S',rfl,g1,g2,g3⟩
  exact ⟨c,κ',S',rfl,g1,g2,r2.trans g3⟩⟩
where
 fill_t:∀ (z:List (Nat×(Nat->V))) (st:St),(K9 st z).t=st.t
  | [],_=>rfl
  | (id,g)::l,st=>by
    unfold K9;rw [fill_t l];split <;> rfl
noncomputable def tb10:AH:=(34,P9)::(35,Ll)::(36,AlG)::[]
theorem tb10_ok:Ao Tryz.prog Gl tb10:=.cons AjU <| .cons p35 <| .cons Apg <| .nil
def QM (A:Int) (k:Nat) (w:Nat->E6) (n:Int):List (List Nat):=onW A (Dn k w).length (mkE (Dn k w)) (toN n) []
theorem Adr:(List.range 112).all (λc=>ieq (Al (BC c)) (Int.ofNat c))=true:=by kernel_rfl
theorem OI {th:Nat->Bool} {o c:Bool}:∀ b e,e ∈ Cc th o c b->e<b
 | 0,e,h=>by cases h
 | b+1,e,h=>by
  unfold Cc at h;cases hq:GV th o c b with
  | true =>
   rw [hq] at h;rcases List.mem_append.1 h with h | h
   ·have:=OI b e h; omega
   ·simp at h; omega
  | false=>rw [hq] at h; have:=OI b e h; omega
theorem Ki {th:Nat->Bool} {o c:Bool}:∀ b i j,i<j->j<(Cc th o c b).length->(Cc th o c b).getD i 0<(Cc th o c b).getD j 0
 | 0,i,j,h,hj=>by cases hj
 | b+1,i,j,h,hj=>by
  unfold Cc at hj ⊢;cases hq:GV th o c b with
  | false=>rw [hq] at hj; exact Ki b i j h hj
  | true =>
   rw [hq] at hj;have hj:j<(Cc th o c b++[b]).length:=hj;rw [List.length_append] at hj;show (Cc th o c b++[b]).getD i 0<(Cc th o c b++[b]).getD j 0;have hi:i<(Cc th o c b).length:=by simp at hj; omega
   rw [List.getD_eq_getElem?_getD,List.getD_eq_getElem?_getD,List.getElem?_append_left hi];rcases Nat.lt_or_ge j (Cc th o c b).length with hl | hl
   ·rw [List.getElem?_append_left hl]
    have:=Ki b i j h hl;rw [List.getD_eq_getElem?_getD,List.getD_eq_getElem?_getD] at this;exact this
   ·obtain rfl:j=(Cc th o c b).length:=by simp at hj; omega
    rw [List.getElem?_append_right (Nat.le_refl _),Nat.sub_self];have:=OI b ((Cc th o c b)[i]'hi) (List.getElem_mem hi);rw [List.getElem?_eq_getElem hi];exact this
theorem Np {c:Nat} (h:c<112):Al (BC c)=Int.ofNat c:=by
 have:=List.all_eq_true.1 Adr c (List.mem_range.2 h);exact Cz this
theorem Zg {th:Nat->Bool} {o c:Bool} {i:Nat} (hi:i<(Cc th o c 112).length):(Cc th o c 112).getD i 0<112:=by
 rw [List.getD_eq_getElem?_getD,List.getElem?_eq_getElem hi];exact OI 112 _ (List.getElem_mem hi)
theorem Anl (k:Nat) (w:Nat->E6) (i j:Nat) (hi:i<(Dn k w).length) (hj:j<(Dn k w).length):ilt (Al (mkE (Dn k w) i)) (Al (mkE (Dn k w) j))=Nat.blt i j:=by
 unfold mkE;have h1:=Zg hi;have h2:=Zg hj;rw [show Al (BC ((Dn k w).getD i 0))=Int.ofNat ((Dn k w).getD i 0) from Np h1,show Al (BC ((Dn k w).getD j 0))=Int.ofNat ((Dn k w).getD j 0) from Np h2];rw [Bool.eq_iff_iff];simp only [ilt,decide_eq_true_eq,Int.ofNat_eq_natCast,Nat.blt,Nat.ble_eq];rcases Nat.lt_trichotomy i j with h | h | h
 ·have:=Ki 112 i j h hj
  have:(Dn k w).getD i 0<(Dn k w).getD j 0:=this;omega
 ·subst h; omega
 ·have:=Ki 112 j i h hi
  have:(Dn k w).getD j 0<(Dn k w).getD i 0:=this;omega
end Go.Proofs.YtkbgidbledjejaaGreat.En
namespace Go.Proofs.YtkbgidbledjejaaGreat.En
open Go.Sy Go Go.Proofs.YtkbgidbledjejaaGreat.Ed
open Int (ofNat)
section
variable {A:Int} {m:Nat} {v1 v2:Nat->E6} {keep:Nat->Bool}
theorem MY {l:List Nat} (h:l.Pairwise (·<·)):∀ {i j:Nat},i<j->j<l.length->l.getD i 0<l.getD j 0:=fun {i j} hi hj=>by
 rw [List.getD_eq_getElem?_getD,List.getD_eq_getElem?_getD,List.getElem?_eq_getElem (by omega),List.getElem?_eq_getElem hj];exact List.pairwise_iff_getElem.1 h i j (by omega) hj hi
theorem TZ:((List.range m).filter keep).Pairwise (·<·):=List.Pairwise.filter _ List.pairwise_lt_range
abbrev sg (m:Nat) (keep:Nat->Bool) (j:Nat):Nat:=((List.range m).filter keep).getD j 0
theorem Aks:(List.range ((List.range m).filter keep).length).map (sg m keep)=(List.range m).filter keep:=by
 refine List.ext_getElem (by simp) λi h1 h2=>?_;simp [sg,List.getD_eq_getElem?_getD,List.getElem?_eq_getElem h2]
theorem Zt (s:Nat->Nat):∀ {r:List Nat},r ≠ []->Ch (r.map s)=s (Ch r)
 | [x],_=>rfl
 | x::y::r,_=>by
  show Ch (s x::s y::r.map s)=_;rw [Ch,Ch];exact Zt s (r:=y::r) (by simp)
theorem Ab9 (s:Nat->Nat) {r:List Nat} {i:Nat} (h:i<r.length):wd (r.map s) i=s (wd r i):=by
 unfold wd;rw [<- List.map_reverse,List.getD_eq_getElem?_getD,List.getD_eq_getElem?_getD,List.getElem?_map,List.getElem?_eq_getElem (by simpa using h)];rfl
variable (hv:∀ j,j<((List.range m).filter keep).length->v2 j=v1 (sg m keep j))
include hv
theorem VW {r:List Nat} (hr:∀ e,e ∈ r->e<((List.range m).filter keep).length):BW A v1 (r.map (sg m keep))=BW A v2 r:=by
 unfold BW;rw [List.length_map];exact Nx λi hi=>by
  show v1 (wd (r.map (sg m keep)) i)=v2 (wd r i);rw [Ab9 _ hi,hv _ (hr _ (MM hi))]
theorem AjY {r:List Nat} (hr:∀ e,e ∈ r->e<((List.range m).filter keep).length) {j:Nat} (hj:j<((List.range m).filter keep).length):okP v1 (r.map (sg m keep)) (sg m keep j)=okP v2 r j:=by
 cases r with
 | nil=>rfl
 | cons y t =>
  have hf:=Gn (r:=y::t) (by simp) hr;show (ieq (v1 (sg m keep y)).dst (v1 (sg m keep j)).src && Nat.ble (Ch ((y::t).map (sg m keep))) (sg m keep j))=(ieq (v2 y).dst (v2 j).src && Nat.ble (Ch (y::t)) j);rw [Zt _ (by simp),<- hv y (hr y (by simp)),<- hv j hj];congr 1;rw [Bool.eq_iff_iff,Nat.ble_eq,Nat.ble_eq];rcases Nat.lt_trichotomy (Ch (y::t)) j with h | h | h
  ·have:=MY TZ h hj
   unfold sg; omega
  ·rw [h]; omega
  ·have:=MY TZ h hf
   unfold sg; omega
theorem AcY:∀ (d:Nat) (r:List Nat),(∀ e,e ∈ r->e<((List.range m).filter keep).length)->onL m (okP v1) (BW A v1) keep d (r.map (sg m keep))=(onL ((List.range m).filter keep).length (okP v2) (BW A v2) (λ_=>true) d r).map (List.map (sg m keep))
 | 0,r,hr=>by
  unfold onL;rw [VW hv hr];cases BW A v2 r <;> rfl
 | d+1,r,hr=>by
  rw [onL,onL,VW hv hr,List.map_append,List.filter_eq_self.2 (λ_ _=>rfl:∀ a,a ∈ List.range ((List.range m).filter keep).length->(λ_=>true) a=true)];congr 1
  ·cases BW A v2 r <;> rfl
  ·conv=>lhs; rw [<- Aks]
   rw [List.flatMap_map,List.map_flatMap];refine DF λj hj=>?_;have hj:=List.mem_range.1 hj;rw [AjY hv hr hj];cases okP v2 r j with
   | false=>rfl
   | true =>
    refine AcY d (j::r) λe he=>?_;rcases List.mem_cons.1 he with rfl | he
    ·exact hj
    ·exact hr e he
omit hv in
theorem AhW:∀ (d:Nat) (r:List Nat) (D:List Nat),(∀ e,e ∈ r->e<m)->D ∈ onL m (okP v2) (BW A v2) keep d r->∀ e,e ∈ D->e<m
 | 0,r,D,hr,hD=>by
  unfold onL at hD;cases hg:BW A v2 r with
  | false=>rw [hg] at hD; cases hD
  | true =>rw [hg] at hD;simp at hD;subst hD;exact hr
 | d+1,r,D,hr,hD=>by
  rw [onL] at hD;rcases List.mem_append.1 hD with hD | hD
  ·cases hg:BW A v2 r with
   | false=>rw [hg] at hD; cases hD
   | true =>rw [hg] at hD;simp at hD;subst hD;exact hr
  ·obtain ⟨e,he,hD⟩:=List.mem_flatMap.1 hD
   cases ho:okP v2 r e with
   | false=>rw [ho] at hD; cases hD
   | true =>
    rw [ho] at hD;exact AhW d (e::r) D (λx hx=>by
     rcases List.mem_cons.1 hx with rfl | hx
     ·exact List.mem_range.1 (List.mem_filter.1 he).1
     ·exact hr x hx) hD
end
theorem Agk {a b:Nat} (h:ilt (sgI (ofNat a) (ofNat b)) 0=true):a<b:=by
 unfold sgI at h;cases h1:ilt (ofNat a) (ofNat b) with
 | true =>have:(a:Int)<(b:Int):=of_decide_eq_true h1;omega
 | false =>rw [h1] at h;cases h2:ilt (ofNat b) (ofNat a) <;> rw [h2] at h <;> cases h
theorem Acp {a b:Nat} (h:ieq (sgI (ofNat a) (ofNat b)) 0=true):a=b:=by
 unfold sgI at h;cases h1:ilt (ofNat a) (ofNat b) with
 | true=>rw [h1] at h; cases h
 | false =>
  rw [h1] at h;cases h2:ilt (ofNat b) (ofNat a) with
  | true=>rw [h2] at h; cases h
  | false =>have h1:¬ ((a:Int)<(b:Int)):=of_decide_eq_false h1;have h2:¬ ((b:Int)<(a:Int)):=of_decide_eq_false h2;omega
theorem QA {q:Nat->Bool}:∀ {d i t:Nat},A1 q d i=some t->∀ j,i <= j->j<t->q j=false
 | 0,_,_,h,_,_,_=>by cases h
 | d+1,i,t,h,j,h1,h2=>by
  cases hq:q i with
  | true=>rw [Fl hq] at h; cases h; omega
  | false =>
   rw [Gc hq] at h;rcases Nat.eq_or_lt_of_le h1 with rfl | h1
   ·exact hq
   ·exact QA h j h1 h2
theorem Ak1 {r:List Nat} (h:Uj r.length (wdI r)=true):Hop r:=by
 unfold Uj at h;cases hf:A1 (Ui r.length (wdI r)) (r.length-1) 1 with
 | none=>rw [hf] at h; cases h
 | some i =>
  obtain ⟨h1,h2,h3⟩:=Eh hf;unfold Ui RJ tO at h3;cases hg:A1 (sgQ (λj=>wdI r (Bh i j)) (wdI r)) (FF r.length i) 0 with
  | none=>rw [hg] at h3; cases h3
  | some t =>
   rw [hg] at h3;obtain ⟨_,g2,_⟩:=Eh hg;have g2:t<0+(r.length-i):=g2;refine ⟨i,t,by omega,λj hj=>?_,?_⟩
   ·have:=QA hg j (Nat.zero_le _) hj
    have:AL (ieq (sgI (wdI r (i+j)) (wdI r j)) 0)=false:=this;refine Acp ?_;cases hq:ieq (sgI (wdI r (i+j)) (wdI r j)) 0 with
    | true=>rfl
    | false=>rw [hq] at this; cases this
   ·exact Agk h3
theorem Agy {n:Int} {N m:Nat} {v:Nat->E6} (hn:n=ofNat N) {r:List Nat} (h0:r ≠ []) (h:Fy n m v r=false):N <= r.length ∨ Hop r ∨ ∃ y t,r=y::t∧(v y).dst ≠ (v (Ch (y::t))).src∧∀ e,e<m->(v e).src=(v y).dst->(v e).dst=(v (Ch (y::t))).src->False:=by
 unfold Fy PP at h;cases h1:ilt (ofNat r.length) n with
 | false =>have:¬ ((r.length:Int)<n):=of_decide_eq_false h1;rw [hn] at this;exact .inl (by simp only [Int.ofNat_eq_natCast] at this; omega)
 | true =>
  rw [h1] at h;cases h2:Uj r.length (wdI r) with
  | true=>exact .inr (.inl (Ak1 h2))
  | false =>
   rw [h2] at h;have h:JA n m v r.length (wdI r)=false:=h;unfold JA at h
   match r,h0 with
   | y::t,_ =>
    rw [show wdI (y::t) ((y::t).length-1)=ofNat y from congrArg ofNat Gx,show wdI (y::t) 0=ofNat (Ch (y::t)) from congrArg ofNat (ZU (by simp)),show toN (ofNat y)=y from rfl,show toN (ofNat (Ch (y::t)))=Ch (y::t) from rfl,h1] at h;refine .inr (.inr ⟨y,t,rfl,λe=>?_,λe he e1 e2=>?_⟩)
    ·rw [e,eI] at h; cases h
    ·cases h3:ieq (v y).dst (v (Ch (y::t))).src with
     | true=>rw [h3] at h; cases h
     | false =>
      rw [h3] at h;have h:VP m v (v y) (v (Ch (y::t)))=false:=h;unfold VP at h;cases h4:A1 (Xc v (v y) (v (Ch (y::t)))) m 0 with
      | some t=>rw [h4] at h; cases h
      | none =>
       have:=Ei.1 h4 e (Nat.zero_le _) (by omega);have h5:TA (v e) (v y) (v (Ch (y::t)))=true:=by
        unfold TA;rw [e1,e2,eI,eI];rfl
       rw [show Xc v (v y) (v (Ch (y::t))) e=TA (v e) (v y) (v (Ch (y::t))) from rfl,h5] at this;cases this
theorem AgR {A:Int} {v:Nat->E6} {d:List Nat} (h:BW A v d=true):Good A v d:=by
 unfold BW isB at h;cases h1:ieq (Ft A d.length (wE v d)).1 0 with
 | false=>rw [h1] at h; cases h
 | true =>
  cases h2:By d.length (wE v d) with
  | false=>rw [h1,h2] at h; cases h
  | true =>rw [h1,h2] at h;exact ⟨Qt h1,(CM.1 h).2⟩
section
variable {k:Nat} {w:Nat->E6}
theorem Zn {z:Int}:∀ {k:Nat},hsC w k (.i z)=true↔∃ j,j<k∧Al (w j)=z
 | 0=>⟨λh=>(by cases h),λ⟨_,h,_⟩=>absurd h (Nat.not_lt_zero _)⟩
 | k+1=>by
  show bor (ieq z (Al (w k))) (hsC w k (.i z))=true↔_;have ih:=Zn (z:=z) (k:=k);constructor
  ·intro h
   cases h1:ieq z (Al (w k)) with
   | true=>exact ⟨k,by omega,(Cz h1).symm⟩
   | false =>rw [h1] at h;obtain ⟨j,h2,h3⟩:=ih.1 h;exact ⟨j,by omega,h3⟩
  ·rintro ⟨j,h1,h2⟩
   rcases Nat.eq_or_lt_of_le (Nat.le_of_lt_succ h1) with rfl | h3
   ·rw [h2,eI]; rfl
   ·rw [ih.2 ⟨j,h3,h2⟩]
    cases ieq z (Al (w k)) <;> rfl
theorem AdX {z:Int}:∀ {k:Nat},hsC w k (.i z)=true->∃ j,j<k∧Al (w j)=z∧gtC w k (.i z)=w j
 | 0,h=>by cases h
 | k+1,h=>by
  have h:bor (ieq z (Al (w k))) (hsC w k (.i z))=true:=h;show ∃ j,j<k+1∧Al (w j)=z∧(bif ieq z (Al (w k)) then w k else gtC w k (.i z))=w j;cases h1:ieq z (Al (w k)) with
  | true=>exact ⟨k,by omega,(Cz h1).symm,rfl⟩
  | false =>rw [h1] at h;obtain ⟨j,h2,h3,h4⟩:=AdX h;exact ⟨j,by omega,h3,h4⟩
theorem Ts {x:Nat}:∀ {k:Nat},thC w k x=true↔∃ j,j<k∧toN (Al (w j))=x
 | 0=>⟨λh=>(by cases h),λ⟨_,h,_⟩=>absurd h (Nat.not_lt_zero _)⟩
 | k+1=>by
  show (bif Nat.beq x (toN (Al (w k))) then true else thC w k x)=true↔_;have ih:=Ts (x:=x) (k:=k);constructor
  ·intro h
   cases h1:Nat.beq x (toN (Al (w k))) with
   | true=>exact ⟨k,by omega,(Nat.eq_of_beq_eq_true h1).symm⟩
   | false =>rw [h1] at h;obtain ⟨j,h2,h3⟩:=ih.1 h;exact ⟨j,by omega,h3⟩
  ·rintro ⟨j,h1,h2⟩
   rcases Nat.eq_or_lt_of_le (Nat.le_of_lt_succ h1) with rfl | h3
   ·rw [h2,Nat.beq_refl]; rfl
   ·rw [ih.2 ⟨j,h3,h2⟩]
    cases Nat.beq x (toN (Al (w k))) <;> rfl
theorem Xz {p r:Int}:∀ {k:Nat},oC w p r k=true↔∃ j,j<k∧(w j).src=p∧(w j).dst=r
 | 0=>⟨λh=>(by cases h),λ⟨_,h,_⟩=>absurd h (Nat.not_lt_zero _)⟩
 | k+1=>by
  show oS (oC w p r k) (w k) p r=true↔_;have ih:=Xz (p:=p) (r:=r) (k:=k);unfold oS;constructor
  ·intro h
   cases h0:oC w p r k with
   | true =>obtain ⟨j,h2,h3⟩:=ih.1 h0;exact ⟨j,by omega,h3⟩
   | false =>
    rw [h0] at h;cases h1:ieq (w k).src p with
    | false=>rw [h1] at h; cases h
    | true=>rw [h1] at h; exact ⟨k,by omega,Cz h1,Cz h⟩
  ·rintro ⟨j,h1,h2,h3⟩
   rcases Nat.eq_or_lt_of_le (Nat.le_of_lt_succ h1) with rfl | h4
   ·rw [h2,h3,eI,eI]
    cases oC w p r j <;> rfl
   ·rw [ih.2 ⟨j,h4,h2,h3⟩]
    rfl
theorem Lo (hs:Key->Bool):∀ c,F7 hs c=(List.range c).filter λb=>hs (.i (ofNat b))
 | 0=>rfl
 | c+1=>by
  rw [F7,List.range_succ,List.filter_append,Lo hs c];cases h:hs (.i (ofNat c)) with
  | true =>rw [List.filter_cons_of_pos (p:=λb=>hs (.i (ofNat b))) h];rfl
  | false =>rw [List.filter_cons_of_neg (p:=λb=>hs (.i (ofNat b))) (by rw [h]; decide),List.filter_nil,List.append_nil];rfl
theorem VE (th:Nat->Bool) (o c:Bool):∀ b,Cc th o c b=(List.range b).filter (GV th o c)
 | 0=>rfl
 | b+1=>by
  rw [Cc,List.range_succ,List.filter_append,VE th o c b];cases h:GV th o c b <;> simp [h]
end
section
variable {A:Int} {k N:Nat} {w:Nat->E6} (hw:By k w=true)
abbrev cL (k:Nat) (w:Nat->E6):List Nat:=F7 (hsC w k) 112
include hw
theorem ZB {j:Nat} (hj:j<k):∃ c,c<112∧AB (w j)=0∧Al (w j)=ofNat c∧BC c=w j:=by
 rcases BK (w j) with ⟨c,hc,h1,h2,h3,_⟩ | ⟨hb,_⟩
 ·exact ⟨c,hc,h1,h2,h3⟩
 ·rw [Bw.1 hw j hj] at hb; cases hb
theorem Pg {i:Nat} (hi:i<DX k w):(cL k w).getD i 0<112∧Cq k w i=BC ((cL k w).getD i 0)∧∃ j,j<k∧Cq k w i=w j:=by
 have hmem:(cL k w).getD i 0 ∈ cL k w:=by
  rw [List.getD_eq_getElem?_getD,List.getElem?_eq_getElem hi];exact List.getElem_mem hi
 rw [show cL k w=(List.range 112).filter λb=>hsC w k (.i (ofNat b)) from Lo _ _] at hmem;obtain ⟨h1,h2⟩:=List.mem_filter.1 hmem;rw [show (List.range 112).filter (λb=>hsC w k (.i (ofNat b)))=cL k w from (Lo _ _).symm] at h1 h2;obtain ⟨j,hj,h3,h4⟩:=AdX h2;obtain ⟨c,hc,_,h5,h6⟩:=ZB hw hj;have h7:c=(cL k w).getD i 0:=Int.ofNat.inj (h5.symm.trans h3);exact ⟨List.mem_range.1 h1,h4.trans (by rw [<- h6,h7]),j,hj,h4⟩
theorem Ln {i:Nat} (hi:i<DX k w):AB (Cq k w i)=0∧Al (Cq k w i)=ofNat ((cL k w).getD i 0):=by
 obtain ⟨h1,h2,j,hj,h3⟩:=Pg hw hi;refine ⟨by rw [h3]; exact Bw.1 hw j hj,?_⟩;rw [h2];exact Np h1
theorem AbE {i j:Nat} (hij:i<j) (hj:j<DX k w):Al (Cq k w i)<Al (Cq k w j):=by
 rw [(Ln hw hj).2,(Ln hw (show i<DX k w by omega)).2];have hp:(cL k w).Pairwise (·<·):=by
  rw [show cL k w=(List.range 112).filter λb=>hsC w k (.i (ofNat b)) from Lo _ _];exact TZ
 have:=MY hp hij hj;exact Int.ofNat_lt.2 this
def F5 (k:Nat) (w:Nat->E6) (e:Nat):Bool:=GV (thC w k) (oC w 1 2 k) (oC w 2 1 k) ((cL k w).getD e 0)
theorem AlI {b:Nat}:thC w k b=hsC w k (.i (ofNat b)):=by
 rw [Bool.eq_iff_iff,Ts,Zn];constructor
 ·rintro ⟨j,hj,h⟩
  obtain ⟨c,_,_,h2,_⟩:=ZB hw hj;refine ⟨j,hj,?_⟩;rw [h2] at h ⊢;exact congrArg ofNat h
 ·rintro ⟨j,hj,h⟩
  exact ⟨j,hj,by rw [h]; rfl⟩
theorem Qp:Dn k w=((List.range (DX k w)).filter (F5 k w)).map λe=>(cL k w).getD e 0:=by
 have h1:(List.range (DX k w)).map (λe=>(cL k w).getD e 0)=cL k w:=List.ext_getElem (by simp) λi h1 h2=>by simp [List.getD_eq_getElem?_getD,List.getElem?_eq_getElem h2]
 have h2:((List.range (DX k w)).filter (F5 k w)).map (λe=>(cL k w).getD e 0)=(cL k w).filter (GV (thC w k) (oC w 1 2 k) (oC w 2 1 k)):=by
  conv=>rhs; rw [<- h1]
  rw [List.filter_map];rfl
 rw [h2];unfold Dn;rw [VE,show cL k w=(List.range 112).filter λb=>hsC w k (.i (ofNat b)) from Lo _ _,List.filter_filter];refine List.filter_congr λb _=>?_;rw [<- AlI hw];unfold GV;cases thC w k b <;> simp [sel]
theorem AdG {e:Nat} (he:e<DX k w) (h:Alf (Cq k w) (DX k w) e):F5 k w e=true:=by
 obtain ⟨h1,h2,j,hj,h3⟩:=Pg hw he;unfold F5 GV;have ht:thC w k ((cL k w).getD e 0)=true:=Ts.2 ⟨j,hj,by rw [<- h3,(Ln hw he).2]; rfl⟩;rw [ht,<- h2];rcases h with h | ⟨⟨i,hi,h4,h5⟩,i',hi',h6,h7⟩
 ·rw [h,eI]; rfl
 ·obtain ⟨_,_,a,ha,h8⟩:=Pg hw hi
  obtain ⟨_,_,b,hb,h9⟩:=Pg hw hi';rw [Xz.2 ⟨a,ha,by rw [<- h8]; exact h4,by rw [<- h8]; exact h5⟩,Xz.2 ⟨b,hb,by rw [<- h9]; exact h6,by rw [<- h9]; exact h7⟩];cases ieq (Cq k w e).src (Cq k w e).dst <;> rfl
theorem Ae0 (hN:0<N):Fb (Cq k w) (Ih A k w (ofNat N))=Fb (mkE (Dn k w)) (QM A k w (ofNat N))∧(Ih A k w (ofNat N)).length=(QM A k w (ofNat N)).length:=by
 have h1:=Aam (a:=A) (v:=Cq k w) (m:=DX k w) (n:=N) (λi hi=>(Ln hw hi).1) (λi j hij hj=>AbE hw hij hj) (opn:=Fy (ofNat N) (DX k w) (Cq k w)) (good:=BW A (Cq k w)) (keep:=F5 k w) (λd _ h=>AgR h) (λr h=>KI rfl h) (λr h0 _ h=>Agy rfl h0 h) (λe he h=>AdG hw he h) hN;have h2:Ih A k w (ofNat N)=onL (DX k w) (okP (Cq k w)) (BW A (Cq k w)) (F5 k w) N []:=h1;have hlen:(Dn k w).length=((List.range (DX k w)).filter (F5 k w)).length:=by rw [Qp hw,List.length_map]
 have hv:∀ j,j<((List.range (DX k w)).filter (F5 k w)).length->mkE (Dn k w) j=Cq k w (sg (DX k w) (F5 k w) j):=λj hj=>by
  have hs:sg (DX k w) (F5 k w) j<DX k w:=by
   unfold sg;rw [List.getD_eq_getElem?_getD,List.getElem?_eq_getElem hj];exact List.mem_range.1 (List.mem_filter.1 (List.getElem_mem hj)).1
  rw [(Pg hw hs).2.1];unfold mkE;rw [Qp hw,List.getD_eq_getElem?_getD,List.getElem?_map,List.getElem?_eq_getElem hj];unfold sg;rw [List.getD_eq_getElem?_getD (l:=(List.range (DX k w)).filter (F5 k w)),List.getElem?_eq_getElem hj];rfl
 have h3:=AcY (A:=A) (m:=DX k w) (v1:=Cq k w) (v2:=mkE (Dn k w)) (keep:=F5 k w) hv N [] (λe he=>by cases he);have h4:QM A k w (ofNat N)=onL ((List.range (DX k w)).filter (F5 k w)).length (okP (mkE (Dn k w))) (BW A (mkE (Dn k w))) (λ_=>true) N []:=by
  unfold QM onW;rw [hlen];rfl
 rw [h2,show onL (DX k w) (okP (Cq k w)) (BW A (Cq k w)) (F5 k w) N []=_ from h3,<- h4];refine ⟨?_,by rw [List.length_map]⟩;unfold Fb;rw [List.map_map];refine List.map_congr_left λd hd=>?_;rw [h4] at hd;have hin:=AhW (A:=A) (v2:=mkE (Dn k w)) (m:=((List.range (DX k w)).filter (F5 k w)).length) (keep:=λ_=>true) N [] d (λe he=>by cases he) hd;show (List.range (d.map (sg (DX k w) (F5 k w))).length).map (wE (Cq k w) (d.map (sg (DX k w) (F5 k w))))=(List.range d.length).map (wE (mkE (Dn k w)) d);rw [List.length_map];refine List.map_congr_left λi hi=>?_;have hi:=List.mem_range.1 hi;show Cq k w (wd (d.map (sg (DX k w) (F5 k w))) i)=mkE (Dn k w) (wd d i);rw [Ab9 _ hi,hv _ (hin _ (MM hi))]
end
end Go.Proofs.YtkbgidbledjejaaGreat.En
