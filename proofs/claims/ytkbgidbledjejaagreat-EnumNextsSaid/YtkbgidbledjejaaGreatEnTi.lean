/-
  Layer 6: the document's Next and Has: they are the program's. No conditions.
-/
import Derived.Test.YtkbgidbledjejaaGreatEnTf
import Derived.Test.YtkbgidbledjejaaGreatEnNa
import Derived.Test.YtkbgidbledjejaaGreatEnTb
import Derived.Test.YtkbgidbledjejaaGreatEnU
import Derived.Test.YtkbgidbledjejaaGreatEnE
namespace Go.Proofs.YtkbgidbledjejaaGreat.EnF
open Go.Sy Go Go.Proofs.YtkbgidbledjejaaGreat.En Go.Proofs.YtkbgidbledjejaaGreat.Ed
open Int (ofNat)
set_option maxRecDepth 100000
def AjV (p:V×List Blk):A2:=match p.1 with
 | .tup [.mref id i,.val x]=>(Iv ⟨[],p.2⟩ id i).bind λst1=>.leaf (.tup [.ref p.2.length,.val x],st1.h)
 | _=>.leaf p
theorem Agx {P:Program} {G:Nat->V} {f:FuncId} {E:List V->List Blk->A2} (h:E4 P G f E):E4 P G f λvs hp=>(E vs hp).bind AjV :=
 ⟨h.1,λvs cs κ S hp w v h' h1 h2 h3 h4=>by
  obtain ⟨⟨v1,hp1⟩,q1,q2⟩:=Ad h4;unfold AjV at q2;simp only at q2;split at q2
  ·rename_i id i x
   obtain ⟨st1,q3,q4⟩:=Ad q2;have:=Aa q4;simp only [Prod.mk.injEq] at this;obtain ⟨rfl,rfl⟩:=this;refine (h.2 vs cs κ S hp w _ hp1 h1 h2 h3 q1).mono ?_
   rintro e w' ⟨c,κ',S',rfl,g1,g2,g3⟩
   obtain ⟨ca,rfl,c1,l1,rfl,k1,c2,l2,rfl,k2,k3⟩:=g2;obtain ⟨κ2,j,_,_,_,r1,_,r3,r4,_⟩:=Iu (st:=⟨[],hp1⟩) g1 (l:=[]) rfl k1 q3;exact ⟨_,κ2,S',rfl,r1,⟨_,rfl,_,_,rfl,r4,_,_,rfl,k2,k3⟩,g3.trans r3⟩
  ·cases Aa q2
   exact h.2 vs cs κ S hp w _ _ h1 h2 h3 q1⟩
def Aki:List V->A2:=NI λz d=>.br (BG z) (.leaf (bV (By z d),[])) .fail
noncomputable def AlP:AH:=[(52,U3)]
theorem AfC:Ao Tryz.prog Gl AlP:=.cons Ed.p103 .nil
theorem p64:As Tryz.prog Gl 64 Aki:=by
 refine Ah Az mixed Tryz.func64 (by kernel_rfl) (by kernel_rfl) λvs v h' h=>?_;obtain ⟨z,d,ha,h⟩:=CH h;obtain ⟨hz,h⟩:=Ab h;cases Aa h;have hx:=Ba AfC [] (G:=Gl);refine ⟨[Am z d],cxA Gl AlP [],_,ha,rfl,hx.1,hx.2,?_,Au.refl _⟩;cases h1:By z d with
 | true=>exact DW.ok (.k (eL z) <| .k hz <| .k h1 <| .l) (by kernel_rfl)
 | false=>exact DW.ok (.k (eL z) <| .k hz <| .k h1 <| .l) (by kernel_rfl)
noncomputable def Ajh:AH:=[(34,P9),(35,Ll),(64,Aki),(20,XM)]
theorem AfV:Ao Tryz.prog Gl Ajh:=.cons AjU <| .cons p35 <| .cons p64 <| .cons p20 .nil
noncomputable def F29 (vs:List V):A2:=AK ((Ar tab (cxA Gl Ajh []) Tryz.f29 vs []).bind AjV)
theorem Aph:As Tryz.prog Gl 29 F29:=by
 have hx:=Ba AfV [] (G:=Gl);exact (Agx (GF (P:=Tryz.prog) Az (Γ:=cxA Gl Ajh []) mixed hx.1 hx.2 Tryz.func29 (by kernel_rfl) (by kernel_rfl))).pure
def AkX (z:Nat) (d:Nat->E6) (r:List E6):Bool:=ilt 0 (EG r.length (λi=>r.getD i Bv) z d)
theorem Ahv (v:Nat->E6) (z:Nat) (d:Nat->E6) (e:List Nat):AkX z d ((List.range e.length).map (wE v e))=MG v z d e:=by
 unfold AkX MG;rw [List.length_map,List.length_range,KY (f':=wE v e) λi hi=>by rw [Xm v e hi]; rfl]
theorem SO (v:Nat->E6) (z:Nat) (d:Nat->E6) (D:List (List Nat)):(Fb v D).find? (AkX z d)=(D.find? (MG v z d)).map λe=>(List.range e.length).map (wE v e):=by
 unfold Fb;rw [List.find?_map];congr 1;congr 1;funext e;exact Ahv v z d e
theorem XN (A:Int) (k:Nat) (w:Nat->E6) (n:Int) (z:Nat) (d:Nat->E6):O0 A k w n z d=(QM A k w n).filter (MG (mkE (Dn k w)) z d):=by
 unfold O0 QM onF onW;rw [TM (λ_ _ _ _=>rfl),TM (λ_ _ _ _=>rfl),List.filter_filter];congr 1;funext r;exact Bool.and_comm _ _
theorem AgZ {A:Int} {k:Nat} {w:Nat->E6} {n:Int} {z:Nat} {d:Nat->E6} (h1:ieq (Dt A k w n) 0=true) (h4:FT k w n=false):Kt A k w n z d 1=(match Nj A k w n z d with | some e=>[(List.range e.length).map (wE (Cq k w) e)] | none=>[]):=by
 obtain ⟨g1,g2,g3,g4⟩:=Na h1;have g2':¬ n<2:=of_decide_eq_false g2;obtain ⟨N,rfl⟩:∃ N:Nat,n=ofNat N:=⟨n.toNat,(Int.toNat_of_nonneg (by omega)).symm⟩;have hN:0<N:=by simp only [Int.ofNat_eq_natCast] at *; omega
 have hs:=(Ae0 (A:=A) g1 hN).1;have hf:=SO (Cq k w) z d (Ih A k w (ofNat N));rw [hs,SO] at hf;unfold Kt;rw [h1,h4];show Fb _ ((O0 A k w (ofNat N) z d).take 1)=_;rw [XN];have ht:∀ l:List (List Nat),l.take 1=l.head?.toList:=λl=>by cases l <;> rfl
 rw [ht,List.head?_filter];unfold Nj;cases h5:(QM A k w (ofNat N)).find? (MG (mkE (Dn k w)) z d) with
 | none =>
  rw [h5] at hf;cases h6:(Ih A k w (ofNat N)).find? (MG (Cq k w) z d) with
  | none=>rfl
  | some e=>rw [h6] at hf; cases hf
 | some e2 =>
  rw [h5] at hf;cases h6:(Ih A k w (ofNat N)).find? (MG (Cq k w) z d) with
  | none=>rw [h6] at hf; cases hf
  | some e =>rw [h6] at hf;have hf:=Option.some.inj hf;exact congrArg (λr=>[r]) hf
theorem p29:As Tryz.prog Gl 29 S5:=by
 refine LH Aph λvs u h' h=>?_;unfold S5 at h;split at h
 rotate_left
 ·cases h
 rename_i A u0 n c;obtain ⟨k,w,ha,h⟩:=AQ h;obtain ⟨z,d,hb,h⟩:=AQ h;obtain ⟨hz,h⟩:=Ab h;cases Aa h;have hv:B0 [iV A,u0,iV n,c] [iV A,Am k w,iV n,Am z d]:=λS W cs hq=>by
  obtain ⟨c,l,rfl,q1,c2,l2,rfl,q2,c3,l3,rfl,q3,c4,l4,rfl,q4,q5⟩:=hq;exact ⟨c,_,rfl,q1,c2,_,rfl,ha S W c2 q2,c3,_,rfl,q3,c4,_,rfl,hb S W c4 q4,q5⟩
 cases h1:ieq (Dt A k w n) 0 with
 | false =>
  have he:Cv A k w n z d=Dt A k w n:=by unfold Cv; rw [h1]; rfl
  have hr:C7 A k w n z d=[]:=by unfold C7; rw [he,h1]; rfl
  rw [he];exact ⟨_,_,hv,DW.ok (.k (eL k) <| .k (eN h1) <| .l) (by kernel_rfl),Hq hr⟩
 | true =>
  cases h3:By z d with
  | false =>
   have he:Cv A k w n z d=30:=by unfold Cv; rw [h1,h3]; rfl
   have hr:C7 A k w n z d=[]:=by unfold C7; rw [he]; rfl
   rw [he];exact ⟨_,_,hv,DW.ok (.k (eL k) <| .k (eN h1) <| .k (eL z) <| .k hz <| .k (eN h3) <| .l) (by kernel_rfl),Hq hr⟩
  | true =>
   have hG:=WG h1;cases h4:FT k w n with
   | true =>
    have he:Cv A k w n z d=3:=by unfold Cv; rw [h1,h3,h4]; rfl
    have hr:C7 A k w n z d=[]:=by unfold C7; rw [he]; rfl
    rw [he];exact ⟨_,_,hv,DW.ok (.k (eL k) <| .k (eN h1) <| .k (eL z) <| .k hz <| .k (eN h3) <| .k (eL k) <| .k hG <| .k h4 <| .l) (by kernel_rfl),Hq hr⟩
   | false =>
    have hf:=AgZ (z:=z) (d:=d) h1 h4;have heq:Cv A k w n z d=(match Nj A k w n z d with | some _=>0 | none=>4):=by unfold Cv; rw [h1,h3,h4]; rfl
    have c1:ile 0 1=true:=rfl;have c2:ile 1 65536=true:=rfl;cases hq:Nj A k w n z d with
    | none =>
     have he:Cv A k w n z d=4:=by rw [heq,hq]
     have hr0:C7 A k w n z d=[]:=by unfold C7; rw [he]; rfl
     have hl:ieq (ofNat (Kt A k w n z d 1).length) 0=true:=by rw [hf,hq]; rfl
     rw [he];exact ⟨_,_,hv,DW.ok (.k (eL k) <| .k (eN h1) <| .k (eL z) <| .k hz <| .k (eN h3) <| .k (eL k) <| .k hG <| .k h4 <| .k (eL k) <| .k (eL z) <| .k hz <| .k c1 <| .k c2 <| .k hl <| .l) (by kernel_rfl),Hq hr0⟩
    | some e =>
     have he:Cv A k w n z d=0:=by rw [heq,hq]
     have hr0:C7 A k w n z d=(Kt A k w n z d 1).getD 0 []:=by unfold C7; rw [he,hq,hf,hq]; rfl
     have hl:ieq (ofNat (Kt A k w n z d 1).length) 0=false:=by rw [hf,hq]; rfl
     have b1:Av (ile 0 0) (ilt 0 (ofNat (Kt A k w n z d 1).length))=true:=by rw [hf,hq]; rfl
     have b2:nlt 0 (Kt A k w n z d 1).length=true:=by rw [hf,hq]; rfl
     rw [he,hr0];exact ⟨_,[.row 46 6 ((Kt A k w n z d 1).getD 0 []).length λt=>eV (((Kt A k w n z d 1).getD 0 []).getD t Bv)],hv,DW.ok (.k (eL k) <| .k (eN h1) <| .k (eL z) <| .k hz <| .k (eN h3) <| .k (eL k) <| .k hG <| .k h4 <| .k (eL k) <| .k (eL z) <| .k hz <| .k c1 <| .k c2 <| .k hl <| .k b1 <| .k b2 <| .r 2 eT <| .l) (by kernel_rfl),Au.refl _⟩
end Go.Proofs.YtkbgidbledjejaaGreat.EnF
namespace Go.Proofs.YtkbgidbledjejaaGreat.EnF
open Go.Sy Go Go.Proofs.YtkbgidbledjejaaGreat.En Go.Proofs.YtkbgidbledjejaaGreat.Ed
open Int (ofNat)
set_option maxRecDepth 100000
noncomputable def AlZ:AH:=[(34,P9),(64,Aki),(22,Wz),(65,En.leastT)]
theorem AfU:Ao Tryz.prog Gl AlZ:=.cons AjU <| .cons p64 <| .cons p49 <| .cons Ana .nil
def Ad2:Lp:=⟨bmK 72 0 [0,1,2,3,8,9,13],0,bmK 72 0 [8,9],0,4611686018427387905⟩
def X8:Lp:=⟨bmK 72 0 [0,1,2,3,8,9,13,14,15],0,bmK 72 0 [0,1,2,3,8,9,13,14],0,4611686018427387905⟩
def Ans:List (Nat×Lp×List (Nat×(Nat->V))):=[(0,Ad2,[]),(2,X8,[])]
noncomputable abbrev Aoa:Cx:=cxA Gl AlZ Ans
noncomputable def B30 (id:Nat):St->T (Ex×St):=λst=>A8 tab Aoa (A0 Tryz.f30 id) id st
section
variable (A n:Int) (k:Nat) (w:Nat->E6) (z:Nat) (d:Nat->E6)
def S30 (l:List (Nat×V)) (q:Int):St:=⟨jsV 72 0 Ac ([(0,iV A),(1,Am k w),(2,iV n),(3,Am z d),(8,bV false),(9,iV 0),(13,iV q)]++l),[]⟩
variable {A n k w z d} (hk:k <= 4611686018427387904)
include hk
theorem AcL {q:Nat} (hq:q<z):∀ (e b:Nat) (t:Bool) (M:Nat),k=b+e->e<M->(Ax (B30 2) X8 M (S30 A n k w z d [(14,bV t),(15,nV b)] (ofNat q))).sem=some (.ex 2,S30 A n k w z d [(14,bV (bor t (Kw w (d q) e b)))] (ofNat q))
 | 0,b,t,M,h,hM=>by
  obtain ⟨M,rfl⟩:∃ o,M=o+1:=⟨M-1,by omega⟩;rw [show bor t (Kw w (d q) 0 b)=t by cases t <;> rfl];exact Ae (t:=some (.ex 2,_)) (DW.rd (.r 3 (A4 (i:=b) (n:=k) (by omega)) <| .k eF <| .l) (by kernel_rfl))
 | e+1,b,t,M,h,hM=>by
  obtain ⟨M,rfl⟩:∃ o,M=o+1:=⟨M-1,by omega⟩;have hb:b<k:=by omega
  cases t with
  | true=>exact Ae (t:=some (.ex 2,_)) (DW.rd (.r 3 (ofNat_lt hb) <| .k (eN eT) <| .l) (by kernel_rfl))
  | false =>
   have hr:Ap (B30 2) X8 (S30 A n k w z d [(14,bV false),(15,nV b)] (ofNat q))=some (.nm,S30 A n k w z d [(14,bV (eqE (w b) (d q))),(15,iV (ofNat (b+1)))] (ofNat q)):=DW.rd (.r 3 (ofNat_lt hb) <| .k (eN eF) <| .k (Af hb) <| .k (Af hq) <| .e (nm1 (f:=λy=>S30 A n k w z d [(14,bV (eqE (w b) (d q))),(15,iV y)] (ofNat q)) (Cu (by omega)))) (by kernel_rfl)
   rw [Ae hr,AN];exact AcL hq e (b+1) (eqE (w b) (d q)) M (by omega) (by omega)
theorem AdT (e:E6):Ib k w e=Kw w e k 0:=by
 have _:=hk;rw [Bool.eq_iff_iff,Rc];unfold Ib;cases h:A1 (eqQ w e) k 0 with
 | none =>
  have:=Ei.1 h;constructor
  ·intro h; cases h
  ·rintro ⟨j,h1,h2,h3⟩
   have:=this j h1 h2;rw [show eqQ w e j=true from (Dd _ _).2 h3.symm] at this;cases this
 | some t =>have:=Eh h;exact ⟨λ_=>⟨t,this.1,this.2.1,((Dd _ _).1 this.2.2).symm⟩,λ_=>rfl⟩
theorem r30 {i:Nat} (hi:i<z) (hz:z <= 4611686018427387904) (h:Ib k w (d i)=true):Ap (B30 0) Ad2 (S30 A n k w z d [] (ofNat i))=some (.nm,S30 A n k w z d [] (ofNat (i+1))):=by
 have h2:=AcL (A:=A) (n:=n) (w:=w) (d:=d) hk hi k 0 false 4611686018427387905 (by omega) (by omega);rw [AdT hk] at h;rw [h] at h2;exact DW.rd (.k (ofNat_lt hi) <| .a h2 <| .k (eN eT) <| .e (nm1 (f:=λy=>S30 A n k w z d [] y) (Cu (by omega)))) (by kernel_rfl)
theorem AjP {i:Nat} (hi:i<z) (h:Ib k w (d i)=false):Ap (B30 0) Ad2 (S30 A n k w z d [] (ofNat i))=some (.rt,⟨jsV 72 0 Ac [(8,bV false),(9,iV 0)],[]⟩):=by
 have h2:=AcL (A:=A) (n:=n) (w:=w) (d:=d) hk hi k 0 false 4611686018427387905 (by omega) (by omega);rw [AdT hk] at h;rw [h] at h2;exact DW.rd (.k (ofNat_lt hi) <| .a h2 <| .k (eN eF) <| .l) (by kernel_rfl)
end
theorem XD {k:Nat} {f:Nat->E6} (hm:By k f=true):DJ k f=EB k (λi=>JB k f i) k f:=by
 unfold DJ;rw [hm];show EB k f k (λi=>BR k f (ofNat (Ed.refL k λk=>Al (f k))) i)=_;rw [Bool.eq_iff_iff,CM,CM];have hc:=OS hm (l:=f) (λ_ _=>rfl);exact ⟨λh=>⟨rfl,λi hi=>(hc i hi).trans (h.2 i hi).symm⟩,λh=>⟨rfl,λi hi=>(h.2 i hi).symm.trans (hc i hi)⟩⟩
theorem p30:As Tryz.prog Gl 30 Qw:=by
 refine Ah Az mixed Tryz.func30 (by kernel_rfl) (by kernel_rfl) λvs v h' h=>?_;unfold Qw at h;split at h
 rotate_left
 ·cases h
 rename_i A u n c;obtain ⟨k,w,ha,h⟩:=AQ h;obtain ⟨m,d,hb,h⟩:=AQ h;obtain ⟨hk,h⟩:=Ab h;obtain ⟨hf,h⟩:=Ab h;cases Aa h;have hk':k <= 4611686018427387904:=of_decide_eq_true hk;have hf':m * 40 <= 140737488355328:=of_decide_eq_true hf;have hx:=Ba AfU Ans (G:=Gl);refine ⟨[iV A,Am k w,iV n,Am m d],Aoa,_,λS W cs hq=>by
  obtain ⟨c,l,rfl,q1,c2,l2,rfl,q2,c3,l3,rfl,q3,c4,l4,rfl,q4,q5⟩:=hq;exact ⟨c,_,rfl,q1,c2,_,rfl,ha S W c2 q2,c3,_,rfl,q3,c4,_,rfl,hb S W c4 q4,q5⟩,rfl,hx.1,hx.2,?_,Au.refl _⟩
 unfold K8 Md;cases h1:ieq (Dt A k w n) 0 with
 | false=>exact DW.ok (.k (eL k) <| .k (eN h1) <| .l) (by kernel_rfl)
 | true =>
  cases h2:By m d with
  | false=>exact DW.ok (.k (eL k) <| .k (eN h1) <| .k (eL m) <| .k hf <| .k (eN h2) <| .l) (by kernel_rfl)
  | true =>
   rw [<- XD h2];cases h4:ieq (Ft A m d).1 0 with
   | false=>cases CQ m λi=>Ib k w (d i) <;> exact DW.ok (.k (eL k) <| .k (eN h1) <| .k (eL m) <| .k hf <| .k (eN h2) <| .k (eL m) <| .k hf <| .r 5 (eN h4) <| .r 5 eT <| .l) (by kernel_rfl)
   | true =>
    cases h5:ile (ofNat m) n with
    | false =>have h5':ilt n (ofNat m)=true:=decide_eq_true (by have:=of_decide_eq_false h5; omega);cases CQ m λi=>Ib k w (d i) <;> exact DW.ok (.k (eL k) <| .k (eN h1) <| .k (eL m) <| .k hf <| .k (eN h2) <| .k (eL m) <| .k hf <| .r 5 (eN h4) <| .r 4 h5' <| .k eT <| .l) (by kernel_rfl)
    | true =>
     have h5':ilt n (ofNat m)=false:=decide_eq_false (by have:=of_decide_eq_true h5; omega);cases h6:DJ m d with
     | false=>cases CQ m λi=>Ib k w (d i) <;> exact DW.ok (.k (eL k) <| .k (eN h1) <| .k (eL m) <| .k hf <| .k (eN h2) <| .k (eL m) <| .k hf <| .r 5 (eN h4) <| .r 2 h5' <| .k (eL m) <| .k hf <| .r 2 h5' <| .k (eN h6) <| .l) (by kernel_rfl)
     | true =>
      cases h3:CQ m λi=>Ib k w (d i) with
      | true =>
       have hr:=Cj (S:=λi=>S30 A n k w m d [] (ofNat i)) (m:=m) (q:=4611686018427387905) (f:=B30 0) (lp:=Ad2) (x:=(.ex 0,⟨jsV 72 0 Ac [(8,bV false),(9,iV 0)],[]⟩)) (λh=>by cases h) (λi hi=>r30 hk' hi (by omega) (Bd.1 h3 i hi)) (DW.rd (.k (A4 (Nat.le_refl m)) <| .l) (by kernel_rfl)) (by omega)
       exact DW.ok (.k (eL k) <| .k (eN h1) <| .k (eL m) <| .k hf <| .k (eN h2) <| .k (eL m) <| .k hf <| .r 5 (eN h4) <| .r 2 h5' <| .k (eL m) <| .k hf <| .r 2 h5' <| .k (eN h6) <| .a hr <| .l) (by kernel_rfl)
      | false =>obtain ⟨e,e1,e2,e3⟩:=Mk _ _ h3;have hr:=Cj (S:=λi=>S30 A n k w m d [] (ofNat i)) (m:=e) (q:=4611686018427387905) (f:=B30 0) (lp:=Ad2) (λh=>by cases h) (λi hi=>r30 hk' (by omega) (by omega) (e3 i hi)) (AjP hk' e1 e2) (by omega);exact DW.ok (.k (eL k) <| .k (eN h1) <| .k (eL m) <| .k hf <| .k (eN h2) <| .k (eL m) <| .k hf <| .r 5 (eN h4) <| .r 2 h5' <| .k (eL m) <| .k hf <| .r 2 h5' <| .k (eN h6) <| .a hr <| .l) (by kernel_rfl)
end Go.Proofs.YtkbgidbledjejaaGreat.EnF
namespace Go.Proofs.YtkbgidbledjejaaGreat.En
open Go.Sy Go Go.Proofs.YtkbgidbledjejaaGreat.Ed
set_option maxRecDepth 100000
theorem AbG {m:Nat} {fits opn:List Nat->Bool}:∀ k r d,d ∈ Gg m fits opn k r->d.length <= r.length+k
 | 0,r,d,h=>by cases List.mem_singleton.1 h; omega
 | k+1,r,d,h=>by
  rcases List.mem_cons.1 h with h | h
  ·subst h; omega
  ·cases hq:(fits r && opn r) with
   | false=>rw [hq] at h; cases h
   | true =>rw [hq] at h;obtain ⟨e,_,h⟩:=List.mem_flatMap.1 h;have:=AbG k (e::r) d h;rw [List.length_cons] at this;omega
end Go.Proofs.YtkbgidbledjejaaGreat.En
namespace Go.Proofs.YtkbgidbledjejaaGreat.En
open Go.Sy Go Go.Proofs.YtkbgidbledjejaaGreat.Ed
set_option maxRecDepth 100000
def jg3 (N:Nat) (l:Nat->Nat) (M:Nat->Nat->E6):Blk:=.jag ⟨22,1,N,λ_=>.und,0,46,6,λ_=>true,l,λi j=>eV (M i j),none⟩
def hp3 (k:Nat) (w:Nat->E6) (N N2 N3:Nat) (l l2 l3:Nat->Nat) (M x2 x3:Nat->Nat->E6):List Blk:=[.row 46 6 (Bh k 40) (λi=>eV (B2 k w i)),jg3 N l M,jg3 N2 l2 x2,jg3 N3 l3 x3]
end Go.Proofs.YtkbgidbledjejaaGreat.En
namespace Go.Proofs.YtkbgidbledjejaaGreat.EnF
open Go.Sy Go Go.Proofs.YtkbgidbledjejaaGreat.En Go.Proofs.YtkbgidbledjejaaGreat.Ed
set_option maxRecDepth 100000
theorem Nn {z:Nat} {d d':Nat->E6} (h:∀ i,i<z->d' i=d i):By z d'=By z d:=by
 rw [Bool.eq_iff_iff,Bw,Bw];exact ⟨λq i hi=>h i hi ▸ q i hi,λq i hi=>by rw [h i hi]; exact q i hi⟩
theorem Abh {n m:Nat} {f g g':Nat->E6} (h:∀ i,i<m->g' i=g i):EG n f m g'=EG n f m g:=by
 have hc:BH m g'=BH m g:=List.map_congr_left λi hi=>by rw [h i (List.mem_range.1 hi)]
 unfold EG;rw [Nn h,hc]
section
variable {A n:Int} {k:Nat} {w w':Nat->E6} {z:Nat} {d d':Nat->E6} (h:∀ i,i<k->w' i=w i) (g:∀ i,i<z->d' i=d i)
include h g
theorem X1:Cv A k w' n z d'=Cv A k w n z d∧C7 A k w' n z d'=C7 A k w n z d:=by
 have e1:DX k w'=DX k w:=by unfold DX; rw [Nz h]
 have e2:Cq k w'=Cq k w:=by unfold Cq; rw [Nz h,SG h]
 have e3:Nj A k w' n z d'=Nj A k w n z d:=by
  unfold Nj Ih;rw [e1,e2];exact congrArg (λp=>List.find? p _) (funext λe=>by unfold MG; rw [Abh g])
 have e4:Cv A k w' n z d'=Cv A k w n z d:=by unfold Cv; rw [PD h,WF h,Nn g,e3]
 exact ⟨e4,by unfold C7; rw [e4,e3,e2]⟩
theorem AaR:Md A n k z w' d'=Md A n k z w d∧K8 A n k z w' d'=K8 A n k z w d:=by
 have e1:(CQ z λi=>Ib k w' (d' i))=CQ z λi=>Ib k w (d i):=by
  have e:∀ i,i<z->Ib k w' (d' i)=Ib k w (d i):=λi hi=>by
   unfold Ib;rw [CP k 0 λj _ hj=>show eqQ w' (d' i) j=eqQ w (d i) j by unfold eqQ; rw [h j (by omega),g i hi]]
  rw [Bool.eq_iff_iff,Bd,Bd];exact ⟨λq i hi=>e i hi ▸ q i hi,λq i hi=>by rw [e i hi]; exact q i hi⟩
 have e2:EB z (λi=>JB z d' i) z d'=EB z (λi=>JB z d i) z d:=by
  rw [Bool.eq_iff_iff,CM,CM];exact ⟨λq=>⟨rfl,λi hi=>by rw [<- IS g hi,<- g i hi]; exact q.2 i hi⟩,λq=>⟨rfl,λi hi=>by rw [IS g hi,g i hi]; exact q.2 i hi⟩⟩
 unfold Md K8;rw [PD h,Nn g,e1,e2,QS g];exact ⟨rfl,rfl⟩
end
theorem Adh (A:Int) (k:Nat) (w:Nat->E6) (n:Int) (z:Nat) (d:Nat->E6):(C7 A k w n z d).length <= 16:=by
 unfold C7;cases h:ieq (Cv A k w n z d) 0 with
 | false=>exact Nat.zero_le _
 | true =>
  cases hd:Nj A k w n z d with
  | none=>exact Nat.zero_le _
  | some e =>
   have h1:ieq (Dt A k w n) 0=true:=by
    cases q:ieq (Dt A k w n) 0 with
    | true=>rfl
    | false=>unfold Cv at h; rw [q] at h; exact q.symm.trans h
   obtain ⟨g1,g2,g3,g4⟩:=Na h1;have g2':¬ n<2:=of_decide_eq_false g2;have g3':¬ 16<n:=of_decide_eq_false g3;have hm:=(List.mem_filter.1 (List.mem_of_find?_eq_some hd)).1;obtain ⟨e,_,hv⟩:=List.mem_flatMap.1 hm;have:=AbG _ _ _ hv;have hN:toN n <= 16:=by unfold toN; omega
   show ((List.range _).map _).length <= 16;rw [List.length_map,List.length_range];simp only [List.length_cons,List.length_nil] at this;omega
noncomputable def tb6:AH:=(8,Aim)::(28,S5)::(29,S5)::(27,Qw)::(30,Qw)::(21,P3)::(13,AdE)::(18,awT)::[]
noncomputable def mt6:List (Nat×(List V->List Blk->A2)):=(14,YV 46 6 Adp)::(15,SI 46 6 SJ)::(16,SI 46 6 SJ)::[]
theorem tb6_ok:Ao Tryz.prog Gl tb6:=.cons p47 <| .cons En.p28 <| .cons EnF.p29 <| .cons And <| .cons EnF.p30 <| .cons p42 <| .cons p50 <| .cons En.p18 .nil
theorem Akf:Lf Tryz.prog Gl mt6:=.cons m43 <| .cons m44 <| .cons m45 .nil
noncomputable abbrev cx6:Cx:=⟨AeH mt6 tb6,C6 [],Gl⟩
noncomputable abbrev nxN (A:Int) (k:Nat) (w:Nat->E6) (n:Int) (z:Nat) (d:Nat->E6):Nat:=(C7 A k w n z d).length
noncomputable abbrev nxM (A:Int) (k:Nat) (w:Nat->E6) (n:Int) (z:Nat) (d:Nat->E6) (t:Nat):E6:=(C7 A k w n z d).getD t Bv
noncomputable def law6T:List V->A2
 | [.val (.int .i64 _),u,.val (.int .i64 _),c]=>apL u λk _=>apL c λz _=>.br (BG (Bh k 60)) (.br (BG (Bh z 60)) (.leaf (bV true,[])) .fail) .fail
 | _=>.fail
theorem AlD (A n:Int) (k:Nat) (w:Nat->E6) (z:Nat) (d:Nat->E6) (hk:BG (Bh k 60)=true) (hz:BG (Bh z 60)=true):(AK (Ar tab cx6 Tryz.f6 [iV A,Am k w,iV n,Am z d] [])).sem=some (bV true,[]):=by
 have hk':(k+60) * 40 <= 140737488355328:=of_decide_eq_true hk;have hz':(z+60) * 40 <= 140737488355328:=of_decide_eq_true hz;have hsk:Cr k=true:=decide_eq_true (by omega);have hfz:BG z=true:=decide_eq_true (by omega);obtain ⟨c1,c2⟩:=X1 (A:=A) (n:=n) (w':=λi=>B2 k w i) (d':=λi=>B2 z d i) (λi hi=>LR (f:=w) hi) (λi hi=>LR (f:=d) hi);obtain ⟨c3,c4⟩:=AaR (A:=A) (n:=n) (w':=λi=>B2 k w i) (d':=λi=>B2 z d i) (λi hi=>LR (f:=w) hi) (λi hi=>LR (f:=d) hi);have h1:ieq (Cv A k (λi=>B2 k w i) n z (λi=>B2 z d i)) (Cv A k w n z d)=true:=by rw [c1]; exact eI _
 have h2:ieq (Md A n k z (λi=>B2 k w i) (λi=>B2 z d i)) (Md A n k z w d)=true:=by rw [c3]; exact eI _
 have h3:JD (K8 A n k z (λi=>B2 k w i) (λi=>B2 z d i)) (K8 A n k z w d)=true:=by rw [c4]; cases K8 A n k z w d <;> rfl
 have h4:EB (nxN A k (λi=>B2 k w i) n z (λi=>B2 z d i)) (λi=>nxM A k (λi=>B2 k w i) n z (λi=>B2 z d i) i) (nxN A k w n z d) (λi=>nxM A k w n z d i)=true:=by
  unfold nxN nxM;rw [c2];exact Xh _ _
 have hr:=Adh A k (λi=>B2 k w i) n z (λi=>B2 z d i);have hs:Cr (nxN A k (λi=>B2 k w i) n z (λi=>B2 z d i))=true:=decide_eq_true (by show _ <= (4611686018427387904:Nat); exact Nat.le_trans hr (by omega));have ha:Ci (nxN A k (λi=>B2 k w i) n z (λi=>B2 z d i)) 60 40=true:=decide_eq_true (by show ((C7 A k (λi=>B2 k w i) n z λi=>B2 z d i).length+60) * 40 <= (140737488355328:Nat); omega);exact DW.ok (.k (eL k) <| .k hk <| .k (eL z) <| .k hz <| .k (eL k) <| .k (eL z) <| .k hfz <| .k (rbE (nxN A k (λi=>B2 k w i) n z (λi=>B2 z d i)) λt=>nxM A k (λi=>B2 k w i) n z (λi=>B2 z d i) t) <| .k (eL k) <| .k (eL z) <| .k hfz <| .k (rbE (nxN A k (λi=>B2 k w i) n z (λi=>B2 z d i)) λt=>nxM A k (λi=>B2 k w i) n z (λi=>B2 z d i) t) <| .k (eL k) <| .k (eL z) <| .k hfz <| .k (eL k) <| .k (eL z) <| .k hsk <| .k hfz <| .k (eL k) <| .k (eL z) <| .k hsk <| .k hfz <| .r 4 (eN h1) <| .r 4 (eN h2) <| .r 3 (eN h3) <| .k (eL (nxN A k (λi=>B2 k w i) n z (λi=>B2 z d i))) <| .k (eL (nxN A k w n z d)) <| .k hs <| .r 2 (eN h3) <| .r 3 (eN h4) <| .k (eL (Bh k 40)) <| .k (eL k) <| .k hk <| .k (Kh k w) <| .r 2 (eN h4) <| .r 3 (eN eT) <| .k (eL (Bh z 40)) <| .k (eL z) <| .k hz <| .k (Kh z d) <| .r 3 (eN eT) <| .k hs <| .k (eL (nxN A k (λi=>B2 k w i) n z (λi=>B2 z d i))) <| .r 2 ha <| .k (eL (nxN A k (λi=>B2 k w i) n z (λi=>B2 z d i))) <| .k (eL (nxN A k w n z d)) <| .k hs <| .r 3 h4 <| .k (eL (Bh k 40)) <| .k (eL k) <| .k hk <| .k (Kh k w) <| .k h4 <| .r 3 eT <| .k (eL (Bh z 40)) <| .k (eL z) <| .k hz <| .k (Kh z d) <| .r 3 eT <| .l) (by kernel_rfl)
theorem p6:As Tryz.prog Gl 6 law6T:=by
 refine Ah Az mixed Tryz.func6 (by kernel_rfl) (by kernel_rfl) λvs r h' h=>?_;unfold law6T at h;split at h
 rotate_left
 ·cases h
 rename_i A u n c;obtain ⟨k,w,hu,h⟩:=AQ h;obtain ⟨z,d,hc,h⟩:=AQ h;obtain ⟨hk,h⟩:=Ab h;obtain ⟨hz,h⟩:=Ab h;cases Aa h;refine ⟨[iV A,Am k w,iV n,Am z d],cx6,_,λS W cs hq=>by
  obtain ⟨c,l,rfl,q1,c2,l2,rfl,q2,c3,l3,rfl,q3,c4,l4,rfl,q4,q5⟩:=hq;exact ⟨c,_,rfl,q1,c2,_,rfl,hu S W c2 q2,c3,_,rfl,q3,c4,_,rfl,hc S W c4 q4,q5⟩,rfl,AeG rfl Akf tb6_ok,MD _ _ _,AlD A n k w z d hk hz,Au.refl _⟩
end Go.Proofs.YtkbgidbledjejaaGreat.EnF
