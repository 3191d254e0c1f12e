/-
  Layer 6: the program's Next: the first cycle behind a list. No conditions.
-/
import Derived.Test.YtkbgidbledjejaaGreatEnT
import Derived.Test.YtkbgidbledjejaaGreatEdO
import Derived.Test.YtkbgidbledjejaaGreatCyYp
import Derived.Test.YtkbgidbledjejaaGreatEnFr
namespace Go.Proofs.YtkbgidbledjejaaGreat.En
open Go.Sy Go Go.Proofs.YtkbgidbledjejaaGreat.Ed
open Int (ofNat)
set_option maxRecDepth 100000
noncomputable def AjI:RngCode:=match Tryz.f28.body with
 | some c=>match rcd c with
  | some c=>c
  | none=>⟨#[],.skip,.skip⟩
 | none=>⟨#[],.skip,.skip⟩
noncomputable def Z5 (A n:Int) (k:Nat) (w:Nat->E6) (z:Nat) (d:Nat->E6):List V:=(jsV 47 0 (λ_=>A7) [(0,iV A),(1,.sl 6 k (λi=>eV (w i))),(2,iV n),(3,.sl 6 z (λi=>eV (d i))),(7,.ptr 0 0),(8,.ptr 1 0),(9,.ptr 2 0),(10,iV (Dl A k w n)),(11,iV (Ge z d 0 (λ_=>Ba))),(12,iV (Ms z d 0 (λ_=>Ba))),(16,iV A),(17,.sl 6 k (λi=>eV (w i))),(18,iV n),(19,iV (Dl A k w n)),(20,iV (Dl A k w n)),(21,bV (AI (ieq (Dl A k w n) 0))),(23,.tup [iV (Ge z d 0 (λ_=>Ba)),iV (Ms z d 0 (λ_=>Ba))]),(24,.sl 6 z (λi=>eV (d i))),(25,.tup [iV (Ge z d 0 (λ_=>Ba)),iV (Ms z d 0 (λ_=>Ba))]),(26,iV (Ge z d 0 (λ_=>Ba))),(27,iV (Ms z d 0 (λ_=>Ba))),(28,iV (Ms z d 0 (λ_=>Ba))),(29,bV (AI (ieq (Ms z d 0 (λ_=>Ba)) 0))),(30,.sl 6 k (λi=>eV (w i))),(31,iV n),(32,bV (Gv k w n)),(33,iV A),(34,.sl 6 k (λi=>eV (w i))),(35,iV n),(36,.fn 41 [.ptr 3 0,.ptr 6 0,.ptr 4 0])])
noncomputable def AkQ:AD:=(32,Tm)::(33,NA)::(63,AdY)::[]
theorem Afh:Al Tryz.prog Gl AkQ:=.cons Af1 <| .cons p33 <| .cons Ed.p38 <| .nil
noncomputable abbrev AdP:Cx:=⟨My [(19,E19)] (A9 AkQ),C3 [],Gl⟩
def AfG:Lp:=⟨bmK 27 0 [0,5],13,bmK 27 0 [],21,10000000000000000000000000000000000000000000000000000⟩
noncomputable abbrev Wa:Cx:=⟨My [(42,QI E42),(43,QI E43)] (A9 tb41),C3 [(0,AfG,[(10,λ_=>iV 0)])],Gl⟩
noncomputable abbrev AjV:Rg:=rgI [] (AbW tab AdP rN)
noncomputable def Ang:List V->List Blk->A3:=Nt tab Wa AjV Tryz.f41
noncomputable abbrev R28:Rg:=rgI [(41,Ang)] Y1
noncomputable def F28 (vs:List V):A3:=AM (Nt tab AdP R28 Tryz.f28 vs [])
noncomputable def B28:St->T (Ex×St):=λst=>Gy tab Wa AjV none (A1 Tryz.f41 0) 0 st
def Anu:List V:=jsV 27 0 Ac [(0,.ref 7),(5,.ptr 11 0)]
noncomputable def S28 (A n:Int) (k:Nat) (w:Nat->E6) (z:Nat) (d:Nat->E6) (m:Nat) (v:Nat->E6) (L:Nat) (x:Nat->Int) (hs:Key->Bool) (gt:Key->V):St:=⟨Anu,[.cells [Ao z d],.cells [.nilS],.cells [iV 0],.cells [iV A],.cells [iV n],.row 46 6 k (λi=>eV (w i)),.cells [.und],.rng AjI (Z5 A n k w z d) .ready,.saved (.ref 7::Z5 A n k w z d),.row 46 6 m (λi=>eV (v i)),.row 3 1 L (λi=>iV (x i)),.cells [iV A,iV n,.ref 9,.ref 10],.gmap 86 [] hs gt]⟩
noncomputable def Ano (A n:Int) (k:Nat) (w:Nat->E6) (z:Nat) (d:Nat->E6) (m:Nat) (v:Nat->E6) (L:Nat) (x:Nat->Int) (hs:Key->Bool) (gt:Key->V):Ex×St:=(.ex 0,⟨ZW,[.cells [Ao z d],.cells [.nilS],.cells [iV 0],.cells [iV A],.cells [iV n],.row 46 6 k (λi=>eV (w i)),.cells [.und],.rng AjI (Z5 A n k w z d) .ready,.saved (.ref 7::Z5 A n k w z d),.row 46 6 m (λi=>eV (v i)),.row 3 1 L (λi=>iV (x i)),.cells [iV A,iV n,.ref 9,.ref 10],.gmap 86 [] hs gt]⟩)
noncomputable def Anp (A n:Int) (k:Nat) (w:Nat->E6) (z:Nat) (d:Nat->E6) (m:Nat) (v:Nat->E6) (L:Nat) (x:Nat->Int) (hs:Key->Bool) (gt:Key->V):Ex×St:=(.rt,⟨ZW,[.cells [Ao z d],.cells [.ref 13],.cells [iV 0],.cells [iV A],.cells [iV n],.row 46 6 k (λi=>eV (w i)),.cells [.und],.rng AjI (Z5 A n k w z d) (.done .rt),.saved (.ref 7::Z5 A n k w z d),.row 46 6 m (λi=>eV (v i)),.row 3 1 L (λi=>iV (x i)),.cells [iV A,iV n,.ref 9,.ref 10],.gmap 86 [] hs gt,.row 46 6 L (λk=>eV (v (toN (x k)))),.dead]⟩)
theorem Aef:AY Tryz.prog AdP.base:=Io (.cons AlK .nil) (Ek rfl Afh)
theorem Ago:AY Tryz.prog Wa.base:=Io (.cons AlI (.cons p43 .nil)) (Ek rfl tb41_ok)
theorem AnG:EG Tryz.prog Gl 41 Ang :=
 Kh (P:=Tryz.prog) A0 (Γ:=Wa) (R:=AjV) mixed Ago (N2 _ _ _) (AbX A0 mixed (Γ:=AdP) (Γ':=Wa) (R:=rN) rfl Aef (N2 _ _ _) (Po .nil) .nil) Tryz.func41 (by kernel_rfl) (by kernel_rfl)
theorem AnM:Ar Tryz.prog Gl 28 F28 :=
 (Kh (P:=Tryz.prog) A0 (Γ:=AdP) (R:=R28) mixed Aef (N2 _ _ _) (Po (.cons AnG .nil)) Tryz.func28 (by kernel_rfl) (by kernel_rfl)).pure
theorem XL {n m:Nat} {f f' g:Nat->E6} (h:∀ i,i<n->f i=f' i):Ge n f m g=Ge n f' m g:=by
 have hm:Bv n f=Bv n f':=by
  rw [Bool.eq_iff_iff,Bh,Bh];exact ⟨λq i hi=>h i hi ▸ q i hi,λq i hi=>by rw [h i hi]; exact q i hi⟩
 have hc:Bt n f=Bt n f':=List.map_congr_left λi hi=>by rw [h i (List.mem_range.1 hi)]
 unfold Ge;rw [hm,hc]
def XY (v:Nat->E6) (z:Nat) (d:Nat->E6) (e:List Nat):Bool:=ilt 0 (Ge e.length (wE v e) z d)
section
variable {A n:Int} {k:Nat} {w:Nat->E6} {z:Nat} {d:Nat->E6} {m N:Nat} {v:Nat->E6} {hs:Key->Bool} {gt:Key->V}
theorem AcT (hz:BZ z=true) (hN:N <= 16) (hm:m <= 112):∀ (ds:List (List Nat)) (L:Nat) (x:Nat->Int) (M:Nat),Rem A n m v N ds L x->ds.length<M ->
  (ds.find? (XY v z d)=none∧∃ L' x',(Ay B28 AfG M (S28 A n k w z d m v L x hs gt)).sem=some (Ano A n k w z d m v L' x' hs gt)) ∨ ∃ e L' x',ds.find? (XY v z d)=some e∧Rep e L' x'∧(Ay B28 AfG M (S28 A n k w z d m v L x hs gt)).sem=some (Anp A n k w z d m v L' x' hs gt)
 | [],L,x,M,hR,hM=>by
  obtain ⟨M,rfl⟩:∃ o,M=o+1:=⟨M-1,by omega⟩;obtain ⟨x',hE⟩:=hR;exact .inl ⟨rfl,0,x',Ae (t:=some (.ex 0,_)) (DW.rd (.a (CS hE) <| .k eF <| .l) (by kernel_rfl))⟩
 | e::ds,L,x,M,hR,hM=>by
  obtain ⟨M,rfl⟩:∃ o,M=o+1:=⟨M-1,by omega⟩;obtain ⟨L2,x2,hE,hr,hi,hR⟩:=hR;have hL:=hr.len;have hle:=hi.le;have hsr:=hr.sr hi (by omega) (by omega);have hk:=Ac9 (L:=L2) (by omega);have hf:BZ L2=true:=decide_eq_true (by omega);have hq:Ge L2 (λi=>v (toN (x2 i))) z d=Ge e.length (wE v e) z d:=by
   rw [<- hL];exact XL λi hi=>by rw [hr.at_ i hi]; rfl
  cases hc:XY v z d e with
  | true =>
   have hc':ilt 0 (Ge L2 (λi=>v (toN (x2 i))) z d)=true:=by rw [hq]; exact hc
   refine .inr ⟨e,L2,x2,by rw [List.find?_cons,hc],hr,Ae (t:=some (.rt,_)) (DW.rd (.a (CS hE) <| .k eT <| .k (eL m) <| .k (eL L2) <| .k hsr <| .k hk <| .k (rbE L2 λk=>v (toN (x2 k))) <| .k (eL L2) <| .k (eL z) <| .k hf <| .k hz <| .k hc' <| .k (eN eF) <| .l) (by kernel_rfl))⟩
  | false =>
   have hc':ilt 0 (Ge L2 (λi=>v (toN (x2 i))) z d)=false:=by rw [hq]; exact hc
   have hn:Ap B28 AfG (S28 A n k w z d m v L x hs gt)=some (.nm,S28 A n k w z d m v L2 x2 hs gt):=DW.rd (.a (CS hE) <| .k eT <| .k (eL m) <| .k (eL L2) <| .k hsr <| .k hk <| .k (rbE L2 λk=>v (toN (x2 k))) <| .k (eL L2) <| .k (eL z) <| .k hf <| .k hz <| .k hc' <| .k (eN eT) <| .l) (by kernel_rfl)
   rw [Ae hn,AS,List.find?_cons,hc];exact AcT hz hN hm ds L2 x2 M hR (by simpa using hM)
end
def ZV (A:Int) (k:Nat) (w:Nat->E6) (n:Int) (z:Nat) (d:Nat->E6):Option (List Nat):=(Ds A k w n).find? (XY (BC k w) z d)
noncomputable def Fe (A:Int) (k:Nat) (w:Nat->E6) (n:Int) (z:Nat) (d:Nat->E6):Int :=
 sel (ieq (Dl A k w n) 0) (sel (Bv z d) (sel (Gv k w n) 3 (match ZV A k w n z d with | some _=>0 | none=>4)) 30) (Dl A k w n)
noncomputable def Cg (A:Int) (k:Nat) (w:Nat->E6) (n:Int) (z:Nat) (d:Nat->E6):List E6 :=
 sel (ieq (Fe A k w n z d) 0) (match ZV A k w n z d with | some e=>(List.range e.length).map (wE (BC k w) e) | none=>[]) []
noncomputable def Ac6:List V->A3
 | [.val (.int .i64 A),u,.val (.int .i64 n),c]=>apL u λk w=>apL c λz d=>.br (BZ z) (.leaf (.tup [.ref 0,iV (Fe A k w n z d)],[.row 46 6 (Cg A k w n z d).length λt=>eV ((Cg A k w n z d).getD t Ba)])) .fail
 | _=>.fail
theorem O2 {l:List E6} (h:l=[]):As [.row 46 6 0 λ_=>.und] [.row 46 6 l.length λt=>eV (l.getD t Ba)]:=by
 subst h;exact As.one λ_ h=>absurd h (Nat.not_lt_zero _)
theorem AhD {k:Nat} {w:Nat->E6} {A n:Int} (h:ieq (Dl A k w n) 0=true):Lm k w n=true:=by
 obtain ⟨g1,g2,g3,g4⟩:=KJ h;have g2':¬ n<2:=of_decide_eq_false g2;have g3':¬ 16<n:=of_decide_eq_false g3;unfold Lm;rw [g1,show ile 2 n=true from decide_eq_true (by omega),show ile n 16=true from decide_eq_true (by omega),decide_eq_true g4];rfl
theorem p28:Ar Tryz.prog Gl 28 Ac6:=by
 refine Pt AnM λvs u h' h=>?_;unfold Ac6 at h;split at h
 rotate_left
 ·cases h
 rename_i A u0 n c;obtain ⟨k,w,ha,h⟩:=Bb h;obtain ⟨z,d,hb,h⟩:=Bb h;obtain ⟨hz,h⟩:=Ab h;cases Aa h;have hv:B2 [iV A,u0,iV n,c] [iV A,Ao k w,iV n,Ao z d]:=λS W cs hq=>by
  obtain ⟨c,l,rfl,q1,c2,l2,rfl,q2,c3,l3,rfl,q3,c4,l4,rfl,q4,q5⟩:=hq;exact ⟨c,_,rfl,q1,c2,_,rfl,ha S W c2 q2,c3,_,rfl,q3,c4,_,rfl,hb S W c4 q4,q5⟩
 cases h1:ieq (Dl A k w n) 0 with
 | false =>
  have he:Fe A k w n z d=Dl A k w n:=by unfold Fe; rw [h1]; rfl
  have hr:Cg A k w n z d=[]:=by unfold Cg; rw [he,h1]; rfl
  rw [he];exact ⟨_,_,hv,DW.ok (.k (eL k) <| .k (eN h1) <| .l) (by kernel_rfl),O2 hr⟩
 | true =>
  cases h3:Bv z d with
  | false =>
   have he:Fe A k w n z d=30:=by unfold Fe; rw [h1,h3]; rfl
   have hr:Cg A k w n z d=[]:=by unfold Cg; rw [he]; rfl
   have hF:ieq (Ms z d 0 λ_=>Ba) 0=false:=by unfold Ms; rw [h3]; rfl
   rw [he];exact ⟨_,_,hv,DW.ok (.k (eL k) <| .k (eN h1) <| .k (eL z) <| .k (show (DL 0 λ_=>false)=true from rfl) <| .k hz <| .k (show BZ 0=true from rfl) <| .k (eN hF) <| .l) (by kernel_rfl),O2 hr⟩
  | true =>
   have hF:ieq (Ms z d 0 λ_=>Ba) 0=true:=by unfold Ms; rw [h3]; rfl
   have hG:=AhD h1;obtain ⟨g1,g2,g3,g4⟩:=KJ h1;have g2':¬ n<2:=of_decide_eq_false g2;have g3':¬ 16<n:=of_decide_eq_false g3;cases h4:Gv k w n with
   | true =>
    have he:Fe A k w n z d=3:=by unfold Fe; rw [h1,h3,h4]; rfl
    have hr:Cg A k w n z d=[]:=by unfold Cg; rw [he]; rfl
    rw [he];exact ⟨_,_,hv,DW.ok (.k (eL k) <| .k (eN h1) <| .k (eL z) <| .k (show (DL 0 λ_=>false)=true from rfl) <| .k hz <| .k (show BZ 0=true from rfl) <| .k (eN hF) <| .k (eL k) <| .k hG <| .k h4 <| .l) (by kernel_rfl),O2 hr⟩
   | false =>
    have hc:CJ 0 k 40=true:=decide_eq_true (by omega);have hB:=Wj (a:=A) (n:=n) (k:=k) (e:=w) (by omega) λi hi=>by
     rcases BH (w i) with ⟨c,hc,_,hn,_⟩ | ⟨hb,_⟩
     ·rw [hn]; exact TY hc
     ·rw [Bh.1 g1 i hi] at hb; cases hb
    obtain ⟨N,rfl⟩:∃ N:Nat,n=ofNat N:=⟨n.toNat,(Int.toNat_of_nonneg (by omega)).symm⟩;have hN:0<N∧N <= 16:=by simp only [Int.ofNat_eq_natCast] at *; omega
    have hm:Eo k w <= 112:=SQ _ _;have hR:=RL (a:=A) (n:=ofNat N) (v:=BC k w) (x:=λ_=>0) rfl hN.1 hN.2 hm;have hF2:=QM (n:=ofNat N) (v:=BC k w) hm hN.2;have hlen:(Ds A k w (ofNat N)).length<10000000000000000000000000000000000000000000000000000:=by
     have h5:=List.length_filter_le (Me A (BC k w)) (Ru (ofNat N) (Eo k w) (BC k w) N);have h6:F43=10000000000000000000000000000000000000000000000000000:=rfl;rw [<- h6];show ((Ru (ofNat N) (Eo k w) (BC k w) N).filter (Me A (BC k w))).length<F43;omega
    have heq:Fe A k w (ofNat N) z d=(match ZV A k w (ofNat N) z d with | some _=>0 | none=>4):=by unfold Fe; rw [h1,h3,h4]; rfl
    rcases AcT (A:=A) (n:=ofNat N) (k:=k) (w:=w) (d:=d) hz hN.2 hm (hs:=hsC w k) (gt:=λy=>eV (gtC w k y)) _ _ _ _ hR hlen with ⟨hq,L',x',hr⟩ | ⟨e,L',x',hq,hp,hr⟩
    ·have hq:ZV A k w (ofNat N) z d=none:=hq
     have he:Fe A k w (ofNat N) z d=4:=by rw [heq,hq]
     have hr0:Cg A k w (ofNat N) z d=[]:=by unfold Cg; rw [he]; rfl
     rw [he];exact ⟨_,_,hv,DW.ok (.k (eL k) <| .k (eN h1) <| .k (eL z) <| .k (show (DL 0 λ_=>false)=true from rfl) <| .k hz <| .k (show BZ 0=true from rfl) <| .k (eN hF) <| .k (eL k) <| .k hG <| .k h4 <| .k (eL k) <| .k hc <| .k (eL k) <| .r 3 (eN h1) <| .k (eL k) <| .k hG <| .k (eN h1) <| .k h4 <| .a (CS hB) <| .a hr <| .l) (by kernel_rfl),O2 hr0⟩
    ·have hq:ZV A k w (ofNat N) z d=some e:=hq
     have he:Fe A k w (ofNat N) z d=0:=by rw [heq,hq]
     have hr0:Cg A k w (ofNat N) z d=(List.range e.length).map (wE (BC k w) e):=by unfold Cg; rw [he,hq]; rfl
     rw [he,hr0];refine ⟨_,[.row 46 6 L' λk'=>eV (BC k w (toN (x' k')))],hv,DW.ok (.k (eL k) <| .k (eN h1) <| .k (eL z) <| .k (show (DL 0 λ_=>false)=true from rfl) <| .k hz <| .k (show BZ 0=true from rfl) <| .k (eN hF) <| .k (eL k) <| .k hG <| .k h4 <| .k (eL k) <| .k hc <| .k (eL k) <| .r 3 (eN h1) <| .k (eL k) <| .k hG <| .k (eN h1) <| .k h4 <| .a (CS hB) <| .a hr <| .l) (by kernel_rfl),?_⟩
     have hl:((List.range e.length).map (wE (BC k w) e)).length=L':=by rw [List.length_map,List.length_range,hp.len]
     rw [hl];exact As.one λt ht=>by
      rw [WR _ _ (by rw [<- hp.len]; exact ht),hp.at_ t ht];rfl
end Go.Proofs.YtkbgidbledjejaaGreat.En
namespace Go.Proofs.YtkbgidbledjejaaGreat.En
open Go.Sy Go Go.Proofs.YtkbgidbledjejaaGreat.Ed
theorem Zh (p x y:List Int):Fz (p++x) (p++y)=Fz x y:=by
 induction p with
 | nil=>rfl
 | cons a p ih =>
  rcases FI a a (p++x) (p++y) with ⟨h,_⟩ | ⟨h,_⟩ | ⟨_,h⟩
  ·omega
  ·omega
  ·exact h.trans ih
def cR (v:Nat->E6) (d:List Nat):List Int:=d.reverse.map λe=>Aj (v e)
def Lt9 (v:Nat->E6) (x y:List Nat):Prop:=Fz (cR v x) (cR v y) = -1
theorem Ur (v:Nat->E6) (x r:List Nat) (e:Nat):cR v (x++e::r)=cR v r++Aj (v e)::cR v x:=by simp [cR]
theorem Lq {m:Nat} {fits opn:List Nat->Bool}:∀ k (r d:List Nat),d ∈ EX m fits opn k r->∃ x,d=x++r
 | 0,r,d,h=>by cases List.mem_singleton.1 h; exact ⟨[],rfl⟩
 | k+1,r,d,h=>by
  rcases List.mem_cons.1 h with rfl | h
  ·exact ⟨[],rfl⟩
  ·cases hq:(fits r && opn r) with
   | false=>rw [hq] at h; cases h
   | true =>rw [hq] at h;obtain ⟨e,_,h⟩:=List.mem_flatMap.1 h;obtain ⟨x,rfl⟩:=Lq k (e::r) d h;exact ⟨x++[e],by simp⟩
theorem AhQ {v:Nat->E6} {m:Nat} (hv:∀ i j,i<j->j<m->Aj (v i)<Aj (v j)) (x y r:List Nat) {e e':Nat} (h:e<e') (hm:e'<m):Lt9 v (x++e::r) (y++e'::r):=by
 unfold Lt9;rw [Ur,Ur,Zh];have hl:=hv e e' h hm;rcases FI (Aj (v e)) (Aj (v e')) (cR v x) (cR v y) with ⟨_,h⟩ | ⟨h,_⟩ | ⟨h,_⟩
 ·exact h
 ·omega
 ·omega
theorem Sm {v:Nat->E6} {m:Nat} {fits opn:List Nat->Bool} (hv:∀ i j,i<j->j<m->Aj (v i)<Aj (v j)) {k:Nat} {r:List Nat} (ih:∀ e,(EX m fits opn k (e::r)).Pairwise (Lt9 v)) {l:List Nat} (hl:l.Pairwise (·<·)) (hm:∀ e,e ∈ l->e<m):(l.flatMap λe=>EX m fits opn k (e::r)).Pairwise (Lt9 v):=by
 rw [List.pairwise_flatMap];refine ⟨λe _=>ih e,hl.imp_of_mem fun {e e'} _ he' h x hx y hy=>?_⟩;obtain ⟨x,rfl⟩:=Lq _ _ _ hx;obtain ⟨y,rfl⟩:=Lq _ _ _ hy;exact AhQ hv x y r h (hm e' he')
theorem U8 {v:Nat->E6} {m:Nat} {fits opn:List Nat->Bool} (hv:∀ i j,i<j->j<m->Aj (v i)<Aj (v j)):∀ k (r:List Nat),(EX m fits opn k r).Pairwise (Lt9 v)
 | 0,r=>List.pairwise_singleton ..
 | k+1,r=>by
  unfold EX;refine List.pairwise_cons.2 ⟨λd hd=>?_,?_⟩
  ·cases hq:(fits r && opn r) with
   | false=>rw [hq] at hd; cases hd
   | true =>rw [hq] at hd;obtain ⟨e,_,h⟩:=List.mem_flatMap.1 hd;obtain ⟨x,rfl⟩:=Lq _ _ _ h;show Fz (cR v r) (cR v (x++e::r)) = -1;rw [Ur];have h:=Zh (cR v r) [] (Aj (v e)::cR v x);rw [List.append_nil] at h;exact h
  ·cases hq:(fits r && opn r) with
   | false=>exact .nil
   | true=>exact Sm hv (λe=>U8 hv k (e::r)) (List.pairwise_lt_range.sublist (List.drop_sublist ..)) λe he=>List.mem_range.1 (List.mem_of_mem_drop he)
section
variable {A n:Int} {k:Nat} {w:Nat->E6} (hw:Bv k w=true)
include hw
theorem AdL:(Ds A k w n).Pairwise (Lt9 (BC k w)):=by
 have hv:∀ i j,i<j->j<Eo k w->Aj (BC k w i)<Aj (BC k w j):=λi j h hj=>U7 hw h hj;exact (Sm hv (λe=>U8 hv _ _) List.pairwise_lt_range λe he=>List.mem_range.1 he).filter _
theorem AjA {d:List Nat} (h:d ∈ Ds A k w n) {e:Nat} (he:e ∈ d):e<Eo k w:=by
 have _:=hw
 obtain ⟨h1,_⟩:=List.mem_filter.1 h;obtain ⟨f,hf,h1⟩:=List.mem_flatMap.1 h1;exact Ww _ _ _ (λx hx=>by simp at hx; rw [hx]; exact List.mem_range.1 hf) h1 e he
theorem Uf {d:List Nat} (h:d ∈ Ds A k w n):Bv d.length (wE (BC k w) d)=true:=Bh.2 λi hi=>(Jh hw (AjA hw h (KB hi))).1
end
theorem Aj9 {A n:Int} {k:Nat} {w:Nat->E6} {d:List Nat} (h:d ∈ Ds A k w n):d ≠ []:=by
 obtain ⟨h1,_⟩:=List.mem_filter.1 h;obtain ⟨f,_,h1⟩:=List.mem_flatMap.1 h1;obtain ⟨x,rfl⟩:=Lq _ _ _ h1;simp
theorem Ui (v:Nat->E6) (d:List Nat):Bt d.length (wE v d)=cR v d:=by
 refine List.ext_getElem (by simp [Bt,cR]) λi h1 h2=>?_;have hi:i<d.length:=by simpa [Bt] using h1
 simp only [Bt,cR,List.getElem_map,List.getElem_range];show Aj (v (wd d i))=_;unfold wd;rw [List.getD_eq_getElem?_getD,List.getElem?_eq_getElem (by simpa using hi)];rfl
theorem AdU {n:Nat} {f g:Nat->E6} (h:∀ i,i<n->f i=g i):Bt n f=Bt n g:=List.map_congr_left λi hi=>by rw [h i (List.mem_range.1 hi)]
theorem TZ {α:Type} {p:α->Bool}:∀ (l:List α) (i:Nat),(∀ j,j<i->∀ x,l[j]? = some x->p x=false)->(∀ j,i <= j->∀ x,l[j]? = some x->p x=true)->l.find? p=l[i]?
 | [],i,_,_=>by simp
 | a::l,0,_,h=>by rw [List.find?_cons,h 0 (Nat.le_refl _) a rfl]; rfl
 | a::l,i+1,h0,h=>by
  rw [List.find?_cons,h0 0 (by omega) a rfl];exact TZ l i (λj hj x hx=>h0 (j+1) (by omega) x hx) λj hj x hx=>h (j+1) (by omega) x hx
def atR (R:List (List E6)):Nat->List E6
 | 0=>[]
 | i+1=>R.getD i []
theorem Af7 {A n:Int} {k:Nat} {w:Nat->E6} (hw:Bv k w=true) {i:Nat} (hi:i <= (Ds A k w n).length) {z:Nat} {d:Nat->E6} (hz:z=(atR (DO (BC k w) (Ds A k w n)) i).length) (hd:∀ t,t<z->d t=(atR (DO (BC k w) (Ds A k w n)) i).getD t Ba):Bv z d=true∧ZV A k w n z d=(Ds A k w n)[i]?:=by
 cases i with
 | zero =>
  have hz:z=0:=hz;subst hz;have hm:Bv 0 d=true:=Bh.2 λi hi=>absurd hi (Nat.not_lt_zero _);refine ⟨hm,TZ _ 0 (λj hj=>absurd hj (Nat.not_lt_zero _)) λj _ e he=>?_⟩;have he:=List.mem_of_getElem? he;unfold XY Ge;rw [Uf hw he,hm,Ui];have hn:=Aj9 he;show ilt 0 (Fz (cR (BC k w) e) [])=true;have hr:cR (BC k w) e ≠ []:=by simpa [cR] using hn
  cases hc:cR (BC k w) e with
  | nil=>exact absurd hc hr
  | cons a l=>rfl
 | succ i =>
  have hz:z=((DO (BC k w) (Ds A k w n)).getD i []).length:=hz;have hd:∀ t,t<z->d t=((DO (BC k w) (Ds A k w n)).getD i []).getD t Ba:=hd;obtain ⟨a,ha⟩:∃ a,(Ds A k w n)[i]? = some a:=⟨_,List.getElem?_eq_getElem (by omega)⟩;have hg:(Ds A k w n).getD i []=a:=by rw [List.getD_eq_getElem?_getD,ha]; rfl
  rw [JQ,hg] at hz hd;have hz:z=a.length:=by simpa using hz
  have hd:∀ t,t<z->d t=wE (BC k w) a t:=λt ht=>by rw [hd t ht,WR _ _ (by omega)]; rfl
  subst hz;have hma:=Uf hw (List.mem_of_getElem? ha);have hm:Bv a.length d=true:=Bh.2 λt ht=>by rw [hd t ht]; exact Bh.1 hma t ht
  have hc:Bt a.length d=cR (BC k w) a:=by rw [<- Ui]; exact AdU hd
  have hq:∀ e,e ∈ Ds A k w n->XY (BC k w) a.length d e=ilt 0 (Fz (cR (BC k w) e) (cR (BC k w) a)):=λe he=>by
   unfold XY Ge;rw [Uf hw he,hm,Ui,hc];rfl
  have hp:=List.pairwise_iff_getElem.1 (AdL (A:=A) (n:=n) hw);refine ⟨hm,TZ _ (i+1) (λj hj e he=>?_) λj hj e he=>?_⟩
  ·rw [hq e (List.mem_of_getElem? he)]
   rcases Nat.lt_or_ge j i with h | h
   ·obtain ⟨h1,e1⟩:=List.getElem?_eq_some_iff.1 he
    obtain ⟨h2,e2⟩:=List.getElem?_eq_some_iff.1 ha;have:=hp j i h1 h2 h;rw [e1,e2] at this;rw [show Fz (cR (BC k w) e) (cR (BC k w) a) = -1 from this];rfl
   ·obtain rfl:j=i:=by omega
    rw [ha] at he;cases he;rw [(S8 _ _).2 rfl];rfl
  ·rw [hq e (List.mem_of_getElem? he)]
   obtain ⟨h1,e1⟩:=List.getElem?_eq_some_iff.1 he;obtain ⟨h2,e2⟩:=List.getElem?_eq_some_iff.1 ha;have:=hp i j h2 h1 (by omega);rw [e1,e2] at this;rw [S9,show Fz (cR (BC k w) a) (cR (BC k w) e) = -1 from this];rfl
end Go.Proofs.YtkbgidbledjejaaGreat.En
namespace Go.Proofs.YtkbgidbledjejaaGreat.En
open Go.Sy Go Go.Proofs.YtkbgidbledjejaaGreat.Ed
set_option maxRecDepth 100000
theorem Abi {m:Nat} {fits opn:List Nat->Bool}:∀ k r d,d ∈ EX m fits opn k r->d.length <= r.length+k
 | 0,r,d,h=>by cases List.mem_singleton.1 h; omega
 | k+1,r,d,h=>by
  rcases List.mem_cons.1 h with h | h
  ·subst h; omega
  ·cases hq:(fits r && opn r) with
   | false=>rw [hq] at h; cases h
   | true =>rw [hq] at h;obtain ⟨e,_,h⟩:=List.mem_flatMap.1 h;have:=Abi k (e::r) d h;rw [List.length_cons] at this;omega
theorem Q4 {A:Int} {k:Nat} {w:Nat->E6} {n q:Int} (h:ieq (EP A k w n q) 0=true):ieq (Dl A k w n) 0=true∧(Ds A k w n).length <= 65536:=by
 unfold EP at h;cases h1:ieq (Dl A k w n) 0 with
 | false=>rw [h1] at h; rw [show sel false _ (Dl A k w n)=Dl A k w n from rfl] at h; rw [h1] at h; cases h
 | true =>
  rw [h1] at h;cases h2:ilt q 0 with
  | true=>rw [h2] at h; cases h
  | false =>
   cases h3:ilt 65536 q with
   | true=>rw [h2,h3] at h; cases h
   | false =>
    cases h4:Gv k w n with
    | true=>rw [h2,h3,h4] at h; cases h
    | false =>
     cases h5:ilt q (Int.ofNat (Ds A k w n).length) with
     | true=>rw [h2,h3,h4,h5] at h; cases h
     | false =>have h3':¬ (65536:Int)<q:=of_decide_eq_false h3;have h5':¬ q<((Ds A k w n).length:Int):=of_decide_eq_false h5;exact ⟨rfl,by omega⟩
theorem Agh (A:Int) (k:Nat) (w:Nat->E6) (n q:Int):(CP A k w n q).length <= 65536:=by
 unfold CP;cases h:ieq (EP A k w n q) 0 with
 | false=>exact Nat.zero_le _
 | true=>show (DO _ _).length <= _; rw [LD]; exact (Q4 h).2
theorem Agg (A:Int) (k:Nat) (w:Nat->E6) (n q:Int) (i:Nat):((CP A k w n q).getD i []).length <= 16:=by
 unfold CP;cases h:ieq (EP A k w n q) 0 with
 | false=>show ((([]:List (List E6))).getD i []).length <= 16; simp
 | true =>
  show ((DO _ _).getD i []).length <= 16;rw [JQ,List.length_map,List.length_range,List.getD_eq_getElem?_getD];obtain ⟨g1,g2,g3,g4⟩:=KJ (Q4 h).1;have g2':¬ n<2:=of_decide_eq_false g2;have g3':¬ 16<n:=of_decide_eq_false g3;cases hd:(Ds A k w n)[i]? with
  | none=>simp
  | some d =>
   have hm:=(List.mem_filter.1 (List.mem_of_getElem? hd)).1;obtain ⟨e,_,hv⟩:=List.mem_flatMap.1 hm;have:=Abi _ _ _ hv;have hN:toN n <= 16:=by unfold toN; omega
   show d.length <= 16;simp only [List.length_cons,List.length_nil] at this;omega
theorem AnY:Ar Tryz.prog Gl 10 Ug:=by
 have h:Zc=Ug:=by
  funext vs;unfold Zc;split
  ·rename_i A u n q
   show (apL u λk w=>T.leaf (V.tup [V.jref 0,iV (EW A k w n q)],[PX (Gd A k w n q)]))=apL u λk w=>T.leaf (V.tup [V.jref 0,iV (EP A k w n q)],[PX (CP A k w n q)]);congr 1;funext k w;rw [(AdM _ k w _ _).1,(AdM _ k w _ _).2]
  ·rename_i hx
   unfold Ug;split
   ·exact absurd rfl (hx _ _ _ _)
   ·rfl
 exact h ▸ p10
end Go.Proofs.YtkbgidbledjejaaGreat.En
namespace Go.Proofs.YtkbgidbledjejaaGreat.En
open Go.Sy Go Go.Proofs.YtkbgidbledjejaaGreat.Ed
open Int (ofNat)
set_option maxRecDepth 100000
noncomputable def tb7:AD:=(9,Ug)::(10,Ug)::(28,Ac6)::(18,awT)::(21,Kx)::[]
theorem tb7_ok:Al Tryz.prog Gl tb7:=.cons p9 <| .cons AnY <| .cons p28 <| .cons p18 <| .cons p42 .nil
def lp7:Lp:=⟨bmK 101 0 [0,1,2,6,7,11,12],3,bmK 101 0 [0,1,2,6,7,11],2,4611686018427387905⟩
def is7:List Nat:=[0,2]
noncomputable abbrev cx7:Cx:=⟨A9 tb7,Agu 0 lp7 is7 [],Gl⟩
noncomputable def B7:St->T (Ex×St):=λst=>A8 tab cx7 (A1 Tryz.f7 0) 0 st
section
def zB (b:Bool) (c:List E6):Nat:=match b with
 | true=>c.length
 | false=>0
def gB (b:Bool) (c:List E6):Nat->V:=match b with
 | true=>λt=>eV (c.getD t Ba)
 | false=>λ_=>.und
def dB (b:Bool) (c:List E6):Nat->E6:=match b with
 | true=>λt=>c.getD t Ba
 | false=>λ_=>Ba
variable (A n:Int) (k:Nat) (w:Nat->E6) (R:List (List E6)) (b:Bool) (c:List E6)
def H7:List Blk:=[PX R,.row 46 6 (zB b c) (gB b c)]
def S7 (i:Int):St:=⟨jsV 101 0 Ac [(0,iV A),(1,Ao k w),(2,iV n),(6,bV false),(7,.jref 0),(11,.ref 1),(12,iV i)],H7 R b c⟩
def E7:Ex×St:=(.ex 0,⟨jsV 101 0 Ac [(0,iV A),(1,Ao k w),(2,iV n),(6,bV false),(7,.jref 0),(11,.ref 1)],H7 R b c⟩)
theorem jl7 (l:List E6) (g:Nat->V):BB [PX R,.row 46 6 (zB b c) g]=true∧BB [PX R,.row 46 6 (zB b c) g,.row 46 6 l.length λt=>eV (l.getD t Ba)]=true:=by
 simp [BB,PX]
variable {A n k w R b c}
theorem rd7 {i:Nat} (hi:i<R.length) (h40:i<40) (hz:BZ (zB b c)=true) (he:ieq (Fe A k w n (zB b c) (dB b c)) 0=true) (hr:Cg A k w n (zB b c) (dB b c)=R.getD i []) (hs:C7 (R.getD i []).length=true):Pm B7 lp7 is7 (S7 A n k w R b c (ofNat i))=some (.nm,S7 A n k w R true (R.getD i []) (ofNat (i+1))):=by
 have e:(Ex.nm,S7 A n k w R true (Cg A k w n (zB b c) (dB b c)) (wr .i64 (Am (ofNat i) 1)))=(Ex.nm,S7 A n k w R true (R.getD i []) (ofNat (i+1))):=by rw [hr,C2 (by omega)]
 have h4:ilt (ofNat i) 40=true:=decide_eq_true (by show (i:Int)<(40:Int); omega);have hL:=jl7 R b c (Cg A k w n (zB b c) (dB b c)) (gB b c);have hs':C7 (Cg A k w n (zB b c) (dB b c)).length=true:=by rw [hr]; exact hs
 have hq:Gx (Cg A k w n (zB b c) (dB b c)).length (λt=>(Cg A k w n (zB b c) (dB b c)).getD t Ba) (R.getD i []).length (λt=>(R.getD i []).getD t Ba)=true:=by rw [hr]; exact WM _ _
 cases b with
 | true=>exact DW.rn (.r 3 (ofNat_lt hi) <| .k h4 <| .k hL.1 <| .k (eL k) <| .k (eL c.length) <| .k hz <| .k (rbE (Cg A k w n (zB true c) (dB true c)).length λt=>(Cg A k w n (zB true c) (dB true c)).getD t Ba) <| .r 4 (eN he) <| .k (Af hi) <| .k (eN he) <| .k (decide_eq_true hi) <| .k eT <| .k (eN he) <| .k hL.2 <| .k (eL (Cg A k w n (zB true c) (dB true c)).length) <| .k (eL (R.getD i []).length) <| .k hs' <| .r 2 (eN he) <| .k (eN hq) <| .e e) (by kernel_rfl)
 | false=>exact DW.rn (.r 3 (ofNat_lt hi) <| .k h4 <| .k hL.1 <| .k (eL k) <| .k (show DL 0 (λ_=>false)=true from rfl) <| .k hz <| .k (rbE (Cg A k w n (zB false c) (dB false c)).length λt=>(Cg A k w n (zB false c) (dB false c)).getD t Ba) <| .r 4 (eN he) <| .k (Af hi) <| .k (eN he) <| .k (decide_eq_true hi) <| .k eT <| .k (eN he) <| .k hL.2 <| .k (eL (Cg A k w n (zB false c) (dB false c)).length) <| .k (eL (R.getD i []).length) <| .k hs' <| .r 2 (eN he) <| .k (eN hq) <| .e e) (by kernel_rfl)
theorem x7 {i:Nat} (hi:i=R.length ∨ (i<R.length∧i=40)):Pm B7 lp7 is7 (S7 A n k w R b c (ofNat i))=some (E7 A n k w R b c):=by
 rcases hi with h | ⟨h1,h2⟩
 ·cases b <;> exact DW.rn (.r 3 (A4 (i:=i) (n:=R.length) (by omega)) <| .k eF <| .l) (by kernel_rfl)
 ·have h4:ilt (ofNat i) 40=false:=decide_eq_false (by rw [h2]; show ¬ ((40:Nat):Int)<(40:Int); omega)
  cases b <;> exact DW.rn (.r 3 (ofNat_lt h1) <| .k h4 <| .l) (by kernel_rfl)
end
def bI:Nat->Bool
 | 0=>false
 | _+1=>true
def cI (R:List (List E6)):Nat->List E6
 | 0=>[]
 | i+1=>R.getD i []
section
variable {A n:Int} {k:Nat} {w:Nat->E6} {R:List (List E6)}
theorem AcS (hn:∀ i,i<R.length->ieq (Fe A k w n (zB (bI i) (cI R i)) (dB (bI i) (cI R i))) 0=true∧Cg A k w n (zB (bI i) (cI R i)) (dB (bI i) (cI R i))=R.getD i []) (hs:∀ i,(R.getD i []).length <= 16):∀ (d i M:Nat),(i+d=R.length∧i+d <= 40 ∨ i+d=40∧40<R.length)->d<M->(K3 B7 lp7 is7 M (S7 A n k w R (bI i) (cI R i) (ofNat i))).sem=some (E7 A n k w R (bI (i+d)) (cI R (i+d)))
 | 0,i,M,h,hM=>by
  obtain ⟨M,rfl⟩:∃ o,M=o+1:=⟨M-1,by omega⟩;exact Adl (λh=>by cases h) (x7 (by omega))
 | d+1,i,M,h,hM=>by
  obtain ⟨M,rfl⟩:∃ o,M=o+1:=⟨M-1,by omega⟩;have hi:i<R.length:=by omega
  have hz:BZ (zB (bI i) (cI R i))=true:=decide_eq_true (by
   cases i with
   | zero=>show 0 * 40 <= (140737488355328:Nat); omega
   | succ i=>have:=hs i; show (R.getD i []).length * 40 <= (140737488355328:Nat); omega)
  rw [Adk (rd7 hi (by omega) hz (hn i hi).1 (hn i hi).2 (decide_eq_true (by have:=hs i; omega)))];rw [show i+(d+1)=i+1+d by omega] at h ⊢;exact AcS hn hs d (i+1) M h (by omega)
end
noncomputable def YD:List V->A3
 | [.val (.int .i64 _),u,.val (.int .i64 _)]=>apL u λ_ _=>.leaf (bV true,[])
 | _=>.fail
def GW (N:Nat):Int:=wr .i64 (Ax (ofNat N) 1)
theorem Ak5 (A n:Int) (k:Nat) (w:Nat->E6):(AM (Au tab cx7 Tryz.f7 [iV A,Ao k w,iV n] [])).sem=some (bV true,[]):=by
 cases h1:ieq (EP A k w n 65536) 0 with
 | false =>
  have hR:CP A k w n 65536=[]:=by unfold CP; rw [h1]; rfl
  have hN:ieq (ofNat (CP A k w n 65536).length) 0=true:=by rw [hR]; rfl
  exact DW.ok (.k (eL k) <| .k (eN h1) <| .k (eL k) <| .r 4 (eI (EP A k w n 65536)) <| .r 2 hN <| .l) (by kernel_rfl)
 | true =>
  obtain ⟨g1,_⟩:=Q4 h1;obtain ⟨hw,_⟩:=KJ g1;have hwd:Gv k w n=false:=by
   cases h4:Gv k w n with
   | false=>rfl
   | true =>unfold EP at h1;rw [g1,h4] at h1;cases h1
  have hR:CP A k w n 65536=DO (BC k w) (Ds A k w n):=by unfold CP; rw [h1]; rfl
  have hlen:(CP A k w n 65536).length=(Ds A k w n).length:=by rw [hR,LD]
  have hN:=Agh A k w n 65536;have hrow:=Agg A k w n 65536;generalize hRR:CP A k w n 65536=R at *;have at_:∀ (i:Nat) (z:Nat) (d:Nat->E6),i <= R.length->z=(cI R i).length->(∀ t,t<z->d t=(cI R i).getD t Ba)->Fe A k w n z d=(match (Ds A k w n)[i]? with | some _=>0 | none=>4)∧Cg A k w n z d=R.getD i []:=by
   intro i z d hi hz hd;have hc:cI R i=atR (DO (BC k w) (Ds A k w n)) i:=by cases i <;> simp only [cI,atR,hR]
   rw [hc] at hz hd;obtain ⟨q1,q2⟩:=Af7 hw (by omega) hz hd;have he:Fe A k w n z d=(match (Ds A k w n)[i]? with | some _=>0 | none=>4):=by
    unfold Fe;rw [g1,q1,hwd,q2];rfl
   refine ⟨he,?_⟩;unfold Cg;rw [he,q2,hR,JQ,List.getD_eq_getElem?_getD];cases (Ds A k w n)[i]? <;> rfl
  have zc:∀ i,zB (bI i) (cI R i)=(cI R i).length:=λi=>by cases i <;> rfl
  have dc:∀ i t,dB (bI i) (cI R i) t=(cI R i).getD t Ba:=λi t=>by cases i <;> first | rfl | simp [dB,bI,cI]
  have hn:∀ i,i<R.length->ieq (Fe A k w n (zB (bI i) (cI R i)) (dB (bI i) (cI R i))) 0=true∧Cg A k w n (zB (bI i) (cI R i)) (dB (bI i) (cI R i))=R.getD i []:=λi hi=>by
   obtain ⟨q1,q2⟩:=at_ i (zB (bI i) (cI R i)) (dB (bI i) (cI R i)) (by omega) (zc i) λt _=>dc i t;rw [q1,List.getElem?_eq_getElem (by omega)];exact ⟨rfl,q2⟩
  have fin:∀ (z:Nat) (d:Nat->E6),z=(cI R R.length).length->(∀ t,t<z->d t=(cI R R.length).getD t Ba)->ieq (Fe A k w n z d) 4=true∧ieq (ofNat (Cg A k w n z d).length) 0=true:=λz d hz hd=>by
   obtain ⟨q1,q2⟩:=at_ R.length z d (Nat.le_refl _) hz hd;rw [q1,q2,List.getElem?_eq_none (by omega),List.getD_eq_getElem?_getD,List.getElem?_eq_none (Nat.le_refl _)];exact ⟨rfl,rfl⟩
  have jl:∀ b c,BB (H7 R b c)=true:=λb c=>(jl7 R b c [] (gB b c)).1;by_cases h40:40<R.length
  ·have h0:=AcS (A:=A) (n:=n) (k:=k) (w:=w) hn hrow 40 0 4611686018427387905 (.inr ⟨rfl,h40⟩) (by omega)
   have hL:GW R.length=ofNat (R.length-1):=by
    unfold GW wr Ax IntKind.wrap;simp [IntKind.bits,IntKind.signed];omega
   have c0:ilt 40 (ofNat R.length)=true:=decide_eq_true (by show (40:Int)<(R.length:Int); omega);have c1:Av (ile 0 (GW R.length)) (ilt (GW R.length) (ofNat R.length))=true:=by rw [hL]; exact Af (by omega)
   have c2:nlt (toN (GW R.length)) R.length=true:=by rw [hL]; exact decide_eq_true (by show R.length-1<R.length; omega)
   have e:R.getD (toN (GW R.length)) []=cI R R.length:=by
    rw [hL];show R.getD (R.length-1) []=_;obtain ⟨q,hq⟩:∃ q,R.length=q+1:=⟨R.length-1,by omega⟩;rw [hq];rfl
   have c3:BZ (R.getD (toN (GW R.length)) []).length=true:=decide_eq_true (by have:=hrow (toN (GW R.length)); omega);obtain ⟨f1,f2⟩:=fin (R.getD (toN (GW R.length)) []).length (λt=>(R.getD (toN (GW R.length)) []).getD t Ba) (by rw [e]) λt _=>by rw [e]
   exact DW.ok (.k (eL k) <| .k (eN h1) <| .a h0 <| .k c0 <| .k c1 <| .k c2 <| .k eT <| .k (jl (bI (0+40)) (cI R (0+40))) <| .k (eL k) <| .k (eL (R.getD (toN (GW R.length)) []).length) <| .k c3 <| .k (rbE (Cg A k w n (R.getD (toN (GW R.length)) []).length λt=>(R.getD (toN (GW R.length)) []).getD t Ba).length λt=>(Cg A k w n (R.getD (toN (GW R.length)) []).length λt=>(R.getD (toN (GW R.length)) []).getD t Ba).getD t Ba) <| .r 4 f1 <| .r 2 f2 <| .l) (by kernel_rfl)
  ·have h0:=AcS (A:=A) (n:=n) (k:=k) (w:=w) hn hrow R.length 0 4611686018427387905 (.inl ⟨by omega,by omega⟩) (by omega)
   rw [Nat.zero_add] at h0;have c0:ilt 40 (ofNat R.length)=false:=decide_eq_false (by show ¬ (40:Int)<(R.length:Int); omega);have hz:BZ (zB (bI R.length) (cI R R.length))=true:=decide_eq_true (by
    rw [zc];cases hq:R.length with
    | zero=>show 0 * 40 <= (140737488355328:Nat); omega
    | succ i=>have:=hrow i; show (R.getD i []).length * 40 <= (140737488355328:Nat); omega)
   obtain ⟨f1,f2⟩:=fin (zB (bI R.length) (cI R R.length)) (dB (bI R.length) (cI R R.length)) (zc _) λt _=>dc _ t;have hl:=jl (bI R.length) (cI R R.length);generalize cI R R.length=c at *;cases hb:bI R.length with
   | true =>rw [hb] at h0 hz f1 f2 hl;exact DW.ok (.k (eL k) <| .k (eN h1) <| .a h0 <| .k c0 <| .k hl <| .k (eL k) <| .k (eL c.length) <| .k hz <| .k (rbE (Cg A k w n (zB true c) (dB true c)).length λt=>(Cg A k w n (zB true c) (dB true c)).getD t Ba) <| .r 4 f1 <| .r 2 f2 <| .l) (by kernel_rfl)
   | false =>rw [hb] at h0 hz f1 f2 hl;exact DW.ok (.k (eL k) <| .k (eN h1) <| .a h0 <| .k c0 <| .k hl <| .k (eL k) <| .k (show DL 0 (λ_=>false)=true from rfl) <| .k hz <| .k (rbE (Cg A k w n (zB false c) (dB false c)).length λt=>(Cg A k w n (zB false c) (dB false c)).getD t Ba) <| .r 4 f1 <| .r 2 f2 <| .l) (by kernel_rfl)
theorem p7:Ar Tryz.prog Gl 7 YD:=by
 refine Ah A0 mixed Tryz.func7 (by kernel_rfl) (by kernel_rfl) λvs r h' h=>?_;unfold YD at h;split at h
 rotate_left
 ·cases h
 rename_i A u n;obtain ⟨k,w,hu,h⟩:=Bb h;cases Aa h;exact ⟨[iV A,Ao k w,iV n],cx7,_,λS W cs hq=>by
  obtain ⟨c,l,rfl,q1,c2,l2,rfl,q2,q3⟩:=hq;exact ⟨c,_,rfl,q1,c2,_,rfl,hu S W c2 q2,q3⟩,rfl,Ek rfl tb7_ok,Agt _ _ _ _ _ rfl _,Ak5 A n k w,As.refl _⟩
end Go.Proofs.YtkbgidbledjejaaGreat.En
