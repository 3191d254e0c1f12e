/-
  Layer 6: the document's vocabulary. Conditions: edges have codes.
-/
import Derived.Test.YtkbgidbledjejaaGreatSyOc
import Derived.Test.YtkbgidbledjejaaGreatEnK
import Derived.Test.YtkbgidbledjejaaGreatEnG
import Derived.Laws.MathBits
namespace Go.Proofs.YtkbgidbledjejaaGreat.En
open Go.Sy Go Go.Proofs.YtkbgidbledjejaaGreat.Ed
open Int (ofNat)
set_option maxRecDepth 100000
theorem Iz (z:Nat->Bool) (i:Nat) (e:Bool):BF (λk=>bV (z k)) i (bV e)=λk=>bV (bif Nat.beq k i then e else z k):=by
 funext k;rw [D7];cases Nat.beq k i <;> rfl
def oS (o:Bool) (e:E6) (p r:Int):Bool:=sel o true (sel (ieq e.src p) (ieq e.dst r) false)
def oC (w:Nat->E6) (p r:Int):Nat->Bool
 | 0=>false
 | i+1=>oS (oC w p r i) (w i) p r
def thC (w:Nat->E6):Nat->Nat->Bool
 | 0=>λ_=>false
 | i+1=>λx=>bif Nat.beq x (toN (Al (w i))) then true else thC w i x
def GV (th:Nat->Bool) (o c:Bool) (b:Nat):Bool:=sel (th b) (sel (ieq (BC b).src (BC b).dst) true (sel o c false)) false
def Cc (th:Nat->Bool) (o c:Bool):Nat->List Nat
 | 0=>[]
 | b+1=>bif GV th o c b then Cc th o c b++[b] else Cc th o c b
def mkE (l:List Nat) (i:Nat):E6:=BC (l.getD i 0)
theorem Ub (th:Nat->Bool) (o c:Bool):∀ b,(Cc th o c b).length <= b
 | 0=>Nat.le_refl 0
 | b+1=>by
  have:=Ub th o c b;unfold Cc;cases GV th o c b with
  | true=>simp; omega
  | false=>exact Nat.le_succ_of_le this
theorem VK {b:Nat} (h:b<112):inR (ofNat b)=true:=by
 unfold inR;simp only [Bool.and_eq_true,decide_eq_true_eq,Int.ofNat_eq_natCast];omega
theorem Ny {b:Nat} (h:b<112):Av (ile 0 (ofNat b)) (ilt (ofNat b) 112)=true:=Af (n:=112) h
theorem AjR (l:List Nat) (b:Nat):AA l.length (λi=>eV (mkE l i)) (Cy 1 [eV (BC b)] 0)=λi=>eV (mkE (l++[b]) i):=by
 funext i;rw [BS];unfold mkE;rcases Nat.lt_trichotomy i l.length with hi | hi | hi
 ·rw [Gs (by omega),List.getD_eq_getElem?_getD,List.getD_eq_getElem?_getD,List.getElem?_append_left hi]
  rfl
 ·subst hi
  rw [Nat.beq_refl];show eV (BC b)=eV (BC ((l++[b]).getD l.length 0));rw [List.getD_eq_getElem?_getD,List.getElem?_append_right (Nat.le_refl _),Nat.sub_self];rfl
 ·rw [Gs (by omega),List.getD_eq_getElem?_getD,List.getD_eq_getElem?_getD,List.getElem?_eq_none (by omega),List.getElem?_eq_none (by simp; omega)]
  rfl
noncomputable def AlW:AH:=(54,Co KA)::(69,ofT)::[]
theorem AfP:Ao Tryz.prog Gl AlW:=.cons p25 <| .cons p31 <| .nil
def Ad0:Lp:=⟨bmK 98 0 [0,2,3,4,5,6],2,bmK 98 0 [2,3,4,5],2,4611686018427387905⟩
def Za:Lp:=⟨bmK 98 0 [2,3,4,5,9,10],3,bmK 98 0 [9],3,4611686018427387905⟩
def Anp:List (Nat×Lp×List (Nat×(Nat->V))):=[(0,Ad0,[]),(2,Za,[(2,λ_=>eV (BC 0))])]
noncomputable abbrev AkI:Cx:=cxA Gl AlW Anp
def U0 (k:Nat) (w:Nat->E6) (n:Int) (o c:Bool) (th:Nat->V):St:=⟨jsV 98 0 Ac [(0,Am k w),(2,.ref 0),(3,.ref 1),(4,bV o),(5,bV c),(6,iV n)],[.row 46 6 0 Ac,.row 4 1 112 th]⟩
def U2 (o c:Bool) (th:Nat->Bool) (n:Int) (q:Nat) (v:Nat->V):St:=⟨jsV 98 0 Ac [(2,.ref 0),(3,.ref 1),(4,bV o),(5,bV c),(9,.ref 2),(10,iV n)],[.row 46 6 0 Ac,.row 4 1 112 (λi=>bV (th i)),.row 46 6 q v]⟩
noncomputable def Ao2:St->T (Ex×St):=λst=>A8 tab AkI (A0 Tryz.f36 0) 0 st
noncomputable def Alj:St->T (Ex×St):=λst=>A8 tab AkI (A0 Tryz.f36 2) 2 st
section
variable {k:Nat} {w:Nat->E6}
theorem AoO {b:Nat} (hk:k <= 4611686018427387904) (hb:b<k) (hf:ieq (AB (w b)) 0=true) (hr:Av (ile 0 (Al (w b))) (ilt (Al (w b)) 112)=true) (hn:nlt (toN (Al (w b))) 112=true) (o c:Bool) (th:Nat->Bool):Ap Ao2 Ad0 (U0 k w (ofNat b) o c (λi=>bV (th i)))=some (.nm,U0 k w (ofNat (b+1)) (oS o (w b) 1 2) (oS c (w b) 2 1) (λi=>bV (bif Nat.beq i (toN (Al (w b))) then true else th i))):=DW.rd (.k (ofNat_lt hb) <| .k (Af hb) <| .k hf <| .k hr <| .k hn <| .c o (λh1=>.r 9 h1 <| .c c (λh2=>.r 9 h2 <| .e (nm4 (f:=λn o c th=>U0 k w n o c th) (Cu (by omega)) (show true=oS o (w b) 1 2 from by unfold oS; rw [h1] <;> rfl) (show true=oS c (w b) 2 1 from by unfold oS; rw [h2] <;> rfl) (Iz th (toN (Al (w b))) true))) λh2=>.r 3 h2 <| .k (Af hb) <| .r 4 h2 <| .c (ieq (w b).src 2) (λh3=>.r 3 h3 <| .k (Af hb) <| .r 3 h3 <| .k h2 <| .k h3 <| .k h2 <| .e (nm4 (f:=λn o c th=>U0 k w n o c th) (Cu (by omega)) (show true=oS o (w b) 1 2 from by unfold oS; rw [h1] <;> rfl) (show ieq (w b).dst 1=oS c (w b) 2 1 from by unfold oS; rw [h2,h3] <;> rfl) (Iz th (toN (Al (w b))) true))) λh3=>.r 6 h3 <| .k h2 <| .k h3 <| .k h2 <| .e (nm4 (f:=λn o c th=>U0 k w n o c th) (Cu (by omega)) (show true=oS o (w b) 1 2 from by unfold oS; rw [h1] <;> rfl) (show false=oS c (w b) 2 1 from by unfold oS; rw [h2,h3] <;> rfl) (Iz th (toN (Al (w b))) true))) λh1=>.r 3 h1 <| .k (Af hb) <| .r 4 h1 <| .c (ieq (w b).src 1) (λh4=>.r 3 h4 <| .k (Af hb) <| .r 3 h4 <| .k h1 <| .k h4 <| .k h1 <| .c c (λh5=>.r 9 h5 <| .e (nm4 (f:=λn o c th=>U0 k w n o c th) (Cu (by omega)) (show ieq (w b).dst 2=oS o (w b) 1 2 from by unfold oS; rw [h1,h4] <;> rfl) (show true=oS c (w b) 2 1 from by unfold oS; rw [h5] <;> rfl) (Iz th (toN (Al (w b))) true))) λh5=>.r 3 h5 <| .k (Af hb) <| .r 4 h5 <| .c (ieq (w b).src 2) (λh6=>.r 3 h6 <| .k (Af hb) <| .r 3 h6 <| .k h5 <| .k h6 <| .k h5 <| .e (nm4 (f:=λn o c th=>U0 k w n o c th) (Cu (by omega)) (show ieq (w b).dst 2=oS o (w b) 1 2 from by unfold oS; rw [h1,h4] <;> rfl) (show ieq (w b).dst 1=oS c (w b) 2 1 from by unfold oS; rw [h5,h6] <;> rfl) (Iz th (toN (Al (w b))) true))) λh6=>.r 6 h6 <| .k h5 <| .k h6 <| .k h5 <| .e (nm4 (f:=λn o c th=>U0 k w n o c th) (Cu (by omega)) (show ieq (w b).dst 2=oS o (w b) 1 2 from by unfold oS; rw [h1,h4] <;> rfl) (show false=oS c (w b) 2 1 from by unfold oS; rw [h5,h6] <;> rfl) (Iz th (toN (Al (w b))) true))) λh4=>.r 6 h4 <| .k h1 <| .k h4 <| .k h1 <| .c c (λh7=>.r 9 h7 <| .e (nm4 (f:=λn o c th=>U0 k w n o c th) (Cu (by omega)) (show false=oS o (w b) 1 2 from by unfold oS; rw [h1,h4] <;> rfl) (show true=oS c (w b) 2 1 from by unfold oS; rw [h7] <;> rfl) (Iz th (toN (Al (w b))) true))) λh7=>.r 3 h7 <| .k (Af hb) <| .r 4 h7 <| .c (ieq (w b).src 2) (λh8=>.r 3 h8 <| .k (Af hb) <| .r 3 h8 <| .k h7 <| .k h8 <| .k h7 <| .e (nm4 (f:=λn o c th=>U0 k w n o c th) (Cu (by omega)) (show false=oS o (w b) 1 2 from by unfold oS; rw [h1,h4] <;> rfl) (show ieq (w b).dst 1=oS c (w b) 2 1 from by unfold oS; rw [h7,h8] <;> rfl) (Iz th (toN (Al (w b))) true))) λh8=>.r 6 h8 <| .k h7 <| .k h8 <| .k h7 <| .e (nm4 (f:=λn o c th=>U0 k w n o c th) (Cu (by omega)) (show false=oS o (w b) 1 2 from by unfold oS; rw [h1,h4] <;> rfl) (show false=oS c (w b) 2 1 from by unfold oS; rw [h7,h8] <;> rfl) (Iz th (toN (Al (w b))) true))) (by kernel_rfl)
theorem AoV (hk:k <= 4611686018427387904) (hf:By k w=true):(Ax Ao2 Ad0 4611686018427387905 (U0 k w 0 (oC w 1 2 0) (oC w 2 1 0) (λi=>bV (thC w 0 i)))).sem=some (.ex 0,⟨jsV 98 0 Ac [(2,.ref 0),(3,.ref 1),(4,bV (oC w 1 2 k)),(5,bV (oC w 2 1 k))],[.row 46 6 0 Ac,.row 4 1 112 (λi=>bV (thC w k i))]⟩) :=
 Cj (S:=λb=>U0 k w (ofNat b) (oC w 1 2 b) (oC w 2 1 b) (λi=>bV (thC w b i))) (by intro h; cases h) (λb hb=>by
  have h1:=Bw.1 hf b hb;rcases BK (w b) with ⟨c,hc,_,hn,_⟩ | ⟨hb,_⟩
  ·exact AoO hk hb (by rw [h1]; rfl) (by rw [hn]; exact Ny hc) (by rw [hn]; exact decide_eq_true hc) _ _ _
  ·rw [h1] at hb; cases hb) (by
  generalize oC w 1 2 k=o;generalize oC w 2 1 k=c;generalize thC w k=th;exact DW.rd (.k (A4 (Nat.le_refl k)) <| .l) (by kernel_rfl)) (by omega)
theorem Am2 {o c:Bool} {th:Nat->Bool} {b:Nat} (hb:b<112) {q:Nat} {v:Nat->E6} {v':Nat->V} (hq:q<112) (hp:AA q (λi=>eV (v i)) (Cy 1 [eV (BC b)] 0)=v') (h:GV th o c b=true):Ap Alj Za (U2 o c th (ofNat b) q (λi=>eV (v i)))=some (.nm,U2 o c th (ofNat (b+1)) (q+1) v'):=by
 unfold GV at h;cases h1:th b with
 | false=>rw [h1] at h; cases h
 | true =>
  cases h2:ieq (BC b).src (BC b).dst with
  | true=>exact DW.rd (.k (Qv hb) <| .k (VK hb) <| .k (Ny hb) <| .k (decide_eq_true hb) <| .r 6 h1 <| .r 3 h2 <| .k h1 <| .k h2 <| .k h1 <| .k eT <| .k (show Ci q 1 40=true from decide_eq_true (by omega)) <| .e (nm3 (f:=λn q v=>U2 o c th n q v) (Cu (by omega)) rfl hp)) (by kernel_rfl)
  | false =>
   by_cases h3:o=true
   ·by_cases h4:c=true
    ·exact DW.rd (.k (Qv hb) <| .k (VK hb) <| .k (Ny hb) <| .k (decide_eq_true hb) <| .r 6 h1 <| .r 2 h2 <| .k h3 <| .k h2 <| .k h3 <| .k h1 <| .k h2 <| .k h1 <| .k h4 <| .k (show Ci q 1 40=true from decide_eq_true (by omega)) <| .e (nm3 (f:=λn q v=>U2 o c th n q v) (Cu (by omega)) rfl hp)) (by kernel_rfl)
    ·have h4:c=false:=by simpa using h4
     rw [h1,h2,h3,h4] at h; cases h
   ·have h3:o=false:=by simpa using h3
    rw [h1,h2,h3] at h; cases h
theorem Am3 {o c:Bool} {th:Nat->Bool} {b:Nat} (hb:b<112) {q:Nat} {v:Nat->E6} (h:GV th o c b=false):Ap Alj Za (U2 o c th (ofNat b) q (λi=>eV (v i)))=some (.nm,U2 o c th (ofNat (b+1)) q (λi=>eV (v i))):=by
 unfold GV at h;cases h1:th b with
 | false=>exact DW.rd (.k (Qv hb) <| .k (VK hb) <| .k (Ny hb) <| .k (decide_eq_true hb) <| .r 8 h1 <| .k eF <| .e (nm1 (f:=λn=>U2 o c th n q (λi=>eV (v i))) (Cu (by omega)))) (by kernel_rfl)
 | true =>
  cases h2:ieq (BC b).src (BC b).dst with
  | true=>rw [h1,h2] at h; cases h
  | false =>
   by_cases h3:o=true
   ·by_cases h4:c=true
    ·rw [h1,h2,h3,h4] at h; cases h
    ·have h4:c=false:=by simpa using h4
     exact DW.rd (.k (Qv hb) <| .k (VK hb) <| .k (Ny hb) <| .k (decide_eq_true hb) <| .r 6 h1 <| .r 2 h2 <| .k h3 <| .k h2 <| .k h3 <| .k h1 <| .k h2 <| .k h1 <| .k h4 <| .e (nm1 (f:=λn=>U2 o c th n q (λi=>eV (v i))) (Cu (by omega)))) (by kernel_rfl)
   ·have h3:o=false:=by simpa using h3
    exact DW.rd (.k (Qv hb) <| .k (VK hb) <| .k (Ny hb) <| .k (decide_eq_true hb) <| .r 6 h1 <| .r 2 h2 <| .k h3 <| .k h2 <| .k h3 <| .k h1 <| .k h2 <| .k h1 <| .k eF <| .e (nm1 (f:=λn=>U2 o c th n q (λi=>eV (v i))) (Cu (by omega)))) (by kernel_rfl)
theorem AmV (o c:Bool) (th:Nat->Bool):∀ d b m,b+d=112->d<m->(Ax Alj Za m (U2 o c th (ofNat b) (Cc th o c b).length (λi=>eV (mkE (Cc th o c b) i)))).sem=some (.ex 2,⟨jsV 98 0 Ac [(9,.ref 2)],[.row 46 6 0 Ac,.row 4 1 112 (λi=>bV (th i)),.row 46 6 (Cc th o c 112).length (λi=>eV (mkE (Cc th o c 112) i))]⟩)
 | 0,b,m,h,hm=>by
  obtain ⟨m,rfl⟩:∃ o,m=o+1:=⟨m-1,by omega⟩;obtain rfl:b=112:=by omega
  have hb:ilt (ofNat 112) 112=false:=rfl;generalize (Cc th o c 112).length=q;generalize mkE (Cc th o c 112)=v;exact Ae (t:=some (.ex 2,_)) (DW.rd (.k hb .l) (by kernel_rfl))
 | d+1,b,m,h,hm=>by
  obtain ⟨m,rfl⟩:∃ o,m=o+1:=⟨m-1,by omega⟩;have hb:b<112:=by omega
  have hl:=Ub th o c b;have ih:=AmV o c th d (b+1) m (by omega) (by omega);cases h1:GV th o c b with
  | true =>
   have e1:Cc th o c (b+1)=Cc th o c b++[b]:=by rw [Cc,h1]; rfl
   rw [e1,List.length_append] at ih;rw [Ae (Am2 hb (by omega) (AjR _ b) h1)];exact ih
  | false =>
   have e1:Cc th o c (b+1)=Cc th o c b:=by rw [Cc,h1]; rfl
   rw [e1] at ih;rw [Ae (Am3 hb h1)];exact ih
def Dn (k:Nat) (w:Nat->E6):List Nat:=Cc (thC w k) (oC w 1 2 k) (oC w 2 1 k) 112
end
def AlG:List V->A2:=NI λk w=>.br (By k w) (.br (decide (k <= 128)) (.leaf (.ref 0,[.row 46 6 (Dn k w).length λi=>eV (mkE (Dn k w) i)])) .fail) .fail
theorem Apg:As Tryz.prog Gl 36 AlG:=by
 refine Ah Az mixed Tryz.func36 (by kernel_rfl) (by kernel_rfl) λvs u h' h=>?_;obtain ⟨k,w,ha,h⟩:=CH h;obtain ⟨g1,h⟩:=Ab h;obtain ⟨g2,h⟩:=Ab h;have:=Aa h;simp only [Prod.mk.injEq] at this;obtain ⟨rfl,rfl⟩:=this;have g2:k <= 128:=of_decide_eq_true g2;have hx:=Ba AfP Anp (G:=Gl);refine ⟨[Am k w],AkI,_,ha,rfl,hx.1,hx.2,?_,Au.refl _⟩;have h0:=AoV (k:=k) (w:=w) (by omega) g1;have h2:=AmV (oC w 1 2 k) (oC w 2 1 k) (thC w k) 112 0 4611686018427387905 rfl (by omega);unfold Dn;generalize (Cc (thC w k) (oC w 1 2 k) (oC w 2 1 k) 112).length=q at h2;generalize mkE (Cc (thC w k) (oC w 1 2 k) (oC w 2 1 k) 112)=v at h2;exact DW.ok (.k (show F2 1 112 112=true from by decide) <| .a h0 <| .a h2 <| .l) (by kernel_rfl)
end Go.Proofs.YtkbgidbledjejaaGreat.En
namespace Go.Sy
theorem AaW {P:Program} {w:World} {t e:TypeId} (hd:P.underlying t=some (.slice e)) (q:Option Addr) (n cap:Nat):(binOp .eql t (.slice q n cap) (.slice none 0 0)).run P w = .ok (.bool q.isNone) w:=by
 show ((Op.equalIn 10000 t (.slice q n cap) (.slice none 0 0)) >>= λr=>pure (.bool r):Sem Value).run P w=_;have:(Op.equalIn 10000 t (.slice q n cap) (.slice none 0 0)).run P w = .ok q.isNone w:=by
  rw [show (10000:Nat)=9999+1 from rfl,Op.equalIn];rw [Sem.run_bind,run_underlying hd w];cases q <;> rfl
 rw [Sem.run_bind,this];rfl
end Go.Sy
namespace Go.Proofs.YtkbgidbledjejaaGreat.En
open Go.Sy Go Go.Proofs.YtkbgidbledjejaaGreat.Ed
noncomputable def A40:Code:=match Tryz.f40.body with
 | some (.seq a _)=>a
 | _=>.skip
noncomputable def LK:Array Oper:=match Tryz.f40.body with
 | some (.seq _ (.seq (.seq (.region _ ops _) _) _))=>ops
 | _=>#[]
noncomputable def ApB:Nat:=match Tryz.f40.body with
 | some (.seq _ (.seq (.seq (.region i _ _) _) _))=>i
 | _=>0
noncomputable def C40:Code:=match Tryz.f40.body with
 | some (.seq _ (.seq (.seq _ c) _))=>c
 | _=>.skip
noncomputable def D40:Code:=match Tryz.f40.body with
 | some (.seq _ (.seq _ d))=>d
 | _=>.skip
theorem AkR:Tryz.f40.body=some (.seq A40 (.seq (.seq (.region ApB LK false) C40) D40)):=by kernel_rfl
theorem Ajp:LK.size=2:=by kernel_rfl
theorem AjX:(LK[0]?.map λo=>(o.op,o.dst,o.guard))=some (.move (.tmp 0),some 3,none):=by kernel_rfl
def AdR:Op->Bool
 | .binOp .eql 22 (.tmp 3) (.const (.slice none 0 0)) _=>true
 | _=>false
theorem AjW:(LK[1]?.map λo=>(AdR o.op,o.dst,o.guard))=some (true,some 4,none):=by kernel_rfl
noncomputable abbrev RH:Cx:=cxA Gl tbZ []
abbrev sl0:V:=.sl 6 0 λ_=>.und
def s40 (x y:V):St:=⟨[sl0,A5,.ref 0,x,y,A5,A5,A5],[.row 46 6 0 λ_=>.und]⟩
theorem AkY:(A8 tab RH A40 0 ⟨sl0::F8 7,[]⟩).sem=some (.nm,s40 A5 A5):=by kernel_rfl
theorem Aog:(A8 tab RH C40 0 (s40 sl0 (bV true))).sem=some (.rt,⟨[sl0,A5,.ref 1,sl0,bV true,A5,A5,A5],[.row 46 6 0 Ac,.row 46 6 0 λ_=>.und]⟩):=by kernel_rfl
theorem Aoh:(A8 tab RH C40 0 (s40 sl0 (bV false))).sem=some (.nm,s40 sl0 (bV false)):=by kernel_rfl
abbrev g40:Nat->V:=BY 0 0 (Cy 0 []) λ_=>.und
theorem AnR:(A8 tab RH D40 0 (s40 sl0 (bV false))).sem=some (.rt,⟨[sl0,A5,.ref 1,sl0,bV false,.und,sl0,.ref 1],[.row 46 6 0 Ac,.row 46 6 0 g40]⟩):=by
 have h:Ci 0 0 40=true:=by decide
 exact DW.ok (.k h .l) (by kernel_rfl)
theorem Aj0 {κ:Ai} {S:Nat->Prop} {a:Act} {w:World} {b:Bool} {Q:Exit->Act->World->Prop} (hr:Rel [] RH.base κ S (s40 sl0 (bV b)) a w)
  (hw:∀ κ' S' a' w' g ts,Rel [] RH.base κ' S' ⟨ts,[.row 46 6 0 Ac,.row 46 6 0 g]⟩ a' w'->nth ts 2 = .ref 1->Ext κ S [.row 46 6 0 Ac] w κ' S' [.row 46 6 0 Ac,.row 46 6 0 g] w'->Q .ret a' w'):C40.wp Tryz.prog (Exit.then (D40.wp Tryz.prog Q) Q) a w:=by
 have hx:=Ba It [] (G:=Gl);cases b with
 | true =>refine wpIn_wide.1 (E1 (P:=Tryz.prog) (ro:=none) Az mixed hx.1 hx.2 C40 0 _ _ κ S a w _ hr Aog (.inl rfl) ?_);intro κ' S' a' w' hr' he;exact hw κ' S' a' w' _ _ hr' rfl he
 | false =>refine wpIn_wide.1 (E1 (P:=Tryz.prog) (ro:=none) Az mixed hx.1 hx.2 C40 0 _ _ κ S a w _ hr Aoh (.inl rfl) ?_);intro κ1 S1 a1 w1 hr1 he1;refine wpIn_wide.1 (E1 (P:=Tryz.prog) (ro:=none) Az mixed hx.1 hx.2 D40 0 _ _ κ1 S1 a1 w1 _ hr1 AnR (.inl rfl) ?_);intro κ' S' a' w' hr' he;exact hw κ' S' a' w' _ _ hr' rfl (he1.trans he)
theorem AoG:∃ e,Tryz.prog.underlying 22=some (.slice e):=by
 have h:(tab[22]?.map λt=>t.k)=some (.sl 46):=by kernel_rfl
 cases ht:tab[22]? with
 | none=>rw [ht] at h; cases h
 | some ty =>rw [ht] at h;obtain ⟨_,d,_,hd,hk,_⟩:=(Az:TabOK Tryz.prog tab).info ht;simp only [Option.map_some,Option.some.injEq] at h;rw [h] at hk;exact ⟨_,(Ee hk.symm) ▸ hd⟩
theorem Ape (g0:Nat->V) {S:Nat->Prop} {W:World} {q:Option Addr} {cap:Nat} (hS:∀ b,S b->b<W.heap.size) (hE:MK Gl S W):Calls Tryz.prog 40 #[.slice q 0 cap] W λe w'=>∃ c κ' S',e = .returned c∧Sy.Good κ' S' [.row 46 6 0 g0] w'∧VR S' w' (.ref 0) κ' c∧Ext noK S [] W κ' S' [.row 46 6 0 g0] w':=by
 have hx:=Ba It [] (G:=Gl);refine calls_of_wp Tryz.func40 AkR ?_;have hsl:VR S W sl0 noK (.slice q 0 cap):=⟨q,cap,rfl,Nat.zero_le _,.inl rfl⟩;have hr:Rel [] RH.base noK S ⟨sl0::F8 7,[]⟩ { tmps:=#[.slice q 0 cap]++Array.replicate (Tryz.f40.ntmps-#[Value.slice q 0 cap].size) undef,defers:=[] } W:=by
  refine ⟨Good.empty hS,hE,?_,rfl⟩;have hn:Tryz.f40.ntmps=8:=by kernel_rfl
  rw [hn];exact ⟨_,_,rfl,hsl,by simpa using G5 (S:=S) (w:=W) (κ:=noK) 7⟩
 refine wp_seq (wpIn_wide.1 (E1 (P:=Tryz.prog) (ro:=none) Az mixed hx.1 hx.2 A40 0 _ _ noK S _ W _ hr AkY (.inl rfl) ?_));intro κ1 S1 a1 w1 hr1 he1;obtain ⟨o0,h0,hop0,hd0,hg0⟩:∃ o,LK[0]? = some o∧o.op = .move (.tmp 0)∧o.dst=some 3∧o.guard=none:=by
  have h:=AjX;cases ho:LK[0]? with
  | none=>rw [ho] at h; cases h
  | some o =>rw [ho] at h;simp only [Option.map_some,Option.some.injEq,Prod.mk.injEq] at h;exact ⟨o,rfl,h.1,h.2.1,h.2.2⟩
 obtain ⟨o1,h1,⟨z,hop1⟩,hd1,hg1⟩:∃ o,LK[1]? = some o∧(∃ z,o.op = .binOp .eql 22 (.tmp 3) (.const (.slice none 0 0)) z)∧o.dst=some 4∧o.guard=none:=by
  have h:=AjW;cases ho:LK[1]? with
  | none=>rw [ho] at h; cases h
  | some o =>
   rw [ho] at h;simp only [Option.map_some,Option.some.injEq,Prod.mk.injEq] at h;obtain ⟨h1,h2,h3⟩:=h;unfold AdR at h1;split at h1
   ·rename_i z hz
    exact ⟨o,rfl,⟨z,hz⟩,h2,h3⟩
   ·cases h1
 obtain ⟨q1,cap1,hc1,_⟩:VR S1 w1 sl0 κ1 (a1.eval (.tmp 0)):=AT hr1.env hr1.tmps (.tmp 0);have hsz:a1.tmps.size=8:=by
  have:=hr1.tmps.length;simpa [s40] using this
 refine wp_seq (wp_seq (wpIn_wide.1 (wpIn_region (n:=0) ?_)));rw [show List.range LK.size=[0,1] by rw [Ajp]; rfl];simp only [wpOpsIn,h0,h1];rw [if_pos (by unfold Region.wanted; rw [hg0])];refine HK (ro:=none) (.inl rfl) ?_;have hrun0:(execOp a1.eval o0).run Tryz.prog w1 = .ok (.value (.slice q1 0 cap1)) w1:=by
  unfold execOp;rw [hop0];show Result.ok (Next.value (a1.eval (.tmp 0))) w1=_;rw [hc1]
 unfold Oper.wp;rw [hrun0,Oper.upon_value,hd0];rw [if_pos (by unfold Region.wanted; rw [hg1])];refine HK (ro:=none) (.inl rfl) ?_;obtain ⟨e,hty⟩:=AoG;have hev:(a1.put (some 3) (.slice q1 0 cap1)).eval (.tmp 3) = .slice q1 0 cap1:=by
  show (a1.put (some 3) (.slice q1 0 cap1)).tmps.getD 3 undef=_;rw [Fc a1 (some 3) _ 3 (by omega)];rfl
 have hrun1:(execOp (a1.put (some 3) (.slice q1 0 cap1)).eval o1).run Tryz.prog w1 = .ok (.value (.bool q1.isNone)) w1:=by
  unfold execOp;rw [hop1];simp only [hev];show ((do eqGuard .eql 22 (.tmp 3) (.const (.slice none 0 0)) (.slice q1 0 cap1) (.slice none 0 0); binOp .eql 22 (.slice q1 0 cap1) (.slice none 0 0):Sem Value) >>= λx=>pure (Next.value x)).run Tryz.prog w1=_
  rw [Sem.run_bind,Sem.run_bind,show (eqGuard .eql 22 (.tmp 3) (.const (.slice none 0 0)) (.slice q1 0 cap1) (.slice none 0 0)).run Tryz.prog w1 = .ok () w1 from rfl,Result.andThen_ok,AaW hty];rfl
 unfold Oper.wp;rw [hrun1,Oper.upon_value,hd1];have hr3:Rel [] RH.base κ1 S1 (s40 sl0 (bV q1.isNone)) ((a1.put (some 3) (.slice q1 0 cap1)).put (some 4) (.bool q1.isNone)) w1:=by
  refine ⟨hr1.good,hr1.env,?_,by rw [BA,BA]; exact hr1.defers⟩;exact Dg (st:=s40 sl0 A5) (d:=some 4) (v:=bV q1.isNone) (Dg (st:=s40 A5 A5) (d:=some 3) (v:=sl0) hr1.tmps (by rw [<- hc1]; exact AT hr1.env hr1.tmps (.tmp 0))) rfl
 refine Aj0 hr3 λκ' S' a' w' g ts hr' h2 he=>?_;have hres:DU tab Tryz.f40 ⟨ts,[.row 46 6 0 Ac,.row 46 6 0 g]⟩=some (.ref 1):=by
  rw [<- h2]
  kernel_rfl
 obtain ⟨c,p1,p2⟩:=HM (P:=Tryz.prog) (Γ:=RH) Az hr' hres;have hp:Aav (.ref 1) [.row 46 6 0 Ac,.row 46 6 0 g]=some (.ref 0,[.row 46 6 0 g]):=by kernel_rfl
 obtain ⟨κ2,z1,z2,z3⟩:=OA hr'.good p2 hp;have h5:Au [.row 46 6 0 g] [.row 46 6 0 g0]:=Au.one λ_ h=>absurd h (Nat.not_lt_zero _);obtain ⟨y1,y2⟩:=h5.good z1;have g3:=he1.trans he;refine ⟨hr'.defers,c,p1,c,κ2,S',rfl,y1,z2,Ext.ofNil g3.os g3.tape g3.output g3.size g3.keep (λi b hb=>?_) g3.sub g3.sup (h5.rows (FD hp))⟩;rw [y2] at hb;obtain ⟨j,hj⟩:=z3 i b hb;exact g3.own j b hj
def AeD:List V->A2:=NI λk w=>.br (Ci 0 k 40) (.leaf (.ref 0,[.row 46 6 k λi=>eV (w i)])) .fail
def AeE:List V->A2
 | [.sl 6 k g]=>.br (RA 0 k) (.br (Ci 0 k 40) (.leaf (.ref 0,[.row 46 6 k g])) .fail) .fail
 | _=>.fail
theorem Ak5 (k:Nat) (g:Nat->V) (hk:0<k):∀ j,j<k->g j=BY 0 k (Cy 0 []) g j:=λj hj=>by
 unfold BY;split
 ·obtain rfl:j=0:=by omega
  rw [BS];rfl
 ·rw [NF]
  rfl
theorem Anc:As Tryz.prog Gl 40 AeE:=by
 refine Ah Az mixed Tryz.func40 (by kernel_rfl) (by kernel_rfl) λvs u h' h=>?_;unfold AeE at h;split at h
 ·rename_i k g
  obtain ⟨h1,h⟩:=Ab h;obtain ⟨h2,h⟩:=Ab h;have:=Aa h;simp only [Prod.mk.injEq] at this;obtain ⟨rfl,rfl⟩:=this;have hx:=Ba It [] (G:=Gl);exact ⟨[.sl 6 k g],RH,[.row 46 6 (Bh 0 k) (BY 0 k (Cy 0 []) g)],B0.refl _,rfl,hx.1,hx.2,DW.ok (.k h1 <| .k eF <| .k h2 .l) (by kernel_rfl),by
   rw [show Bh 0 k=k from Nat.zero_add k];exact Au.one (Ak5 k g (Nat.le_of_ble_eq_true h1))⟩
 ·cases h
theorem p40:As Tryz.prog Gl 40 AeD:=by
 refine ⟨Anc.1,λvs cs S W v h' hS hE hv he=>?_⟩;obtain ⟨k,w,ha,h⟩:=CH he;obtain ⟨h2,h⟩:=Ab h;have:=Aa h;simp only [Prod.mk.injEq] at this;obtain ⟨rfl,rfl⟩:=this;have hv:=ha S W cs hv;rcases Nat.eq_zero_or_pos k with rfl | hk
 ·obtain ⟨c,l,rfl,⟨q,cap,rfl,_⟩,hl⟩:=hv
  have hl:l=[]:=hl;subst hl;refine ⟨λi b hb=>?_,Ape _ hS hE⟩;cases i with
  | zero =>simp only [List.getElem?_cons_zero,Option.some.injEq] at hb;subst hb;exact .inl ⟨_,_,_,_,rfl⟩
  | succ i=>simp at hb
 ·exact Anc.2 [Am k w] cs S W _ _ hS hE hv (by
   show (T.br (RA 0 k) (T.br (Ci 0 k 40) _ .fail) .fail).sem=_;rw [show RA 0 k=true from Nat.ble_eq_true_of_le hk,h2];rfl)
end Go.Proofs.YtkbgidbledjejaaGreat.En
namespace Go.Proofs.YtkbgidbledjejaaGreat.En
open Go.Sy Go Go.Proofs.YtkbgidbledjejaaGreat.Ed
set_option maxRecDepth 100000
structure N4 where
 a:Nat
 b:Nat
 c:Nat
 d:Nat
def N4.mul (m k:N4):N4:=⟨m.a * k.a+m.b * k.c,m.a * k.b+m.b * k.d,m.c * k.a+m.d * k.c,m.c * k.b+m.d * k.d⟩
def N4.one:N4:=⟨1,0,0,1⟩
def N4.pow (m:N4):Nat->N4
 | 0=>N4.one
 | k+1=>(m.pow k).mul m
def N4.tr (m:N4):Nat:=m.a+m.d
def trI (m:N4) (k:Nat):Int:=Int.ofNat (m.pow k).tr
def getE:List E6->Nat->E6
 | []=>λ_=>Bv
 | x::l=>λi=>bif Nat.beq i l.length then x else getE l i
def Kw (g:Nat->E6) (e:E6):Nat->Nat->Bool
 | 0,_=>false
 | d+1,i=>bor (eqE (g i) e) (Kw g e d (i+1))
def AG (f:Nat->E6):Nat->List E6
 | 0=>[]
 | i+1=>match Kw (getE (AG f i)) (f i) (AG f i).length 0 with
  | true=>AG f i
  | false=>f i::AG f i
def cls (e:E6):Nat:=(if e.src=1 then 0 else 2)+(if e.dst=1 then 0 else 1)
def Db:List E6->Nat->Nat
 | [],_=>0
 | e::l,q=>if cls e=q then Db l q+1 else Db l q
def Nl (n:Nat) (f:Nat->E6):N4:=⟨Db (AG f n) 0,Db (AG f n) 1,Db (AG f n) 2,Db (AG f n) 3⟩
def C5 (n:Nat) (f:Nat->E6) (t:Nat):Int:=trI (Nl n f) t
def Lm (k:Nat) (w:Nat->E6) (j:Int):Bool:=Av (By k w) (Av (ile 1 j) (Av (ile j 16) (decide (k <= 128))))
def RQ:List V->A2
 | [u,.val (.int .i64 j)]=>apL u λk w=>.br (Lm k w j) (.br (ilt (C5 k w (toN j)) 9223372036854775808) (.leaf (.tup [iV (C5 k w (toN j)),iV 0],[])) (.leaf (.tup [iV 0,iV 3],[]))) .fail
 | _=>.fail
end Go.Proofs.YtkbgidbledjejaaGreat.En
namespace Go.Proofs.YtkbgidbledjejaaGreat.En
open Go.Sy Go Go.Proofs.YtkbgidbledjejaaGreat.Ed
set_option maxRecDepth 100000
def BZ (x y:Int):Int:=if 9223372036854775808 <= x+y then 9223372036854775808 else x+y
end Go.Proofs.YtkbgidbledjejaaGreat.En
namespace Go.Proofs.YtkbgidbledjejaaGreat.En
open Go.Sy Go Go.Proofs.YtkbgidbledjejaaGreat.Ed
set_option maxRecDepth 100000
theorem Afo {x:Int} (h:0 <= x) (h2:x<9223372036854775808):wr .i64 x=x:=by
 unfold wr IntKind.wrap;simp [IntKind.bits,IntKind.signed];omega
end Go.Proofs.YtkbgidbledjejaaGreat.En
namespace Go.Proofs.YtkbgidbledjejaaGreat.En
open Go.Sy Go Go.Proofs.YtkbgidbledjejaaGreat.Ed
set_option maxRecDepth 100000
def gU:V->Option Int
 | .val (.int .u64 n)=>some n
 | _=>none
theorem Mf {v:V} {n:Int} (h:gU v=some n):v = .val (.int .u64 n):=by
 unfold gU at h;split at h
 ·simp at h; subst h; rfl
 ·cases h
def uV (n:Int):V:=.val (.int .u64 n)
def t0:AH:=[]
theorem Aci:Ao Tryz.prog Gl t0:=.nil
def okU (x:Int):Bool:=decide (0 <= x) && decide (x <= 9223372036854775808)
def BO (x y:Int):Int:=if 9223372036854775808 <= x * y then 9223372036854775808 else x * y
def Jy (x y:Int):Int:=x * y / 18446744073709551616
def Ob (x y:Int):Int:=x * y % 18446744073709551616
theorem DV {x:Int}:okU x=true↔0 <= x∧x <= 9223372036854775808:=by simp [okU]
theorem Afn (x:Int):wr .u64 x=x % 18446744073709551616:=by
 unfold wr IntKind.wrap;simp [IntKind.bits,IntKind.signed]
theorem Aec:∀ v a,gU v=some a->v=uV a:=λ_ _ h=>Mf h
def uuT (F:Int->Int->V):List V->A2:=ap2 gU gU λx y=>.br (okU x) (.br (okU y) (out (F x y)) .fail) .fail
theorem Ph {F:Int->Int->V} {vs:List V} {r:V×List Blk} (h:(uuT F vs).sem=some r):∃ x y,vs=[uV x,uV y]∧okU x=true∧okU y=true∧r=(F x y,[]):=by
 obtain ⟨x,y,rfl,h⟩:=He Aec Aec h;obtain ⟨h1,h⟩:=Ab h;obtain ⟨h2,h⟩:=Ab h;exact ⟨x,y,rfl,h1,h2,Aa h⟩
theorem Afs (x y:Int):(AK (Ar tab (BP Gl t0 []) Tryz.f118 [uV x,uV y] [])).sem=sel (ile (wr IntKind.u64 (Ay 9223372036854775808 y)) x) (some (uV 9223372036854775808,[])) (some (uV (wr IntKind.u64 (Aj x y)),[])):=by kernel_rfl
theorem AcU:As Tryz.prog Gl 118 (uuT λx y=>uV (BZ x y)):=by
 refine As.congr (AO Az mixed Tryz.func118 (by kernel_rfl) (by kernel_rfl) (Γ:=BP Gl t0 []) (Bm Aci _)) λvs r h=>?_;obtain ⟨x,y,rfl,h1,h2,rfl⟩:=Ph h;have h1:=DV.1 h1;have h2:=DV.1 h2;refine (Afs x y).trans ?_;have e1:wr IntKind.u64 (Ay 9223372036854775808 y)=9223372036854775808-y:=by rw [Afn]; unfold Ay; omega
 rw [e1];unfold BZ;by_cases hc:9223372036854775808 <= x+y
 ·rw [if_pos hc,OF (by omega)]
  rfl
 ·rw [if_neg hc,V8 (by omega)]
  have e2:wr IntKind.u64 (Aj x y)=x+y:=by rw [Afn]; unfold Aj; omega
  rw [e2];rfl
theorem Afq (x y:Int):(AK (Ar tab (BP Gl t0 []) Tryz.f124 [uV x,uV y] [])).sem=some (.tup [uV (wr IntKind.u64 (Aj (wr IntKind.u64 (Aj (wr IntKind.u64 (Bs (Nv IntKind.u64 x 32) (Nv IntKind.u64 y 32))) (Nv IntKind.u64 (wr IntKind.u64 (Aj (wr IntKind.u64 (Bs (Nv IntKind.u64 x 32) (GW BinOp.and IntKind.u64 y 4294967295))) (Nv IntKind.u64 (wr IntKind.u64 (Bs (GW BinOp.and IntKind.u64 x 4294967295) (GW BinOp.and IntKind.u64 y 4294967295))) 32))) 32))) (Nv IntKind.u64 (wr IntKind.u64 (Aj (GW BinOp.and IntKind.u64 (wr IntKind.u64 (Aj (wr IntKind.u64 (Bs (Nv IntKind.u64 x 32) (GW BinOp.and IntKind.u64 y 4294967295))) (Nv IntKind.u64 (wr IntKind.u64 (Bs (GW BinOp.and IntKind.u64 x 4294967295) (GW BinOp.and IntKind.u64 y 4294967295))) 32))) 4294967295) (wr IntKind.u64 (Bs (GW BinOp.and IntKind.u64 x 4294967295) (Nv IntKind.u64 y 32))))) 32))),uV (wr IntKind.u64 (Bs x y))],[]):=by kernel_rfl
theorem Amh (x:Int):Nv IntKind.u64 x 32=x / 4294967296:=by
 have:Nv IntKind.u64 x 32=x.fdiv 4294967296:=rfl;rw [this,Int.fdiv_eq_ediv_of_nonneg x (by omega)]
theorem Apk:As Tryz.prog Gl 124 (uuT λx y=>.tup [uV (Jy x y),uV (Ob x y)]):=by
 refine As.congr (AO Az mixed Tryz.func124 (by kernel_rfl) (by kernel_rfl) (Γ:=BP Gl t0 []) (Bm Aci _)) λvs r h=>?_;obtain ⟨x,y,rfl,h1,h2,rfl⟩:=Ph h;have h1:=DV.1 h1;have h2:=DV.1 h2;refine (Afq x y).trans ?_;have a1:GW BinOp.and IntKind.u64 x 4294967295=x % 4294967296:=and_low32 x h1.1 (by omega);have a2:GW BinOp.and IntKind.u64 y 4294967295=y % 4294967296:=and_low32 y h2.1 (by omega);have a3:∀ z:Int,0 <= z->z<18446744073709551616->GW BinOp.and IntKind.u64 z 4294967295=z % 4294967296:=λz q1 q2=>and_low32 z q1 q2;have hm:=mul64_arith x y h1.1 (by omega) h2.1 (by omega);simp only [Amh,a1,a2,Afn,Bs,Aj];rw [a3 _ (Int.emod_nonneg _ (by omega)) (Int.emod_lt_of_pos _ (by omega)),hm];rfl
noncomputable def AiV:AH:=[(124,uuT λx y=>.tup [uV (Jy x y),uV (Ob x y)]),(118,uuT λx y=>uV (BZ x y))]
theorem Af0:Ao Tryz.prog Gl AiV:=.cons Apk <| .cons AcU .nil
theorem Afr (x y:Int):(AK (Ar tab (BP Gl AiV []) Tryz.f122 [uV x,uV y] [])).sem=(sel (okU x) (sel (okU y) (sel (ilt 0 (Jy x y)) (sel (ilt 0 (Jy x y)) (sel (ilt 0 (Jy x y)) (some ((uV 9223372036854775808),[])) none) none) (sel (ilt 0 (Jy x y)) (sel (ilt 0 (Jy x y)) (some ((uV 9223372036854775808),[])) none) (sel (ilt 0 (Jy x y)) (some ((uV 9223372036854775808),[])) (sel (ilt 9223372036854775808 (Ob x y)) (some ((uV 9223372036854775808),[])) (some ((uV (Ob x y)),[])))))) none) none):=by kernel_rfl
theorem Apl:As Tryz.prog Gl 122 (uuT λx y=>uV (BO x y)):=by
 refine As.congr (AO Az mixed Tryz.func122 (by kernel_rfl) (by kernel_rfl) (Γ:=BP Gl AiV []) (Bm Af0 _)) λvs r h=>?_;obtain ⟨x,y,rfl,h1,h2,rfl⟩:=Ph h;refine (Afr x y).trans ?_;rw [h1,h2];have h1:=DV.1 h1;have h2:=DV.1 h2;have hp:0 <= x * y:=Int.mul_nonneg h1.1 h2.1;unfold BO;have hi:Jy x y=x * y / 18446744073709551616:=rfl;have lo:Ob x y=x * y % 18446744073709551616:=rfl;generalize x * y=p at *;by_cases hc:18446744073709551616 <= p
 ·rw [IA (show 0<Jy x y by rw [hi]; omega),if_pos (by omega)]
  rfl
 ·rw [GT (show Jy x y <= 0 by rw [hi]; omega)]
  by_cases hd:9223372036854775808<p
  ·rw [IA (show 9223372036854775808<Ob x y by rw [lo]; omega),if_pos (by omega)]
   rfl
  ·rw [GT (show Ob x y <= 9223372036854775808 by rw [lo]; omega)]
   have e:Ob x y=p:=by rw [lo]; omega
   rw [e];by_cases hz:9223372036854775808 <= p
   ·have:p=9223372036854775808:=by omega
    rw [if_pos hz,this];rfl
   ·rw [if_neg hz]
    rfl
theorem AiQ (x:Int):(AK (Ar tab (BP Gl t0 []) Tryz.f97 [uV x] [])).sem=(sel (ile 9223372036854775808 x) (some ((.tup [iV 0,iV 3]),[])) (some ((.tup [iV (wr .i64 x),iV 0]),[]))):=by kernel_rfl
def Acn:List V->A2:=ap1 gU λx=>.br (okU x) (.br (ile 9223372036854775808 x) (out (.tup [iV 0,iV 3])) (out (.tup [iV x,iV 0]))) .fail
theorem AoZ:As Tryz.prog Gl 97 Acn:=by
 refine As.congr (AO Az mixed Tryz.func97 (by kernel_rfl) (by kernel_rfl) (Γ:=BP Gl t0 []) (Bm Aci _)) λvs r h=>?_;obtain ⟨x,rfl,h⟩:=Rb Aec h;obtain ⟨h1,h⟩:=Ab h;have h1:=DV.1 h1;refine (AiQ x).trans ?_;by_cases hc:9223372036854775808 <= x
 ·rw [OF hc] at h ⊢
  rw [Aa h];rfl
 ·rw [V8 (by omega)] at h ⊢
  rw [Aa h];have e:wr .i64 x=x:=by
   unfold wr IntKind.wrap;simp [IntKind.bits,IntKind.signed];omega
  rw [e];rfl
end Go.Proofs.YtkbgidbledjejaaGreat.En
namespace Go.Proofs.YtkbgidbledjejaaGreat.En
open Go.Sy Go Go.Proofs.YtkbgidbledjejaaGreat.Ed
set_option maxRecDepth 100000
def Dp (n:Nat):List (Nat×Lp):=[(0,⟨[],1000,[],1000,n⟩),(1,⟨[],1000,[],1000,n⟩),(2,⟨[],1000,[],1000,n⟩),(3,⟨[],1000,[],1000,n⟩),(4,⟨[],1000,[],1000,n⟩),(5,⟨[],1000,[],1000,n⟩),(6,⟨[],1000,[],1000,n⟩),(7,⟨[],1000,[],1000,n⟩),(8,⟨[],1000,[],1000,n⟩)]
noncomputable def Afz:AH:=[(122,uuT λx y=>uV (BO x y)),(118,uuT λx y=>uV (BZ x y))]
theorem Afy:Ao Tryz.prog Gl Afz:=.cons Apl <| .cons AcU .nil
theorem Aft (a0 a1 a2 a3 b0 b1 b2 b3:Int):(AK (Ar tab (BP Gl Afz (Dp 10)) Tryz.f117 [.agg [uV a0,uV a1,uV a2,uV a3],.agg [uV b0,uV b1,uV b2,uV b3]] [])).sem =
 (sel (okU a0) (sel (okU b0) (sel (okU 0) (sel (okU (BO a0 b0)) (sel (okU a1) (sel (okU b2) (sel (okU (BZ 0 (BO a0 b0))) (sel (okU (BO a1 b2)) (sel (okU a0) (sel (okU b1) (sel (okU 0) (sel (okU (BO a0 b1)) (sel (okU a1) (sel (okU b3) (sel (okU (BZ 0 (BO a0 b1))) (sel (okU (BO a1 b3)) (sel (okU a2) (sel (okU b0) (sel (okU 0) (sel (okU (BO a2 b0)) (sel (okU a3) (sel (okU b2) (sel (okU (BZ 0 (BO a2 b0))) (sel (okU (BO a3 b2)) (sel (okU a2) (sel (okU b1) (sel (okU 0) (sel (okU (BO a2 b1)) (sel (okU a3) (sel (okU b3) (sel (okU (BZ 0 (BO a2 b1))) (sel (okU (BO a3 b3)) (some ((.agg [uV (BZ (BZ 0 (BO a0 b0)) (BO a1 b2)),uV (BZ (BZ 0 (BO a0 b1)) (BO a1 b3)),uV (BZ (BZ 0 (BO a2 b0)) (BO a3 b2)),uV (BZ (BZ 0 (BO a2 b1)) (BO a3 b3))]),[])) none) none) none) none) none) none) none) none) none) none) none) none) none) none) none) none) none) none) none) none) none) none) none) none) none) none) none) none) none) none) none) none):=by kernel_rfl
theorem DY {x y:Int} (hx:okU x=true) (hy:okU y=true):okU (BZ x y)=true:=by
 have hx:=DV.1 hx;have hy:=DV.1 hy;refine DV.2 ?_;unfold BZ;split <;> omega
theorem EE {x y:Int} (hx:okU x=true) (hy:okU y=true):okU (BO x y)=true:=by
 have hx:=DV.1 hx;have hy:=DV.1 hy;have hp:0 <= x * y:=Int.mul_nonneg hx.1 hy.1;refine DV.2 ?_;unfold BO;split <;> omega
structure M4 where
 a:Int
 b:Int
 c:Int
 d:Int
def M4.ok (m:M4):Bool:=okU m.a && (okU m.b && (okU m.c && okU m.d))
def M4.v (m:M4):V:=.agg [uV m.a,uV m.b,uV m.c,uV m.d]
def M4.mul (m k:M4):M4:=⟨BZ (BZ 0 (BO m.a k.a)) (BO m.b k.c),BZ (BZ 0 (BO m.a k.b)) (BO m.b k.d),BZ (BZ 0 (BO m.c k.a)) (BO m.d k.c),BZ (BZ 0 (BO m.c k.b)) (BO m.d k.d)⟩
theorem M4.ok_iff {m:M4}:m.ok=true↔okU m.a=true∧okU m.b=true∧okU m.c=true∧okU m.d=true:=by simp [M4.ok]
theorem M4.ok_mul {m k:M4} (hm:m.ok=true) (hk:k.ok=true):(m.mul k).ok=true:=by
 obtain ⟨a1,a2,a3,a4⟩:=M4.ok_iff.1 hm;obtain ⟨b1,b2,b3,b4⟩:=M4.ok_iff.1 hk;have z:okU 0=true:=rfl;exact M4.ok_iff.2 ⟨DY (DY z (EE a1 b1)) (EE a2 b3),DY (DY z (EE a1 b2)) (EE a2 b4),DY (DY z (EE a3 b1)) (EE a4 b3),DY (DY z (EE a3 b2)) (EE a4 b4)⟩
theorem AbQ (m k:M4) (hm:m.ok=true) (hk:k.ok=true):(AK (Ar tab (BP Gl Afz (Dp 10)) Tryz.f117 [m.v,k.v] [])).sem=some ((m.mul k).v,[]):=by
 obtain ⟨a1,a2,a3,a4⟩:=M4.ok_iff.1 hm;obtain ⟨b1,b2,b3,b4⟩:=M4.ok_iff.1 hk;have z:okU 0=true:=rfl;have hP:=fun {x y:Int} (hx:okU x=true) (hy:okU y=true)=>EE hx hy;have hS:=fun {x y:Int} (hx:okU x=true) (hy:okU y=true)=>DY (DY z hx) hy;refine (Aft m.a m.b m.c m.d k.a k.b k.c k.d).trans ?_;simp only [a1,a2,a3,a4,b1,b2,b3,b4,z,EE,DY,GM];rfl
def gM:V->Option M4
 | .agg [a,b,c,d]=>match gU a,gU b,gU c,gU d with
  | some a,some b,some c,some d=>some ⟨a,b,c,d⟩
  | _,_,_,_=>none
 | _=>none
theorem Aip:∀ v m,gM v=some m->v=m.v:=by
 intro v m h;unfold gM at h;split at h
 ·split at h
  ·rename_i h1 h2 h3 h4
   simp only [Option.some.injEq] at h;subst h;rw [Mf h1,Mf h2,Mf h3,Mf h4];rfl
  ·cases h
 ·cases h
def Ank:List V->A2:=ap2 gM gM λm k=>.br m.ok (.br k.ok (out (m.mul k).v) .fail) .fail
theorem Apn:As Tryz.prog Gl 117 Ank:=by
 refine As.congr (AO Az mixed Tryz.func117 (by kernel_rfl) (by kernel_rfl) (Γ:=BP Gl Afz (Dp 10)) (Bm Afy _)) λvs r h=>?_;obtain ⟨m,k,rfl,h⟩:=He Aip Aip h;obtain ⟨h1,h⟩:=Ab h;obtain ⟨h2,h⟩:=Ab h;rw [Aa h];exact AbQ m k h1 h2
end Go.Proofs.YtkbgidbledjejaaGreat.En
