/-
  The condition that some things have some values (cond.All), of things and values that may be. No conditions.
-/
import Derived.Test.YthlojajaenfidaaGreatDoorShW
namespace Go.Proofs.YthlojajaenfidaaGreatDoor.Em
open Go.Sy Go Go.Proofs.YthlojajaenfidaaGreatDoor.Ed Go.Proofs.YthlojajaenfidaaGreatDoor.Sh
open Int (ofNat)
set_option maxRecDepth 100000
noncomputable def Anr:List V->T (V × List Blk):=λvs=>Au (Ah tab (AN Gl [] []) Tryz.f101 vs [])
noncomputable def Anq:List V->T (V × List Blk):=λvs=>Au (Ah tab (AN Gl [] []) Tryz.f102 vs [])
noncomputable def tb86:List (Nat × (List V->T (V × List Blk))):=[(101,Anr),(102,Anq)]
theorem tb86_ok:A8 Tryz.prog Gl tb86:=.cons (AL AI mixed Tryz.func101 (by kernel_rfl) (by kernel_rfl) (AK A8.nil _)) <| .cons (AL AI mixed Tryz.func102 (by kernel_rfl) (by kernel_rfl) (AK A8.nil _)) .nil
def Aaw:List (List UInt8):=[[120],[121],[122],[97],[98],[99],[100],[101],[102],[103],[104],[105],[106],[107],[108],[109]]
def Ta (l:List UInt8):Bool:=Aaw.any λx=>seq x l
def lp86:Lp:=⟨List.replicate 40 true,0,List.replicate 40 true,0,3⟩
theorem Yb:Aaw.map (λl=>(Au (Ah tab (AN Gl tb86 [(0,lp86)]) Tryz.f86 [.str l] [])).sem) = Aaw.map λ_=>some (bV true,[]):=by kernel_rfl
def Aax:List V->T (V × List Blk)
 | [.str l]=>.br (Ta l) (out (bV true)) .fail
 | _=>.fail
theorem p86:A6 Tryz.prog Gl 86 Aax:=by
 refine Av AI mixed Tryz.func86 (by kernel_rfl) (by kernel_rfl) λvs v h' h=>?_
 unfold Aax at h
 split at h
 ·rename_i l
  obtain ⟨h1,hq⟩:=Ad h
  have:=Ac hq
  simp only [Prod.mk.injEq] at this
  obtain ⟨rfl,rfl⟩:=this
  have hx:=AK tb86_ok [(0,lp86)]
  obtain ⟨y,hy,e⟩:=List.any_eq_true.1 h1
  have e:y = l:=by simpa [seq] using e
  subst e
  exact ⟨_,AN Gl tb86 [(0,lp86)],_,Bm.refl _,rfl,hx.1,hx.2,List.map_inj_left.1 Yb y hy,A0.refl _⟩
 ·cases h
def ZP:List V->T (V × List Blk)
 | [.val (.int .i64 a)]=>.br (ieq a 2) (out (iV 32)) .fail
 | _=>.fail
theorem Akw:(Au (Ah tab (AN Gl [] []) Tryz.f87 [iV 2] [])).sem = some (iV 32,[]):=by kernel_rfl
theorem p87:A6 Tryz.prog Gl 87 ZP:=by
 refine Av AI mixed Tryz.func87 (by kernel_rfl) (by kernel_rfl) λvs v h' h=>?_
 unfold ZP at h
 split at h
 ·rename_i a
  obtain ⟨h1,hq⟩:=Ad h
  have:=Ac hq
  simp only [Prod.mk.injEq] at this
  obtain ⟨rfl,rfl⟩:=this
  have hx:=AK (P:=Tryz.prog) (G:=Gl) A8.nil []
  have h1:a = 2:=by simpa [ieq] using h1
  subst h1
  exact ⟨_,AN Gl [] [],_,Bm.refl _,rfl,hx.1,hx.2,Akw,A0.refl _⟩
 ·cases h
def Jo (x:Int):Bool:=bif ile (-2147483648) x then ile x 2147483647 else false
noncomputable def Wh:List (Nat × (List V->T (V × List Blk))):=[]
theorem Zm:A8 Tryz.prog Gl Wh:=.nil
theorem AlT (L:LT) (x:Int) (h0:ile (-2147483648) x = true):(Au (Ah tab ⟨Ak Wh,L,Gl⟩ Tryz.f64 [iV x] [])).sem = some ((bV (ile x 2147483647)),[]):=by
 exact Aa (ks:=[kn h0,kn h0,kn h0]) (by kernel_rfl)
def Aap:List V->T (V × List Blk)
 | [.val (.int .i64 a)]=>.br (Jo a) (out (bV true)) .fail
 | _=>.fail
theorem p64:A6 Tryz.prog Gl 64 Aap:=by
 refine Av AI mixed Tryz.func64 (by kernel_rfl) (by kernel_rfl) λvs v h' h=>?_
 unfold Aap at h
 split at h
 ·rename_i a
  obtain ⟨h1,hq⟩:=Ad h
  have:=Ac hq
  simp only [Prod.mk.injEq] at this
  obtain ⟨rfl,rfl⟩:=this
  have hx:=AK Zm []
  unfold Jo at h1
  cases h2:ile (-2147483648) a with
  | false=>rw [h2] at h1; cases h1
  | true =>
   rw [h2] at h1
   have h1:ile a 2147483647 = true:=h1
   have:=AlT (AN Gl Wh []).loop a h2
   rw [h1] at this
   exact ⟨_,AN Gl Wh [],_,Bm.refl _,rfl,hx.1,hx.2,this,A0.refl _⟩
 ·cases h
def tgB (t r:Int) (l:List UInt8):Bool:=bif ieq t (-1) then (ieq r 0 && Ta l) else (ile 0 t && (ilt t 16 && (ile 0 r && (ilt r 32 && seq l []))))
noncomputable def tb63:List (Nat × (List V->T (V × List Blk))):=[(86,Aax),(87,ZP)]
theorem tb63_ok:A8 Tryz.prog Gl tb63:=.cons p86 <| .cons p87 .nil
section
variable (L:LT) (t r:Int) (l:List UInt8)
include L t r l
theorem AlV (h0:ieq t (-1) = true) (h1:ieq r 0 = true) (h28:Ta l = true):(Au (Ah tab ⟨Ak tb63,L,Gl⟩ Tryz.f63 [iV 2,.agg [iV t,iV r,.str l]] [])).sem = some ((bV true),[]):=by
 exact Aa (ks:=[kn h0,kn h1,kn h1,kn h1,kn h28,kn h1]) (by kernel_rfl)
theorem AlU (h0:ieq t (-1) = false) (h1:ile 0 t = true) (h2:ilt t 16 = true) (h3:ile 0 r = true) (h4:ilt r 32 = true):(Au (Ah tab ⟨Ak tb63,L,Gl⟩ Tryz.f63 [iV 2,.agg [iV t,iV r,.str l]] [])).sem = some ((bV (seq l [])),[]):=by
 exact Aa (ks:=[kn h0,kn h1,kn h1,kn h1,kn h1,kn h2,kn h2,kn h2,kn h2,kn h3,kn h3,kn h3,kn h3,kI 2,kn h3,kn h3,kn h4,kn h4,kn h4,kn h4]) (by kernel_rfl)
end
def tgT:List V->T (V × List Blk)
 | [.val (.int .i64 a),.agg [.val (.int .i64 t),.val (.int .i64 r),.str l]]=>.br (ieq a 2) (.br (tgB t r l) (out (bV true)) .fail) .fail
 | _=>.fail
theorem p63:A6 Tryz.prog Gl 63 tgT:=by
 refine Av AI mixed Tryz.func63 (by kernel_rfl) (by kernel_rfl) λvs v h' h=>?_
 unfold tgT at h
 split at h
 ·rename_i a t r l
  obtain ⟨h0,h⟩:=Ad h
  obtain ⟨h1,hq⟩:=Ad h
  have:=Ac hq
  simp only [Prod.mk.injEq] at this
  obtain ⟨rfl,rfl⟩:=this
  have hx:=AK tb63_ok []
  have h0:a = 2:=by simpa [ieq] using h0
  subst h0
  unfold tgB at h1
  cases h2:ieq t (-1) with
  | true =>
   rw [h2] at h1
   simp only [cond_true,Bool.and_eq_true] at h1
   exact ⟨_,AN Gl tb63 [],_,Bm.refl _,rfl,hx.1,hx.2,AlV _ t r l h2 h1.1 h1.2,A0.refl _⟩
  | false =>
   rw [h2] at h1
   simp only [cond_false,Bool.and_eq_true] at h1
   have:=AlU (AN Gl tb63 []).loop t r l h2 h1.1 h1.2.1 h1.2.2.1 h1.2.2.2.1
   rw [h1.2.2.2.2] at this
   exact ⟨_,AN Gl tb63 [],_,Bm.refl _,rfl,hx.1,hx.2,this,A0.refl _⟩
 ·cases h
structure Tg where
 th:Int
 rg:Int
 lc:List UInt8
def tgV (x:Tg):V:=.agg [iV x.th,iV x.rg,.str x.lc]
def Acq:V->Option Tg
 | .agg [.val (.int .i64 a),.val (.int .i64 b),.str l]=>some ⟨a,b,l⟩
 | _=>none
theorem X3 {v:V} {e:Tg} (h:Acq v = some e):v = tgV e:=by
 unfold Acq at h
 split at h
 ·simp only [Option.some.injEq] at h
  subst h
  rfl
 ·cases h
def Aib (v:V):Bool:=match Acq v with
 | some _=>true
 | none=>false
def Ai2 (v:V):Tg:=match Acq v with
 | some e=>e
 | none=>⟨0,0,[]⟩
theorem XW {v:V} (h:Aib v = true):v = tgV (Ai2 v):=by
 unfold Aib at h
 unfold Ai2
 split at h
 ·rename_i e he
  exact X3 he
 ·cases h
def Al6:Cod Tg:=⟨3,tgV,Aib,Ai2,λv h S w c hv=>by rw [<- XW h]; exact hv⟩
def Anl (x:V):Nat->V:=A2 0 (λ_=>.und) x
noncomputable def RY:List (Nat × (List V->T (V × List Blk))):=[(63,tgT),(64,Aap)]
theorem Ac1:A8 Tryz.prog Gl RY:=.cons p63 <| .cons p64 .nil
def F1 (n:Nat) (X:Nat->Tg) (m:Nat) (f:Nat->Int):Lp:=⟨(bmK 65 0 [0,1,4,5,6,22,23,24]),2,(bmK 65 0 [4,5,6]),2,(n+1)⟩
def Q6 (n:Nat) (X:Nat->Tg) (m:Nat) (f:Nat->Int) (b:Nat) (g:Nat->V) (j:Nat->V):St:=⟨(jsV 65 0 j [(0,.sl 3 n λi=>tgV (X i)),(1,.sl 1 m λi=>iV (f i)),(4,.ptr 0 0),(5,iV 0),(6,.ref 1),(22,.sl 3 n λi=>tgV (X i)),(23,nV n),(24,nV b)]),[.cells [iV 0,iV 0,iV 0,iV 0,.str [],iV 0,.nilS],.row 38 6 b g]⟩
def IP (n:Nat) (X:Nat->Tg) (m:Nat) (f:Nat->Int) (b:Nat) (g:Nat->V):Ex × St:=(.ex 1,⟨(jsV 65 0 (λ_=>.und) [(4,.ptr 0 0),(5,iV 0),(6,.ref 1)]),[.cells [iV 0,iV 0,iV 0,iV 0,.str [],iV 0,.nilS],.row 38 6 b g]⟩)
noncomputable def F6 (L:LT):St->T (Ex × St):=λst=>AD tab ⟨Ak RY,L,Gl⟩ (As Tryz.f46 1) 1 st
section
variable (L:LT) (n:Nat) (X:Nat->Tg) (m:Nat) (f:Nat->Int) (b:Nat) (g:Nat->V)  (j:Nat->V)
include L n X m f b g j
theorem Am6 (h0:ilt (ofNat b) (ofNat n) = false):Ag (F6 L) (F1 n X m f) (Q6 n X m f b g j) = some ((.ex 1),⟨(jsV 65 0 (λ_=>.und) [(4,(.ptr 0 0)),(5,(iV 0)),(6,(.ref 1))]),[(.cells [(iV 0),(iV 0),(iV 0),(iV 0),(.str []),(iV 0),.nilS]),(.row 38 6 b g)]⟩):=by
 exact Aa (ks:=[kn h0]) (by kernel_rfl)
theorem Am5 (h0:ilt (ofNat b) (ofNat n) = true) (h27:ile 0 (ofNat b) = true) (h28:tgB ((X b)).th ((X b)).rg ((X b)).lc = true) (h29:Al (ile 0 (ofNat b)) (ilt (ofNat b) (ofNat m)) = true) (h30:Jo (f b) = true) (h31:Bx b 1 72 = true):Ag (F6 L) (F1 n X m f) (Q6 n X m f b g j) = some (.nm,⟨(jsV 65 0 (λ_=>.und) [(0,(.sl 3 n (λi=>(.agg [(iV ((X i)).th),(iV ((X i)).rg),(.str ((X i)).lc)])))),(1,(.sl 1 m (λi=>(iV (f i))))),(4,(.ptr 0 0)),(5,(iV 0)),(6,(.ref 1)),(22,(.sl 3 n (λi=>(.agg [(iV ((X i)).th),(iV ((X i)).rg),(.str ((X i)).lc)])))),(23,(nV n)),(24,(iV (wr .i64 (Af (ofNat b) 1))))]),[(.cells [(iV 0),(iV 0),(iV 0),(iV 0),(.str []),(iV 0),.nilS]),(.row 38 6 (Bd b 1) (A2 b g (.agg [(iV 2),(iV ((X b)).th),(iV ((X b)).rg),(.str ((X b)).lc),(iV (f b)),.nilS])))]⟩):=by
 exact Aa (ks:=[kn h0,kA (kn h27) (kn h0),kI 2,kn h28,kN kT,kN kT,kN kT,kn h29,kN kT,kN kT,kn h30,kN kT,kN kT,kN kT,kn h29,kn h31]) (by kernel_rfl)
end
def O0 (n:Nat) (X:Nat->Tg) (m:Nat) (f:Nat->Int) :St:=⟨(jsV 65 0 (λ_=>A7) [(0,(.sl 3 n (λi=>(.agg [(iV ((X i)).th),(iV ((X i)).rg),(.str ((X i)).lc)])))),(1,(.sl 1 m (λi=>(iV (f i))))),(4,(.ptr 0 0)),(5,(iV 0)),(6,(.ref 1)),(10,(bV (AG (ieq (ofNat n) (ofNat m))))),(11,(.sl 3 n (λi=>(.agg [(iV ((X i)).th),(iV ((X i)).rg),(.str ((X i)).lc)])))),(12,(nV n)),(13,(.sl 1 m (λi=>(iV (f i))))),(14,(nV m)),(15,(bV (AG (ieq (ofNat n) (ofNat m))))),(17,(bV (ilt 1023 (ofNat n)))),(18,(.sl 3 n (λi=>(.agg [(iV ((X i)).th),(iV ((X i)).rg),(.str ((X i)).lc)])))),(19,(nV n)),(20,(bV (ilt 1023 (ofNat n)))),(22,(.sl 3 n (λi=>(.agg [(iV ((X i)).th),(iV ((X i)).rg),(.str ((X i)).lc)])))),(23,(nV n)),(24,(iV 0))]),[(.cells [(iV 0),(iV 0),(iV 0),(iV 0),(.str []),(iV 0),.nilS]),(.row 38 6 0 (λ_=>.und))]⟩
section
variable (L:LT) (p1:PT) (n:Nat) (X:Nat->Tg) (m:Nat) (f:Nat->Int) (b:Nat) (g:Nat->V)
include L p1 n X m f b g
theorem Amb (h0:ieq (ofNat n) (ofNat m) = true) (h1:ilt 1023 (ofNat n) = false) (h2:ieq (ofNat b) 0 = true) (hp1:p1 (F6 (onP 1 p1 (IP n X m f b g) L)) (O0 n X m f) = true):(Au (Ah tab ⟨Ak RY,(onP 1 p1 (IP n X m f b g) L),Gl⟩ Tryz.f46 [.sl 3 n λi=>tgV (X i),.sl 1 m λi=>iV (f i)] [])).sem = some ((.tup [(.agg [(iV 1),(iV 1),(iV 0),(iV 0),(.str []),(iV 0),(.ref 0)]),(iV 0)]),[(.row 38 6 0 (λ_=>.und))]):=by
 exact Aa (ks:=[kN (kn h0),kn h1,kn hp1,kn h2]) (by kernel_rfl)
theorem Amc (h0:ieq (ofNat n) (ofNat m) = true) (h1:ilt 1023 (ofNat n) = false) (h2:ieq (ofNat b) 0 = false) (h3:ieq (ofNat b) 1 = false) (hp1:p1 (F6 (onP 1 p1 (IP n X m f b g) L)) (O0 n X m f) = true):(Au (Ah tab ⟨Ak RY,(onP 1 p1 (IP n X m f b g) L),Gl⟩ Tryz.f46 [.sl 3 n λi=>tgV (X i),.sl 1 m λi=>iV (f i)] [])).sem = some ((.tup [(.agg [(iV 1),(iV 4),(iV 0),(iV 0),(.str []),(iV 0),(.ref 0)]),(iV 0)]),[(.row 38 6 b g)]):=by
 exact Aa (ks:=[kN (kn h0),kn h1,kn hp1,kn h2,kn h3]) (by kernel_rfl)
end
noncomputable abbrev UJ (L:LT) (p1:PT) (n:Nat) (X:Nat->Tg) (m:Nat) (f:Nat->Int):LT:=onP 1 p1 (IP n X m f 1 (Anl (.agg [iV 2,iV (X 0).th,iV (X 0).rg,.str (X 0).lc,iV (f 0),.nilS]))) L
theorem Amd (L:LT) (p1:PT) (n:Nat) (X:Nat->Tg) (m:Nat) (f:Nat->Int) (h0:ieq (ofNat n) (ofNat m) = true) (h1:ilt 1023 (ofNat n) = false) (hp1:p1 (F6 (UJ L p1 n X m f)) (O0 n X m f) = true):(Au (Ah tab ⟨Ak RY,(UJ L p1 n X m f),Gl⟩ Tryz.f46 [.sl 3 n λi=>tgV (X i),.sl 1 m λi=>iV (f i)] [])).sem = some ((.tup [(.agg [(iV 1),(iV 2),(iV ((X 0)).th),(iV ((X 0)).rg),(.str ((X 0)).lc),(iV (f 0)),(.ref 0)]),(iV 0)]),[(.row 38 6 0 (λ_=>.und))]):=Sn (bbK 7 116) [(AG (ieq (ofNat n) (ofNat m))),(ilt 1023 (ofNat n)),(p1 (F6 (UJ L p1 n X m f)) (O0 n X m f)),(ieq 1 0),(ieq 1 1),(Al (ile 0 0) (ilt 0 1)),(nlt 0 1)] (by kernel_rfl) (by simp only [hp1] <;> simp only [h0,h1,BP] <;> rfl)
def BY (X:Nat->Tg) (f:Nat->Int) (i:Nat):V:=.agg [iV 2,iV (X i).th,iV (X i).rg,.str (X i).lc,iV (f i),.nilS]
theorem Aew (L:LT) (n:Nat) (X:Nat->Tg) (f:Nat->Int) (hn:n <= 1023) (hX:∀ i,i < n->tgB (X i).th (X i).rg (X i).lc = true) (hf:∀ i,i < n->Jo (f i) = true):∀ (d i:Nat) (j:Nat->V) (q:Nat),n = i+d->d < q ->
  (AA (F6 L) (F1 n X n f) q (Q6 n X n f i (BA (BY X f) i) j)).sem = some (IP n X n f n (BA (BY X f) n))
 | 0,i,j,q+1,h,_=>by
  have:n = i:=by omega
  subst this
  exact Ab (Am6 L n X n f n _ j (A9 (Nat.le_refl _)))
 | d+1,i,j,q+1,h,h2=>by
  have hi:i < n:=by omega
  rw [Ab (Am5 L n X n f i _ j (ofNat_lt hi) (AE i) (hX i hi) (Ap hi) (hf i hi) (decide_eq_true (by omega))),Aq,An hi (by omega)]
  exact Aew L n X f hn hX hf d (i+1) (λ_=>.und) q (by omega) (by omega)
def Pd (n:Nat):Int:=bif Nat.beq n 0 then 1 else bif Nat.beq n 1 then 2 else 4
def MD (n:Nat):Nat:=bif Nat.ble n 1 then 0 else n
def DG (n:Nat) (X:Nat->Tg):Tg:=bif Nat.beq n 1 then X 0 else ⟨0,0,[]⟩
def Pe (n:Nat) (f:Nat->Int):Int:=bif Nat.beq n 1 then f 0 else 0
def allT:List V->T (V × List Blk)
 | [v,u]=>apG Al6 v λn X=>apG TD u λm f=>.br (AB n m) (.br (Nat.ble n 1023) (.br (AJ n λi=>tgB (X i).th (X i).rg (X i).lc) (.br (AJ n λi=>Jo (f i))
   (.leaf (.tup [.agg [iV 1,iV (Pd n),iV (DG n X).th,iV (DG n X).rg,.str (DG n X).lc,iV (Pe n f),.ref 0],iV 0],[.row 38 6 (MD n) (BY X f)])) .fail) .fail) .fail) .fail
 | _=>.fail
theorem Oz (n:Nat) (X:Nat->Tg) (m:Nat) (f:Nat->Int):O0 n X m f = Q6 n X m f 0 (BA (BY X f) 0) (λi=>nth (O0 n X m f).t i):=by kernel_rfl
theorem p46:A6 Tryz.prog Gl 46 allT:=by
 refine Av AI mixed Tryz.func46 (by kernel_rfl) (by kernel_rfl) λvs v h' h=>?_
 unfold allT at h
 split at h
 ·rename_i v0 u0
  obtain ⟨n,X,ha,h⟩:=B7 h
  obtain ⟨m,f,hb,h⟩:=B7 h
  obtain ⟨h1,h⟩:=Ad h
  obtain ⟨h2,h⟩:=Ad h
  obtain ⟨h3,h⟩:=Ad h
  obtain ⟨h4,h⟩:=Ad h
  have:=Ac h
  simp only [Prod.mk.injEq] at this
  obtain ⟨rfl,rfl⟩:=this
  have h1:n = m:=Nat.eq_of_beq_eq_true h1
  subst h1
  have h2:n <= 1023:=Nat.le_of_ble_eq_true h2
  have h3:=λi (hi:i < n)=>A4.1 h3 i hi
  have h4:=λi (hi:i < n)=>A4.1 h4 i hi
  have hA:Bm [v0,u0] [.sl 3 n λi=>tgV (X i),.sl 1 n λi=>iV (f i)]:=λS w cs hv=>by
   obtain ⟨c,l,rfl,q1,d,l',rfl,q2,q3⟩:=hv
   exact ⟨c,_,rfl,ha S w c q1,d,_,rfl,hb S w d q2,q3⟩
  have hx:=AK Ac1 [(1,F1 n X n f)]
  have hL:=AF [(1,F1 n X n f)]
  have hr:=λM=>Aew M n X f h2 h3 h4 n 0 (λi=>nth (O0 n X n f).t i) (n+1) (by omega) (Nat.lt_succ_self _)
  have e1:ieq (ofNat n) (ofNat n) = true:=by simp [ieq]
  have e2:ilt 1023 (ofNat n) = false:=by rw [show (1023:Int) = ofNat 1023 from rfl,Cf]; exact decide_eq_false (by omega)
  have rle:∀ (g:Nat->V),A0 [Blk.row 38 6 0 (λ_=>.und)] [Blk.row 38 6 0 g]:=λg=>A0.one λj hj=>absurd hj (Nat.not_lt_zero _)
  have hn:n = 0 ∨ n = 1 ∨ ∃ k,n = k+2:=by
   rcases n with _ | _ | k
   ·exact .inl rfl
   ·exact .inr (.inl rfl)
   ·exact .inr (.inr ⟨k,rfl⟩)
  rcases hn with rfl | rfl | ⟨k,rfl⟩
  ·have hw:=A1 (Ar hL hL) _ (Amb (AP [(1,F1 0 X 0 f)]) _ 0 X 0 f 0 (BA (BY X f) 0) e1 e2 rfl (Ai (by rw [Oz]; exact hr _)))
   exact ⟨_,AN Gl RY [(1,F1 0 X 0 f)],_,hA,rfl,hx.1,hx.2,hw,rle _⟩
  ·have hw:=A1 (Ar hL hL) _ (Amd (AP [(1,F1 1 X 1 f)]) _ 1 X 1 f e1 e2 (Ai (by rw [Oz]; exact hr _)))
   exact ⟨_,AN Gl RY [(1,F1 1 X 1 f)],_,hA,rfl,hx.1,hx.2,hw,rle _⟩
  ·have e3:ieq (ofNat (k+2)) 0 = false:=by simp [ieq]; omega
   have e4:ieq (ofNat (k+2)) 1 = false:=by simp [ieq]; omega
   have hw:=A1 (Ar hL hL) _ (Amc (AP [(1,F1 (k+2) X (k+2) f)]) _ (k+2) X (k+2) f (k+2) (BA (BY X f) (k+2)) e1 e2 e3 e4 (Ai (by rw [Oz]; exact hr _)))
   exact ⟨_,AN Gl RY [(1,F1 (k+2) X (k+2) f)],_,hA,rfl,hx.1,hx.2,hw,A0.one λj hj=>(G5 (BY X f) (k+2) j hj).symm⟩
 ·cases h
end Go.Proofs.YthlojajaenfidaaGreatDoor.Em
