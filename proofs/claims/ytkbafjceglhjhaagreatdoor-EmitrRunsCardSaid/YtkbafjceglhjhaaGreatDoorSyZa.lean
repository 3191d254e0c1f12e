/-
  Functions by their bodies, loops gone through as they stand: for what is called with arguments that are known. Conditions: as before.
-/
import Derived.Test.YtkbafjceglhjhaaGreatDoorEdX
import Derived.Test.YtkbafjceglhjhaaGreatDoorErD
namespace Go.Sy
def Acu (f:St->T (Ex×St)):Nat->St->T (Ex×St)
 | 0,_=>.fail
 | m+1,st=>(f st).bind λr=>match r.1 with
  | .nm=>Acu f m r.2
  | .ex i=>.leaf (.ex i,r.2)
  | .rt=>.leaf (.rt,r.2)
theorem QY {Γ:Cx0} {f:St->T (Ex×St)}:∀ {m:Nat} {st:St} {r:Ex×St},(Acu f m st).sem=some r->LRun Γ f st r
 | 0,_,_,h=>by cases h
 | m+1,st,r,h=>by
  obtain ⟨⟨e,st1⟩,h1,h2⟩:=Ag h;cases e with
  | nm=>exact .next h1 (LE.refl _) (QY h2)
  | ex i =>have:=Aa h2;subst this;exact .stop h1 (by simp) (LE.refl _)
  | rt =>have:=Aa h2;subst this;exact .stop h1 (by simp) (LE.refl _)
def cxC (G:Nat->V) (tbl:AE):Cx:=⟨A2 tbl,λ_ f st=>Acu f 500 st,G⟩
theorem P9 {P:Program} {G:Nat->V} {tbl:AE} (h:Ar P G tbl):Bi P (cxC G tbl).base∧BU (cxC G tbl):=⟨FF rfl h,λ_ _ _ _ hr=>.run (QY hr)⟩
def Jm (τ:List Ty) (G:Nat->V) (tb:AE):List (Nat×Func)->AE
 | []=>tb
 | p::l=>(p.1,λvs=>Ay (Aj τ (cxC G (Jm τ G tb l)) p.2 vs []))::Jm τ G tb l
def AlO (fn:Func):Bool:=fn.body.isSome && !(fn.name == "runtime.NumGoroutine")
inductive AllBody (P:Program):List (Nat×Func)->Prop where
 | nil:AllBody P []
 | cons {k:Nat} {fn:Func} {l:List (Nat×Func)} (hf:P.funcs[k]? = some fn) (hb:AlO fn=true) (h:AllBody P l):AllBody P ((k,fn)::l)
theorem MN {P:Program} {τ:List Ty} (hτ:TabOK P τ) (hm:P.follows .mixedOrders=true) {G:Nat->V} {tb:AE} (ht:Ar P G tb) {l:List (Nat×Func)} (h:AllBody P l):Ar P G (Jm τ G tb l):=by
 induction h with
 | nil=>exact ht
 | cons hf hb h ih =>rename_i k fn l;have hb:=Bool.and_eq_true_iff.1 hb;exact .cons (AM hτ hm hf hb.1 (by simpa using hb.2) (P9 ih)) ih
def Ai3 (m:List Bool):V->V
 | .tup vs=>.tup (XX m vs)
 | v=>v
def Tf (m:List Bool) (t:AA):AA:=t.bind λp=>T.ofOpt (Z7 (Ai3 m p.1) p.2)
theorem O3 {P:Program} {τ:List Ty} (hτ:TabOK P τ) (hm:P.follows .mixedOrders=true) {f:FuncId} {fn:Func} (hf:P.funcs[f]? = some fn)
  (hb:fn.body.isSome=true) (hn:(fn.name == "runtime.NumGoroutine")=false) {G:Nat->V} {F:List V->AA} (m:List Bool)
  (h:∀ vs v h',(F vs).sem=some (v,h')->∃ vs' Γ,Bw vs vs'∧Γ.glob=G∧Bi P Γ.base∧BU Γ∧(Tf m (Aj τ Γ fn vs' [])).sem=some (v,h')):As P G f F:=by
 obtain ⟨c,hb⟩:=Option.isSome_iff_exists.1 hb;have hn:fn.name ≠ "runtime.NumGoroutine":=by simpa using hn
 refine ⟨⟨fn,hf,hn,by rw [hb]; rfl⟩,λvs cs S w v h' hS hE hv he=>?_⟩;obtain ⟨vs',Γ,h1,h2,h3,hΛ,h4⟩:=h vs v h' he;subst h2;obtain ⟨⟨v1,g1⟩,q1,q2⟩:=Ag h4;have q2:=Dj q2;refine ⟨Gg q2,(P1 (P:=P) hτ hm h3 hΛ hf hb (Good.empty hS) hE (h1 S w cs hv) q1).mono ?_⟩
 rintro e w' ⟨u,κ',S',rfl,p1,p2,p3⟩
 have p2':VR S' w' (Ai3 m v1) κ' u:=by
  cases v1 with
  | tup vs =>obtain ⟨ca,e,hvs⟩:=p2;exact ⟨ca,e,Qf m _ _ hvs⟩
  | _=>exact p2
 obtain ⟨κ2,r1,r2,r3⟩:=Sr p1 p2' q2;refine ⟨u,κ2,S',rfl,r1,r2,Ext.ofNil p3.os p3.tape p3.output p3.size p3.keep (λi b hb=>?_) p3.sub p3.sup (Gg q2)⟩;obtain ⟨j,hj⟩:=r3 i b hb;exact p3.own j b hj
end Go.Sy
namespace Go.Proofs.YtkbafjceglhjhaaGreatDoor.Er
open Go.Sy Go Go.Proofs.YtkbafjceglhjhaaGreatDoor.Ed Go.Proofs.YtkbafjceglhjhaaGreatDoor.Sh
set_option maxRecDepth 100000
set_option maxHeartbeats 1000000
theorem eSq (l:List UInt8):seq l l=true:=by simp [seq]
theorem Acd {a b:Int} (h:ilt a b=true):ilt b a=false:=decide_eq_false (by have:=of_decide_eq_true h; omega)
theorem XZ (a:Int):ilt a a=false:=decide_eq_false (by omega)
noncomputable def pB (p:Prop):Bool:=@decide p (Classical.propDecidable p)
theorem Ek {p:Prop} (h:p):pB p=true:=@decide_eq_true p (Classical.propDecidable p) h
theorem Li {p:Prop} (h:pB p=true):p:=@of_decide_eq_true p (Classical.propDecidable p) h
def rgB (z:Int):Bool:=Ak (ile 0 z) (ile z 31)
def rgT:List V->AA
 | [.val (.int .i64 z)]=>.br (rgB z) (.leaf (bV true,[])) .fail
 | _=>.fail
theorem p84:As Tryz.prog Gl 84 rgT:=by
 refine Am A0 mixed Tryz.func84 (by kernel_rfl) (by kernel_rfl) λvs v h' h=>?_;unfold rgT at h;split at h
 ·rename_i z
  have hx:=Bd C5 [] (G:=Gl);exact ⟨_,cxA Gl tb0 [],_,Bw.refl _,rfl,hx.1,hx.2,DK.of h (.g λh0=>.r 3 (AI h0).1 <| .e (congrArg (λb=>(bV b,([]:List Blk))) (AI h0).2)) (by kernel_rfl),Aw.refl _⟩
 ·cases h
def GG (n:Nat):List UInt8:=bif ieq (Int.ofNat (Cl (D4 (Int.ofNat n)))) 1 then E3 [76,67] (E3 [48] (D4 (Int.ofNat n))) else E3 [76,67] (D4 (Int.ofNat n))
def nmB (t:List UInt8):Bool:=(List.range 32).any λk=>seq t (GG k)
def nmT:List V->AA
 | [.str t]=>.br (nmB t) (.leaf (bV true,[])) .fail
 | _=>.fail
def tB:Option (V×List Blk)->Bool
 | some (.val (.bool true),[])=>true
 | _=>false
theorem Ah3 {o:Option (V×List Blk)} (h:tB o=true):o=some (bV true,[]):=by
 unfold tB at h;split at h
 ·rfl
 ·cases h
noncomputable def AjL:AE:=Jm tab Gl [] [(126,Tryz.f126),(127,Tryz.f127)]
theorem Ae8:Ar Tryz.prog Gl AjL:=MN A0 mixed .nil (.cons Tryz.func126 (by kernel_rfl) <| .cons Tryz.func127 (by kernel_rfl) .nil)
theorem Ale:(List.range 32).all (λk=>tB (Ay (Aj tab (cxC Gl AjL) Tryz.f83 [.str (GG k)] [])).sem)=true:=by kernel_rfl
theorem AbW {t:List UInt8} (h:nmB t=true):∃ k,k<32∧t=GG k:=by
 obtain ⟨k,hk,h⟩:=List.any_eq_true.1 h;exact ⟨k,by simpa using hk,by simpa [seq] using h⟩
theorem Ald {k:Nat} (h:k<32):nmB (GG k)=true:=List.any_eq_true.2 ⟨k,by simpa using h,eSq _⟩
theorem p83:As Tryz.prog Gl 83 nmT:=by
 refine Am A0 mixed Tryz.func83 (by kernel_rfl) (by kernel_rfl) λvs v h' h=>?_;unfold nmT at h;split at h
 ·obtain ⟨h1,h2⟩:=Ad h
  obtain ⟨k,hk,rfl⟩:=AbW h1;have hx:=P9 Ae8;have:=Aa h2;simp only [Prod.mk.injEq] at this;obtain ⟨rfl,rfl⟩:=this;exact ⟨_,cxC Gl AjL,_,Bw.refl _,rfl,hx.1,hx.2,Ah3 (List.all_eq_true.1 Ale k (by simpa using hk)),Aw.refl _⟩
 ·cases h
def Aez:V->Option In8
 | .agg [.val (.int .i64 a),.val (.int .i64 b),.val (.int .i64 c),.val (.int .i64 d),.val (.int .i64 e),.str f,.str g,.val (.int .i64 k)]=>some ⟨a,b,c,d,e,f,g,k⟩
 | _=>none
theorem Zl {v:V} {e:In8} (h:Aez v=some e):v=i8V e:=by
 unfold Aez at h;split at h
 ·simp only [Option.some.injEq] at h
  subst h;rfl
 ·cases h
def JX (v:V):Bool:=match Aez v with
 | some _=>true
 | none=>false
def Jj (v:V):In8:=match Aez v with
 | some e=>e
 | none=>zI
theorem EJ {v:V} (h:JX v=true):v=i8V (Jj v):=by
 unfold JX at h;unfold Jj;split at h
 ·rename_i e he
  exact Zl he
 ·cases h
def AdI:Cod In8:=⟨8,i8V,JX,Jj,λv h S w c hv=>by rw [<- EJ h]; exact hv⟩
inductive IsI:In8->Prop where
 | lw {d a:Int} (hd:rgB d=true) (ha:rgB a=true):IsI ⟨6,d,a,0,0,[],[],0⟩
 | sw {a:Int} (ha:rgB a=true) (h5:ilt 5 a=true):IsI ⟨7,0,a,5,0,[],[],0⟩
 | ori {a m:Int} (ha:rgB a=true) (hm:ile (-2048) m=true) (hm2:ile m 2047=true):IsI ⟨8,5,a,0,m,[],[],0⟩
 | xor {d a:Int} (hd:rgB d=true) (ha:rgB a=true):IsI ⟨9,d,a,a,0,[],[],0⟩
 | add {b:Int} (hb:rgB b=true) (h6:ilt 6 b=true):IsI ⟨10,6,6,b,0,[],[],0⟩
 | bne {a:Int} {t:List UInt8} (ha:rgB a=true) (h0:ilt 0 a=true) (ht:nmB t=true):IsI ⟨11,0,a,0,0,[],t,0⟩
 | lab {t:List UInt8} (ht:nmB t=true):IsI ⟨12,0,0,0,0,[],t,0⟩
 | fen {f:Int} (hf:ile 2 f=true) (hf2:ile f 11=true):IsI ⟨13,0,0,0,0,[],[],f⟩
noncomputable def PK:List V->AA
 | [v]=>.br (JX v) (.br (pB (IsI (Jj v))) (.leaf (iV 0,[])) .fail) .fail
 | _=>.fail
noncomputable def tb55:AE:=(83,nmT)::(84,rgT)::[]
theorem tb55_ok:Ar Tryz.prog Gl tb55:=.cons p83 <| .cons p84 .nil
theorem Am9 (d a:Int) (hd:rgB d=true) (ha:rgB a=true):(Ay (Aj tab (cxA Gl tb55 []) Tryz.f55 [.agg [iV 6,iV d,iV a,iV 0,iV 0,.str [],.str [],iV 0]] [])).sem=some (iV 0,[]):=DK.of (C:=.leaf (iV 0,[])) rfl (.k (eI 6) <| .r 4 (eN eT) <| .r 3 (eN (eA (eI 6) (eA (eI d) (eA (eI a) (eA (eI 0) (eA (eI 0) (eA (eSq []) (eA (eSq []) (eA (eI 0) eT))))))))) <| .k hd <| .r 2 (eN (eA (eI 6) (eA (eI d) (eA (eI a) (eA (eI 0) (eA (eI 0) (eA (eSq []) (eA (eSq []) (eA (eI 0) eT))))))))) <| .r 3 (eN eT) <| .k ha <| .r 5 (eN eT) <| .k (show rgB 0=true from rfl) <| .r 3 (eN eT) <| .l) (by kernel_rfl)
theorem Am8 (a:Int) (ha:rgB a=true) (h5:ilt 5 a=true):(Ay (Aj tab (cxA Gl tb55 []) Tryz.f55 [.agg [iV 7,iV 0,iV a,iV 5,iV 0,.str [],.str [],iV 0]] [])).sem=some (iV 0,[]):=DK.of (C:=.leaf (iV 0,[])) rfl (.k (show ieq 7 6=false from rfl) <| .k (eI 7) <| .r 4 (eN eT) <| .r 3 (eN (eA (eI 7) (eA (eI 0) (eA (eI a) (eA (eI 5) (eA (eI 0) (eA (eSq []) (eA (eSq []) (eA (eI 0) eT))))))))) <| .k (show rgB 0=true from rfl) <| .r 2 (eN (eA (eI 7) (eA (eI 0) (eA (eI a) (eA (eI 5) (eA (eI 0) (eA (eSq []) (eA (eSq []) (eA (eI 0) eT))))))))) <| .r 3 (eN eT) <| .k ha <| .r 5 (eN eT) <| .k (show rgB 5=true from rfl) <| .r 3 (eN eT) <| .l) (by kernel_rfl)
theorem Ajr (a m:Int) (ha:rgB a=true) (hm:ile (-2048) m=true) (hm2:ile m 2047=true):(Ay (Aj tab (cxA Gl tb55 []) Tryz.f55 [.agg [iV 8,iV 5,iV a,iV 0,iV m,.str [],.str [],iV 0]] [])).sem=some (iV 0,[]):=DK.of (C:=.leaf (iV 0,[])) rfl (.k (show ieq 8 6=false from rfl) <| .k (show ieq 8 7=false from rfl) <| .k (eI 8) <| .r 4 hm <| .r 4 (eN hm2) <| .r 3 (eN (eA (eI 8) (eA (eI 5) (eA (eI a) (eA (eI 0) (eA (eI m) (eA (eSq []) (eA (eSq []) (eA (eI 0) eT))))))))) <| .k (show rgB 5=true from rfl) <| .r 2 (eN (eA (eI 8) (eA (eI 5) (eA (eI a) (eA (eI 0) (eA (eI m) (eA (eSq []) (eA (eSq []) (eA (eI 0) eT))))))))) <| .r 3 (eN eT) <| .k ha <| .r 5 (eN eT) <| .k (show rgB 0=true from rfl) <| .r 3 (eN eT) <| .l) (by kernel_rfl)
theorem Ajq (d a:Int) (hd:rgB d=true) (ha:rgB a=true):(Ay (Aj tab (cxA Gl tb55 []) Tryz.f55 [.agg [iV 9,iV d,iV a,iV a,iV 0,.str [],.str [],iV 0]] [])).sem=some (iV 0,[]):=DK.of (C:=.leaf (iV 0,[])) rfl (.k (show ieq 9 6=false from rfl) <| .k (show ieq 9 7=false from rfl) <| .k (show ieq 9 8=false from rfl) <| .r 2 (eI 9) <| .r 4 (eN eT) <| .r 3 (eN (eA (eI 9) (eA (eI d) (eA (eI a) (eA (eI a) (eA (eI 0) (eA (eSq []) (eA (eSq []) (eA (eI 0) eT))))))))) <| .k hd <| .r 2 (eN (eA (eI 9) (eA (eI d) (eA (eI a) (eA (eI a) (eA (eI 0) (eA (eSq []) (eA (eSq []) (eA (eI 0) eT))))))))) <| .r 3 (eN eT) <| .k ha <| .r 5 (eN eT) <| .k ha <| .r 3 (eN eT) <| .l) (by kernel_rfl)
theorem Ajv (b:Int) (hb:rgB b=true) (h6:ilt 6 b=true):(Ay (Aj tab (cxA Gl tb55 []) Tryz.f55 [.agg [iV 10,iV 6,iV 6,iV b,iV 0,.str [],.str [],iV 0]] [])).sem=some (iV 0,[]):=DK.of (C:=.leaf (iV 0,[])) rfl (.k (show ieq 10 6=false from rfl) <| .k (show ieq 10 7=false from rfl) <| .k (show ieq 10 8=false from rfl) <| .k (show ieq 10 9=false from rfl) <| .k (eI 10) <| .r 4 (eN eT) <| .r 3 (eN (eA (eI 10) (eA (eI 6) (eA (eI 6) (eA (eI b) (eA (eI 0) (eA (eSq []) (eA (eSq []) (eA (eI 0) eT))))))))) <| .k (show rgB 6=true from rfl) <| .r 2 (eN (eA (eI 10) (eA (eI 6) (eA (eI 6) (eA (eI b) (eA (eI 0) (eA (eSq []) (eA (eSq []) (eA (eI 0) eT))))))))) <| .r 3 (eN eT) <| .k (show rgB 6=true from rfl) <| .r 5 (eN eT) <| .k hb <| .r 3 (eN eT) <| .l) (by kernel_rfl)
theorem Aju (a:Int) (t:List UInt8) (ha:rgB a=true) (h0:ilt 0 a=true) (ht:nmB t=true):(Ay (Aj tab (cxA Gl tb55 []) Tryz.f55 [.agg [iV 11,iV 0,iV a,iV 0,iV 0,.str [],.str t,iV 0]] [])).sem=some (iV 0,[]):=DK.of (C:=.leaf (iV 0,[])) rfl (.k (show ieq 11 6=false from rfl) <| .k (show ieq 11 7=false from rfl) <| .k (show ieq 11 8=false from rfl) <| .k (show ieq 11 9=false from rfl) <| .k (show ieq 11 10=false from rfl) <| .k (eI 11) <| .k ht <| .r 4 (eN eT) <| .r 3 (eN (eA (eI 11) (eA (eI 0) (eA (eI a) (eA (eI 0) (eA (eI 0) (eA (eSq []) (eA (eSq t) (eA (eI 0) eT))))))))) <| .k (show rgB 0=true from rfl) <| .r 2 (eN (eA (eI 11) (eA (eI 0) (eA (eI a) (eA (eI 0) (eA (eI 0) (eA (eSq []) (eA (eSq t) (eA (eI 0) eT))))))))) <| .r 3 (eN eT) <| .k ha <| .r 5 (eN eT) <| .k (show rgB 0=true from rfl) <| .r 3 (eN eT) <| .l) (by kernel_rfl)
theorem Ajs (t:List UInt8) (ht:nmB t=true):(Ay (Aj tab (cxA Gl tb55 []) Tryz.f55 [.agg [iV 12,iV 0,iV 0,iV 0,iV 0,.str [],.str t,iV 0]] [])).sem=some (iV 0,[]):=DK.of (C:=.leaf (iV 0,[])) rfl (.k (show ieq 12 6=false from rfl) <| .k (show ieq 12 7=false from rfl) <| .k (show ieq 12 8=false from rfl) <| .k (show ieq 12 9=false from rfl) <| .k (show ieq 12 10=false from rfl) <| .k (show ieq 12 11=false from rfl) <| .k (eI 12) <| .k ht <| .r 4 (eN eT) <| .r 3 (eN (eA (eI 12) (eA (eI 0) (eA (eI 0) (eA (eI 0) (eA (eI 0) (eA (eSq []) (eA (eSq t) (eA (eI 0) eT))))))))) <| .k (show rgB 0=true from rfl) <| .r 2 (eN (eA (eI 12) (eA (eI 0) (eA (eI 0) (eA (eI 0) (eA (eI 0) (eA (eSq []) (eA (eSq t) (eA (eI 0) eT))))))))) <| .r 3 (eN eT) <| .k (show rgB 0=true from rfl) <| .r 5 (eN eT) <| .k (show rgB 0=true from rfl) <| .r 3 (eN eT) <| .l) (by kernel_rfl)
theorem Ajt (f:Int) (hf:ile 2 f=true) (hf2:ile f 11=true):(Ay (Aj tab (cxA Gl tb55 []) Tryz.f55 [.agg [iV 13,iV 0,iV 0,iV 0,iV 0,.str [],.str [],iV f]] [])).sem=some (iV 0,[]):=DK.of (C:=.leaf (iV 0,[])) rfl (.k (show ieq 13 6=false from rfl) <| .k (show ieq 13 7=false from rfl) <| .k (show ieq 13 8=false from rfl) <| .k (show ieq 13 9=false from rfl) <| .k (show ieq 13 10=false from rfl) <| .k (show ieq 13 11=false from rfl) <| .k (show ieq 13 12=false from rfl) <| .k (eI 13) <| .r 4 hf <| .r 4 (eN hf2) <| .r 3 (eN (eA (eI 13) (eA (eI 0) (eA (eI 0) (eA (eI 0) (eA (eI 0) (eA (eSq []) (eA (eSq []) (eA (eI f) eT))))))))) <| .k (show rgB 0=true from rfl) <| .r 2 (eN (eA (eI 13) (eA (eI 0) (eA (eI 0) (eA (eI 0) (eA (eI 0) (eA (eSq []) (eA (eSq []) (eA (eI f) eT))))))))) <| .r 3 (eN eT) <| .k (show rgB 0=true from rfl) <| .r 5 (eN eT) <| .k (show rgB 0=true from rfl) <| .r 3 (eN eT) <| .l) (by kernel_rfl)
theorem p55:As Tryz.prog Gl 55 PK:=by
 refine Am A0 mixed Tryz.func55 (by kernel_rfl) (by kernel_rfl) λvs v h' h=>?_;unfold PK at h;split at h
 ·rename_i u
  obtain ⟨h1,h⟩:=Ad h;obtain ⟨h2,h⟩:=Ad h;have:=Aa h;simp only [Prod.mk.injEq] at this;obtain ⟨rfl,rfl⟩:=this;have hx:=Bd tb55_ok [] (G:=Gl);refine ⟨_,cxA Gl tb55 [],_,Bw.refl _,rfl,hx.1,hx.2,?_,Aw.refl _⟩;rw [EJ h1];generalize Jj u=I at h2;cases Li h2 with
  | lw hd ha=>exact Am9 _ _ hd ha
  | sw ha h5=>exact Am8 _ ha h5
  | ori ha hm hm2=>exact Ajr _ _ ha hm hm2
  | xor hd ha=>exact Ajq _ _ hd ha
  | add hb h6=>exact Ajv _ hb h6
  | bne ha h0 ht=>exact Aju _ _ ha h0 ht
  | lab ht=>exact Ajs _ ht
  | fen hf hf2=>exact Ajt _ hf hf2
 ·cases h
def dsI (I:In8):Int:=bif ieq I.op 6 then I.d else bif ieq I.op 8 then 5 else bif ieq I.op 9 then I.d else bif ieq I.op 10 then 6 else -1
noncomputable def AaB:List V->AA
 | [v]=>.br (JX v) (.br (pB (IsI (Jj v))) (.leaf (.tup [.und,iV (dsI (Jj v)),iV 0],[])) .fail) .fail
 | _=>.fail
noncomputable def Qm:AE:=(55,PK)::[]
theorem AeP:Ar Tryz.prog Gl Qm:=.cons p55 .nil
theorem AmF (d a:Int) (hd:rgB d=true) (ha:rgB a=true):(Tf [false,true,true] (Aj tab (cxA Gl Qm []) Tryz.f30 [.agg [iV 6,iV d,iV a,iV 0,iV 0,.str [],.str [],iV 0]] [])).sem=some (.tup [.und,iV d,iV 0],[]):=DK.of (C:=.leaf (.tup [.und,iV d,iV 0],[])) rfl (.k (show JX (.agg [iV 6,iV d,iV a,iV 0,iV 0,.str [],.str [],iV 0])=true from rfl) <| .k (Ek (IsI.lw hd ha)) <| .k (eN (eI 0)) <| .k (show ieq 6 12=false from rfl) <| .k (show ieq 6 13=false from rfl) <| .r 2 (eI 6) <| .r 7 eF <| .k (show C4 0 1 8=true from by decide) <| .r 7 eF <| .l) (by kernel_rfl)
theorem AmE (a:Int) (ha:rgB a=true) (h5:ilt 5 a=true):(Tf [false,true,true] (Aj tab (cxA Gl Qm []) Tryz.f30 [.agg [iV 7,iV 0,iV a,iV 5,iV 0,.str [],.str [],iV 0]] [])).sem=some (.tup [.und,iV (-1),iV 0],[]):=DK.of (C:=.leaf (.tup [.und,iV (-1),iV 0],[])) rfl (.k (show JX (.agg [iV 7,iV 0,iV a,iV 5,iV 0,.str [],.str [],iV 0])=true from rfl) <| .k (Ek (IsI.sw ha h5)) <| .k (eN (eI 0)) <| .k (show ieq 7 12=false from rfl) <| .k (show ieq 7 13=false from rfl) <| .k (show ieq 7 6=false from rfl) <| .k (show ieq 7 8=false from rfl) <| .k (show ieq 7 9=false from rfl) <| .k (show ieq 7 10=false from rfl) <| .r 2 (eI 7) <| .r 6 eT <| .k h5 <| .k (show C4 0 1 8=true from by decide) <| .k (show C4 (BC 0 1) 1 8=true from by decide) <| .r 6 eT <| .k (Acd h5) <| .l) (by kernel_rfl)
theorem Aj5 (a m:Int) (ha:rgB a=true) (hm:ile (-2048) m=true) (hm2:ile m 2047=true):(Tf [false,true,true] (Aj tab (cxA Gl Qm []) Tryz.f30 [.agg [iV 8,iV 5,iV a,iV 0,iV m,.str [],.str [],iV 0]] [])).sem=some (.tup [.und,iV 5,iV 0],[]):=DK.of (C:=.leaf (.tup [.und,iV 5,iV 0],[])) rfl (.k (show JX (.agg [iV 8,iV 5,iV a,iV 0,iV m,.str [],.str [],iV 0])=true from rfl) <| .k (Ek (IsI.ori ha hm hm2)) <| .k (eN (eI 0)) <| .k (show ieq 8 12=false from rfl) <| .k (show ieq 8 13=false from rfl) <| .k (show ieq 8 6=false from rfl) <| .k (eI 8) <| .r 7 eF <| .k (show C4 0 1 8=true from by decide) <| .r 7 eF <| .l) (by kernel_rfl)
theorem Aj4 (d a:Int) (hd:rgB d=true) (ha:rgB a=true):(Tf [false,true,true] (Aj tab (cxA Gl Qm []) Tryz.f30 [.agg [iV 9,iV d,iV a,iV a,iV 0,.str [],.str [],iV 0]] [])).sem=some (.tup [.und,iV d,iV 0],[]):=DK.of (C:=.leaf (.tup [.und,iV d,iV 0],[])) rfl (.k (show JX (.agg [iV 9,iV d,iV a,iV a,iV 0,.str [],.str [],iV 0])=true from rfl) <| .k (Ek (IsI.xor hd ha)) <| .k (eN (eI 0)) <| .k (show ieq 9 12=false from rfl) <| .k (show ieq 9 13=false from rfl) <| .k (show ieq 9 6=false from rfl) <| .k (show ieq 9 8=false from rfl) <| .r 2 (eI 9) <| .r 6 eT <| .k (XZ a) <| .k (show C4 0 1 8=true from by decide) <| .r 6 eT <| .k (XZ a) <| .l) (by kernel_rfl)
theorem Aj9 (b:Int) (hb:rgB b=true) (h6:ilt 6 b=true):(Tf [false,true,true] (Aj tab (cxA Gl Qm []) Tryz.f30 [.agg [iV 10,iV 6,iV 6,iV b,iV 0,.str [],.str [],iV 0]] [])).sem=some (.tup [.und,iV 6,iV 0],[]):=DK.of (C:=.leaf (.tup [.und,iV 6,iV 0],[])) rfl (.k (show JX (.agg [iV 10,iV 6,iV 6,iV b,iV 0,.str [],.str [],iV 0])=true from rfl) <| .k (Ek (IsI.add hb h6)) <| .k (eN (eI 0)) <| .k (show ieq 10 12=false from rfl) <| .k (show ieq 10 13=false from rfl) <| .k (show ieq 10 6=false from rfl) <| .k (show ieq 10 8=false from rfl) <| .k (show ieq 10 9=false from rfl) <| .k (eI 10) <| .r 6 eT <| .k (Acd h6) <| .k (show C4 0 1 8=true from by decide) <| .r 6 eT <| .k h6 <| .k (show C4 (BC 0 1) 1 8=true from by decide) <| .l) (by kernel_rfl)
theorem Aj8 (a:Int) (t:List UInt8) (ha:rgB a=true) (h0:ilt 0 a=true) (ht:nmB t=true):(Tf [false,true,true] (Aj tab (cxA Gl Qm []) Tryz.f30 [.agg [iV 11,iV 0,iV a,iV 0,iV 0,.str [],.str t,iV 0]] [])).sem=some (.tup [.und,iV (-1),iV 0],[]):=DK.of (C:=.leaf (.tup [.und,iV (-1),iV 0],[])) rfl (.k (show JX (.agg [iV 11,iV 0,iV a,iV 0,iV 0,.str [],.str t,iV 0])=true from rfl) <| .k (Ek (IsI.bne ha h0 ht)) <| .k (eN (eI 0)) <| .k (show ieq 11 12=false from rfl) <| .k (show ieq 11 13=false from rfl) <| .k (show ieq 11 6=false from rfl) <| .k (show ieq 11 8=false from rfl) <| .k (show ieq 11 9=false from rfl) <| .k (show ieq 11 10=false from rfl) <| .k (show ieq 11 7=false from rfl) <| .k (eI 11) <| .r 6 eT <| .k h0 <| .k (show C4 0 1 8=true from by decide) <| .k (show C4 (BC 0 1) 1 8=true from by decide) <| .r 6 eT <| .k (Acd h0) <| .l) (by kernel_rfl)
theorem Aj6 (t:List UInt8) (ht:nmB t=true):(Tf [false,true,true] (Aj tab (cxA Gl Qm []) Tryz.f30 [.agg [iV 12,iV 0,iV 0,iV 0,iV 0,.str [],.str t,iV 0]] [])).sem=some (.tup [.und,iV (-1),iV 0],[]):=DK.of (C:=.leaf (.tup [.und,iV (-1),iV 0],[])) rfl (.k (show JX (.agg [iV 12,iV 0,iV 0,iV 0,iV 0,.str [],.str t,iV 0])=true from rfl) <| .k (Ek (IsI.lab ht)) <| .k (eN (eI 0)) <| .r 2 (eI 12) <| .l) (by kernel_rfl)
theorem Aj7 (f:Int) (hf:ile 2 f=true) (hf2:ile f 11=true):(Tf [false,true,true] (Aj tab (cxA Gl Qm []) Tryz.f30 [.agg [iV 13,iV 0,iV 0,iV 0,iV 0,.str [],.str [],iV f]] [])).sem=some (.tup [.und,iV (-1),iV 0],[]):=DK.of (C:=.leaf (.tup [.und,iV (-1),iV 0],[])) rfl (.k (show JX (.agg [iV 13,iV 0,iV 0,iV 0,iV 0,.str [],.str [],iV f])=true from rfl) <| .k (Ek (IsI.fen hf hf2)) <| .k (eN (eI 0)) <| .k (show ieq 13 12=false from rfl) <| .k (eI 13) <| .l) (by kernel_rfl)
theorem p30:As Tryz.prog Gl 30 AaB:=by
 refine O3 A0 mixed Tryz.func30 (by kernel_rfl) (by kernel_rfl) [false,true,true] λvs v h' h=>?_;unfold AaB at h;split at h
 ·rename_i u
  obtain ⟨h1,h⟩:=Ad h;obtain ⟨h2,h⟩:=Ad h;have:=Aa h;simp only [Prod.mk.injEq] at this;obtain ⟨rfl,rfl⟩:=this;have hx:=Bd AeP [] (G:=Gl);refine ⟨_,cxA Gl Qm [],Bw.refl _,rfl,hx.1,hx.2,?_⟩;rw [EJ h1];revert h2;generalize Jj u=I;intro h2;have e:∀ I,Jj (i8V I)=I:=λ_=>rfl;cases Li h2 with
  | lw hd ha=>exact AmF _ _ hd ha
  | sw ha h5=>exact AmE _ ha h5
  | ori ha hm hm2=>exact Aj5 _ _ ha hm hm2
  | xor hd ha=>exact Aj4 _ _ hd ha
  | add hb h6=>exact Aj9 _ hb h6
  | bne ha h0 ht=>exact Aj8 _ _ ha h0 ht
  | lab ht=>exact Aj6 _ ht
  | fen hf hf2=>exact Aj7 _ hf hf2
 ·cases h
end Go.Proofs.YtkbafjceglhjhaaGreatDoor.Er
namespace Go.Proofs.YtkbafjceglhjhaaGreatDoor.Er
open Go.Sy Go Go.Proofs.YtkbafjceglhjhaaGreatDoor.Ed Go.Proofs.YtkbafjceglhjhaaGreatDoor.Sh
open Int (ofNat)
set_option maxRecDepth 100000
set_option maxHeartbeats 1000000
theorem eQ (b:Bool):JZ b b=true:=by cases b <;> rfl
structure A6 where
 c:Int
 m:Int
 b:Int
 q:Int
section
variable (s:Sh7)
def x1 (q:Int):Int:=wr .i64 (Ai q (ofNat s.nx))
def x2 (q:Int):Int:=wr .i64 (By (x1 s q) 1)
def x3 (q:Int):Int:=Av (x2 s q) (ofNat s.nx)
def pe6 (q:Int):E6:=s.E (toN (x3 s q))
def pr6 (q:Int):Int:=rg9 s (toN (x3 s q))
def I6 (u i:Nat):In8:=K3 (cdL s s.nx u) i
end
noncomputable def tb6:AE:=(9,shT Xl)::(11,shT rgC)::(10,shT rcC)::(25,AbL)::[]
inductive Md6 (s:Sh7) (a:A6):Prop where
 | n (k8:ieq (pe6 s a.q).kind 8=false) (k6:ieq (pe6 s a.q).kind 6=false) (k7:ieq (pe6 s a.q).kind 7=false) (hc:ile 0 a.c=false) (hm:ile 0 a.m=false)
 | c (k8:ieq (pe6 s a.q).kind 8=true) (k6:ieq (pe6 s a.q).kind 6=false) (k7:ieq (pe6 s a.q).kind 7=false) (hc:ile 0 a.c=true) (hm:ile 0 a.m=false) (hr:ieq a.c (pr6 s a.q)=true)
 | a (k8:ieq (pe6 s a.q).kind 8=false) (k6:ieq (pe6 s a.q).kind 6=true) (hc:ile 0 a.c=false) (hm:ile 0 a.m=true) (hr:ieq a.m (pr6 s a.q)=true)
 | d (k8:ieq (pe6 s a.q).kind 8=false) (k6:ieq (pe6 s a.q).kind 6=false) (k7:ieq (pe6 s a.q).kind 7=true) (hc:ile 0 a.c=false) (hm:ile 0 a.m=true) (hr:ieq a.m (pr6 s a.q)=true)
structure Gd6 (s:Sh7) (a:A6):Prop where
 n0:ieq (ofNat s.nx) 0=false
 hq:ile (ofNat s.nx) a.q=false
 hE:Ak (ile 0 (x3 s a.q)) (ilt (x3 s a.q) (ofNat s.ne))=true
 hX:Ak (ile 0 (x3 s a.q)) (ilt (x3 s a.q) (ofNat s.nx))=true
 hN:nlt (toN (x3 s a.q)) s.nx=true
inductive Stp6 (s:Sh7) (I:In8) (a:A6):A6->Prop where
 | b (h:I.op=11):Stp6 s I a ⟨I.a,a.m,wr .i64 (Ai a.b 1),a.q⟩
 | x (h:I.op=9) (hab:I.a=I.b):Stp6 s I a ⟨a.c,I.a,a.b,a.q⟩
 | o (h:I.op=13 ∨ I.op=12 ∨ I.op=10 ∨ I.op=8):Stp6 s I a a
 | m (h:I.op=6 ∨ I.op=7) (g:Gd6 s a) (w:Md6 s a):Stp6 s I a ⟨-1,-1,a.b,wr .i64 (Ai a.q 1)⟩
theorem Cp {x:Int} {k j:Int} (h:x=k) (hk:k ≠ j:=by decide):ieq x j=false:=by
 subst h;unfold ieq;simpa using hk
theorem E8 {x k:Int} (h:x=k):ieq x k=true:=by rw [h]; exact eI k
inductive Run6 (s:Sh7):List In8->A6->A6->Prop where
 | nil (a:A6):Run6 s [] a a
 | cons {I:In8} {l:List In8} {a b c:A6} (h:Stp6 s I a b) (t:Run6 s l b c):Run6 s (I::l) a c
theorem Run6.app {s:Sh7} {l m:List In8} {a b c:A6} (h:Run6 s l a b) (t:Run6 s m b c):Run6 s (l++m) a c:=by
 induction h with
 | nil a=>exact t
 | cons h _ ih=>exact .cons h (ih t)
end Go.Proofs.YtkbafjceglhjhaaGreatDoor.Er
namespace Go.Proofs.YtkbafjceglhjhaaGreatDoor.Er
open Go.Sy Go Go.Proofs.YtkbafjceglhjhaaGreatDoor.Ed Go.Proofs.YtkbafjceglhjhaaGreatDoor.Sh
open Int (ofNat)
set_option maxRecDepth 100000
set_option maxHeartbeats 1000000
structure LkOK (n:Nat) (f:Nat->In8):Prop where
 hn:n <= 256
 ok:∀ i,i<n->IsI (f i)
 lab:∀ i,i<n->ieq (f i).op 12=true->∀ k,k<i->ieq (f k).op 12=true->seq (f k).lab (f i).lab=false
 bne:∀ i,i<n->ieq (f i).op 11=true->i+1<n∧ieq (f (i+1)).op 12=true∧seq (f (i+1)).lab (f i).lab=true
section
variable (n:Nat) (f:Nat->In8)
def atF (i:Nat):Int:=bif ieq (f i).op 11 then ofNat (i+1) else -1
def h29 (b:Nat):List Blk:=[.row 3 1 0 Ab,.row 3 1 0 Ab,.row 3 1 b (λk=>iV (atF f k))]
def S29 (c:Int) (_:Unit):St:=⟨jsV 115 0 Ab [(0,.sl 8 n (λi=>i8V (f i))),(5,.ref 1),(6,iV c)],[.row 3 1 0 Ab,.row 3 1 0 Ab]⟩
def AgC:Ex×St:=(.ex 0,⟨jsV 115 0 Ab [(0,.sl 8 n (λi=>i8V (f i))),(5,.ref 1)],[.row 3 1 0 Ab,.row 3 1 0 Ab]⟩)
def AiE (c:Int) (m:Nat) (g:Nat->V):St:=⟨jsV 115 0 Ab [(0,.sl 8 n (λi=>i8V (f i))),(5,.ref 1),(7,.ref 2),(8,iV c)],[.row 3 1 0 Ab,.row 3 1 0 Ab,.row 3 1 m g]⟩
def VB (c:Int) (_:Unit):St:=AiE n f c (toN c) (λk=>iV (atF f k))
def Tb:Ex×St:=(.ex 2,⟨jsV 115 0 Ab [(7,.ref 2)],h29 f n⟩)
def Aef (b:Nat) (c:Int) (_:Unit):St:=⟨jsV 115 0 Ab [(0,.sl 8 n (λi=>i8V (f i))),(5,.ref 1),(7,.ref 2),(8,nV b),(9,iV (-1)),(10,iV c)],h29 f b⟩
def Ta (b:Nat):Ex×St:=(.ex 4,⟨jsV 115 0 Ab [(0,.sl 8 n (λi=>i8V (f i))),(5,.ref 1),(7,.ref 2),(8,nV b),(9,iV (-1))],h29 f b⟩)
def Aiw (i:Nat) (_:Unit):T (Unit ⊕ (Ex×St)):=.br (ieq (f i).op 12) (.leaf (.inl ())) (.leaf (.inl ()))
def VA (b:Nat) (at9:Int) (c:Int):St:=⟨jsV 115 0 Ab [(0,.sl 8 n (λi=>i8V (f i))),(5,.ref 1),(7,.ref 2),(8,nV b),(9,iV at9),(11,iV c)],h29 f b⟩
def Pu (b:Nat):Ex×St:=(.ex 6,⟨jsV 115 0 Ab [(0,.sl 8 n (λi=>i8V (f i))),(5,.ref 1),(7,.ref 2),(8,nV b),(9,iV (ofNat (b+1)))],h29 f b⟩)
def Aix (i:Nat) (_:Unit):T (Unit ⊕ (Ex×St)):=.br (ieq (f i).op 12) (.leaf (.inl ())) (.br (ieq (f i).op 11) (.leaf (.inl ())) (.leaf (.inl ())))
def g29 (_:Nat) (_:Unit):T (Unit ⊕ (Ex×St)):=.leaf (.inl ())
end
noncomputable def AjP:AE:=(55,PK)::[]
theorem AeQ:Ar Tryz.prog Gl AjP:=.cons p55 .nil
def Aou:Lp:=⟨bmK 115 0 [0,5,6],2,bmK 115 0 [0,5],2,4611686018427387905⟩
def Acp:Lp:=⟨bmK 115 0 [0,5,7,8],3,bmK 115 0 [7],3,4611686018427387905⟩
def Aco:Lp:=⟨bmK 115 0 [0,5,7,8,9,10],3,bmK 115 0 [0,5,7,8,9],3,4611686018427387905⟩
def S5:Lp:=⟨bmK 115 0 [0,5,7,8,9,11],3,bmK 115 0 [0,5,7,8,9],3,4611686018427387905⟩
noncomputable def B29 (id:Nat) (L:LT):St->T (Ex×St):=λst=>AK tab ⟨A2 AjP,L,Gl⟩ (A3 Tryz.f29 id) id st
section
variable (L:LT) {n:Nat} {f:Nat->In8} (hk:LkOK n f)
include hk
theorem r29:(A4 (B29 0 L) Aou 4611686018427387905 (S29 n f 0 ())).sem=some (AgC n f) :=
 AW (R:=exR) BG (S:=λc a _=>S29 n f c a) (j:=λ_=>.und) (g:=g29) (fin:=λ_=>AgC n f) (e:=AgC n f) (n:=n) (by have:=hk.hn; omega)
  (λi a j r hi he=>DK.ok (L:=goR (λc a _=>S29 n f c a) exR i) (.k (ofNat_lt hi) <| .k (Ae hi) <| .k eT <| .k (Ek (hk.ok i hi)) <| .k (eN (eI 0)) <| .l) (by kernel_rfl) he)
  (λa j=>DK.ok (C:=.leaf (AgC n f)) (L:=exR) (.k (Az (Nat.le_refl n)) .l) (by kernel_rfl) rfl) (Nat.zero_add _).symm (by have:=hk.hn; omega)
  (Cv (acc:=λ_=>()) (λ_ _=>rfl) _ _ (Nat.zero_add _))
theorem AnE {b:Nat} (hb:b<n) (h12:ieq (f b).op 12=true):(A4 (B29 4 L) Aco 4611686018427387905 (Aef n f b 0 ())).sem=some (Ta n f b) :=
 AW (R:=exR) BG (S:=λc a _=>Aef n f b c a) (j:=λ_=>.und) (g:=Aiw f) (fin:=λ_=>Ta n f b) (e:=Ta n f b) (n:=b) (by have:=hk.hn; omega)
  (λi a j r hi he=>DK.ok (L:=goR (λc a _=>Aef n f b c a) exR i) (.k (ofNat_lt hi) <| .k (Ae (Nat.lt_trans hi hb)) <|
   .c (λh1=>.k h1 <| .r 2 h1 <| .k (Ae (Nat.lt_trans hi hb)) <| .r 5 h1 <| .k (Ae hb) <| .r 4 h1 <| .k (hk.lab b hb h12 i hi h1) <| .l) λh1=>.k h1 <| .r 11 h1 <| .k eF <| .l) (by kernel_rfl) he)
  (λa j=>DK.ok (C:=.leaf (Ta n f b)) (L:=exR) (.k (Az (Nat.le_refl b)) .l) (by kernel_rfl) rfl) (Nat.zero_add _).symm (by have:=hk.hn; omega)
  (Cv (acc:=λ_=>()) (λi _=>by
   unfold Aiw;cases ieq (f i).op 12 <;> rfl) _ _ (Nat.zero_add _))
theorem AnD {b:Nat} (hb:b<n) (h11:ieq (f b).op 11=true):(A4 (B29 6 L) S5 4611686018427387905 (VA n f b (-1) (wr .i64 (Ai (ofNat b) 1)))).sem=some (Pu n f b):=by
 obtain ⟨h1,h2,h3⟩:=hk.bne b hb h11;have hn:=hk.hn;rw [CU hb (by omega)];have e1:A1 (B29 6 L) S5 (VA n f b (-1) (ofNat (b+1)))=some (Ex.nm,VA n f b (ofNat (b+1)) (wr .i64 (Ai (ofNat (b+1)) 1))) :=
  DK.ok (C:=.leaf ()) (L:=λ_=>(Ex.nm,VA n f b (ofNat (b+1)) (wr .i64 (Ai (ofNat (b+1)) 1)))) (.r 3 (ofNat_lt h1) <| .k (show ilt (-1) 0=true from rfl) <| .k (Ae h1) <| .r 3 h2 <| .k (Ae h1) <| .r 5 h2 <| .k (Ae hb) <| .r 4 h2 <| .k h3 <| .l) (by kernel_rfl) rfl
 have hz:ilt (ofNat (b+1)) 0=false:=decide_eq_false (by show ¬ (((b+1:Nat):Int)<0); omega);rw [Ah e1];show (A4 (B29 6 L) S5 4611686018427387904 (VA n f b (ofNat (b+1)) (wr .i64 (Ai (ofNat (b+1)) 1)))).sem=_;rw [CU h1 (by omega)];rcases Nat.lt_or_ge (b+2) n with h4 | h4
 ·rw [Ah (t:=some (Pu n f b)) (DK.ok (C:=.leaf (Pu n f b)) (L:=λa=>a) (.r 3 (ofNat_lt h4) <| .k hz <| .l) (by kernel_rfl) rfl)]
  rfl
 ·rw [Ah (t:=some (Pu n f b)) (DK.ok (C:=.leaf (Pu n f b)) (L:=λa=>a) (.r 3 (Az h4) <| .k eF <| .l) (by kernel_rfl) rfl)]
  rfl
end
def QW (f:Nat->In8):List (Nat×Lp×List (Nat×(Nat->V))):=[(0,Aou,[]),(2,Acp,[(2,λk=>iV (atF f k))]),(4,Aco,[]),(6,S5,[])]
section
variable {n:Nat} {f:Nat->In8} (hk:LkOK n f)
include hk
theorem Alv {b:Nat} (hb:b<n) {x:Int} (h:x=atF f b):(Ex.nm,AiE n f (wr .i64 (Ai (ofNat b) 1)) (BC b 1) (AX b (λk=>iV (atF f k)) (iV x)))=(Ex.nm,VB n f (wr .i64 (Ai (ofNat b) 1)) ()):=by
 unfold VB;rw [CU hb (by have:=hk.hn; omega),XN _ _ _ (by rw [h])];rfl
theorem AlS {b:Nat} (hb:b<n):C4 b 1 8=true:=decide_eq_true (by
 have:=hk.hn;omega)
theorem AnF:(A4 (B29 2 (Go.Sy.askL (QW f))) Acp 4611686018427387905 (VB n f 0 ())).sem=some (Tb n f) :=
 AW (R:=exR) BG (S:=λc a _=>VB n f c a) (j:=λ_=>.und) (g:=Aix f) (fin:=λ_=>Tb n f) (e:=Tb n f) (n:=n) (by have:=hk.hn; omega)
  (λi a j r hi he=>DK.ok (L:=goR (λc a _=>VB n f c a) exR i) (.k (ofNat_lt hi) <| .k (Ae hi) <|
   .c (λh1=>.k h1 <| .a (AnE (Go.Sy.askL (QW f)) hk hi h1) <| .k (Ae hi) <| .k (Cp (j:=11) (Cg h1)) <| .k (AlS hk hi) <| .e (Alv hk hi (x:=-1) (by unfold atF; rw [Cp (j:=11) (Cg h1)]; rfl)))
    λh1=>.k h1 <| .k (Ae hi) <| .c (λh2=>.k h2 <| .a (AnD (Go.Sy.askL (QW f)) hk hi h2) <| .k (show ilt (ofNat (i+1)) 0=false from decide_eq_false (by show ¬ (((i+1:Nat):Int)<0); omega)) <| .k (AlS hk hi) <| .e (Alv hk hi (x:=ofNat (i+1)) (by unfold atF; rw [h2]; rfl)))
     λh2=>.k h2 <| .k (AlS hk hi) <| .e (Alv hk hi (x:=-1) (by unfold atF; rw [h2]; rfl))) (by kernel_rfl) he)
  (λa j=>DK.ok (C:=.leaf (Tb n f)) (L:=exR) (.k (Az (Nat.le_refl n)) .l) (by kernel_rfl) rfl) (Nat.zero_add _).symm (by have:=hk.hn; omega)
  (Cv (acc:=λ_=>()) (λi _=>by
   unfold Aix;cases ieq (f i).op 12 <;> cases ieq (f i).op 11 <;> rfl) _ _ (Nat.zero_add _))
end
noncomputable def lkT:List V->AA
 | [v]=>apG AdI v λn f=>.br (pB (LkOK n f)) (.leaf (.tup [.und,iV 0,iV 0],[])) .fail
 | _=>.fail
theorem p29:As Tryz.prog Gl 29 lkT:=by
 refine O3 A0 mixed Tryz.func29 (by kernel_rfl) (by kernel_rfl) [false,true,true] λvs v h' h=>?_;unfold lkT at h;split at h
 ·obtain ⟨n,f,ha,h⟩:=Bv h
  obtain ⟨h1,h⟩:=Ad h;have hk:=Li h1;have:=Aa h;simp only [Prod.mk.injEq] at this;obtain ⟨rfl,rfl⟩:=this;have hx:=Bd AeQ (QW f) (G:=Gl);have h256:ilt 256 (ofNat n)=false:=decide_eq_false (by have:=hk.hn; show ¬ ((256:Int)<(n:Int)); omega);exact ⟨[.sl 8 n (λi=>i8V (f i))],cxA Gl AjP (QW f),λS w cs hq=>by
   obtain ⟨c,l,rfl,q1,q2⟩:=hq;exact ⟨c,_,rfl,ha S w c q1,q2⟩,rfl,hx.1,hx.2,DK.of (C:=.leaf (.tup [.und,iV 0,iV 0],[])) rfl (.k h256 <| .a (r29 (Go.Sy.askL (QW f)) hk) <| .a (AnF hk) <| .l) (by kernel_rfl)⟩
 ·cases h
end Go.Proofs.YtkbafjceglhjhaaGreatDoor.Er
namespace Go.Sy
inductive DW {α:Type} (r:α):DT α->Prop where
 | e {a:α} (h:a=r):DW r (.lf a)
 | k {b c:Bool} {d:DT α} (h:b=c) (w:DW r d):DW r (.kn b c d)
 | a {o:Option (Ex×St)} {q:Ex×St} {d:DT α} (h:o=some q) (w:DW r d):DW r (.ak o q d)
 | c {d e:DT α} (b:Bool) (w:b=true->DW r d) (u:b=false->DW r e):DW r (.sp d e)
theorem DW.l {α:Type} {r:α}:DW r (.lf r):=.e rfl
theorem DW.r {α:Type} {r:α} {b c:Bool} {d:DT α} (n:Nat) (h:b=c) (w:DW r d):DW r (DT.knR n b c d):=by
 induction n with
 | zero=>exact w
 | succ n ih=>exact .k h ih
theorem DW.ok {α:Type} {r:α} {d:DT α} (w:DW r d):∀ {t:T α},d.run t=some (d.cs,d.os,d.ls)->t.sem=some r:=by
 induction w with
 | e hab =>
  intro t h;cases t with
  | leaf b =>simp only [DT.run,DT.cs,DT.os,DT.ls,Option.some.injEq,Prod.mk.injEq,List.cons.injEq,and_true,true_and] at h;subst h;rw [hab];rfl
  | _=>cases h
 | k hb w ih =>
  rename_i b c d;intro t h;cases t with
  | br b' x y =>
   simp only [DT.run] at h;split at h
   ·rename_i hx
    simp only [DT.cs,DT.os,DT.ls,Option.some.injEq,Prod.mk.injEq,List.cons.injEq] at h;obtain ⟨⟨rfl,rfl⟩,rfl,rfl⟩:=h;subst hb;cases b' with
    | true=>exact (show x.sem=_ from ih hx)
    | false=>exact (show y.sem=_ from ih hx)
   ·cases h
  | _=>cases h
 | a ho w ih =>
  rename_i o q d;intro t h;cases t with
  | ask o' k =>
   simp only [DT.run] at h;split at h
   ·rename_i hx
    simp only [DT.cs,DT.os,DT.ls,Option.some.injEq,Prod.mk.injEq,List.cons.injEq] at h;obtain ⟨rfl,⟨rfl,rfl⟩,rfl⟩:=h;subst ho;exact (show (k q).sem=_ from ih hx)
   ·cases h
  | _=>cases h
 | c b w u ih ih' =>
  rename_i d e;intro t h;simp only [DT.run] at h;split at h
  ·rename_i hx hy
   simp only [DT.cs,DT.os,DT.ls,Option.some.injEq,Prod.mk.injEq] at h;obtain ⟨hc,ho,hl⟩:=h;obtain ⟨e1,e2,e3⟩:=DT.run_len hx;obtain ⟨rfl,rfl⟩:=List.append_inj hc e1;obtain ⟨rfl,rfl⟩:=List.append_inj ho e2;obtain ⟨rfl,rfl⟩:=List.append_inj hl e3;cases hb:b with
   | true=>exact ih hb hx
   | false=>exact ih' hb hy
  ·cases h
theorem DW.rd {f:St->T (Ex×St)} {lp:Lp} {st:St} {r:Ex×St} {d:DT (Ex×St)} (w:DW r d) (h:d.run ((f st).bind λr=>T.leaf (Apr lp r))=some (d.cs,d.os,d.ls)):A1 f lp st=some r:=w.ok h
theorem JD {f:St->T (Ex×St)} {lp:Lp} {S:Nat->St} {m:Nat} {x:Ex×St} (hx:x.1 ≠ .nm) (h:∀ i,i<m->A1 f lp (S i)=some (.nm,S (i+1))) (h0:A1 f lp (S m)=some x) {q:Nat} (hq:m<q):(A4 f lp q (S 0)).sem=some x:=by
 have stop:∀ {o:Nat},Ade f lp o (some x)=some x:=fun {o}=>by
  cases x with
  | mk e s=>cases e <;> first | exact absurd rfl hx | rfl
 have key:∀ d i q,i+d=m->d<q->(A4 f lp q (S i)).sem=some x:=λd=>by
  induction d with
  | zero =>
   intro i q hi hq;obtain ⟨q,rfl⟩:∃ o,q=o+1:=⟨q-1,by omega⟩;obtain rfl:i=m:=by omega
   rw [Ah h0,stop]
  | succ d ih =>intro i q hi hq;obtain ⟨q,rfl⟩:∃ o,q=o+1:=⟨q-1,by omega⟩;rw [Ah (h i (by omega))];exact ih (i+1) q (by omega) (by omega)
 exact key m 0 q (Nat.zero_add m) hq
theorem nm1 {α:Type} {f:α->St} {a a':α} (h:a=a'):(Ex.nm,f a)=(Ex.nm,f a'):=by rw [h]
theorem nm2 {α β:Type} {f:α->β->St} {a a':α} {b b':β} (h:a=a') (h2:b=b'):(Ex.nm,f a b)=(Ex.nm,f a' b'):=by rw [h,h2]
theorem ApI {i:Nat} (h:i <= 4611686018427387904):wr .i64 (Ai (Int.ofNat i) 1)=Int.ofNat (i+1):=by
 unfold wr Ai IntKind.wrap;simp [IntKind.bits,IntKind.signed];omega
end Go.Sy
