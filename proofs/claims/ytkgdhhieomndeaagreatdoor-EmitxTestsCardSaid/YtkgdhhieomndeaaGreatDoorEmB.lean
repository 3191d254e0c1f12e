/-
  The frame of laws on shapes: an argument that is a shape, read. No conditions.
-/
import Derived.Test.YtkgdhhieomndeaaGreatDoorEdV
import Derived.Test.YtkgdhhieomndeaaGreatDoorShW
namespace Go.Proofs.YtkgdhhieomndeaaGreatDoor.Sh
open Go.Sy Ed
set_option maxRecDepth 100000
def Af1 {H:Type} (t:TypeId) (d:DataW H):Prop:=(d.weights Tryz.prog t).all (· <= reachBytes)=true
def Jy {H:Type} {α:Type} (enc:TypeId×Value->H) (W:World) (sp:Nat->Bool) (held:Bool) (t:TypeId) (g:α->V) (B:α->Prop):Prop :=
 ∀ fuel cs d ps,DataW.trod enc Tryz.prog W 0 sp held fuel t cs=some (d,ps) ->
  ∃ a ci,VR (MP W) W (g a) noK ci∧ci.cells.toList=cs∧(∀ u ∈ cs,u.oneCell'=true)∧(Af1 t d->B a)
def AjE {α:Type} (g:α->V):Prop:=∀ (S:Nat->Prop) (w:World) (a:α) (c:Value),VR S w (g a) noK c->c.cells.toList=[c]
def U2 {H:Type} (enc:TypeId×Value->H) (W:World) (sp:Nat->Bool) (held:Bool) (fuel:Nat):List TypeId->List Value->List (DataW H)->Prop
 | [],[],[]=>True
 | t::ts,c::cs,d::ds=>(∃ ps,DataW.trod enc Tryz.prog W 0 sp held fuel t [c]=some (d,ps))∧U2 enc W sp held fuel ts cs ds
 | _,_,_=>False
def Ss {H:Type} {α:Type} (enc:TypeId×Value->H) (W:World) (sp:Nat->Bool) (held:Bool) (ts:List TypeId) (g:α->List V) (B:α->Prop):Prop :=
 ∀ fuel cs ds,U2 enc W sp held fuel ts cs ds ->
  ∃ a,VRs (MP W) W (g a) noK cs∧(∀ u ∈ cs,u.oneCell'=true)∧((DataW.weightsEach Tryz.prog ts ds).all (· <= reachBytes)=true->B a)
section
variable {H:Type} {enc:TypeId×Value->H} {W:World} {sp:Nat->Bool} {held:Bool} {r:Reach} {b0:Nat}
theorem S5 {fuel:Nat}:∀ (ts:List TypeId) (cs:List Value) (xs:List (DataW H×List MemPlace)),cs.length=ts.length->xs.length=ts.length ->
  (∀ (i:Nat) t c,ts[i]? = some t->cs[i]? = some c->DataW.trod enc Tryz.prog W 0 sp held fuel t [c]=xs[i]?)->U2 enc W sp held fuel ts cs (xs.map (·.1))
 | [],[],[],_,_,_=>trivial
 | t::ts,c::cs,x::xs,h1,h2,h=>by
  refine ⟨⟨x.2,?_⟩,S5 ts cs xs (by simpa using h1) (by simpa using h2) λi t' c' ht hc=>?_⟩
  ·have:=h 0 t c rfl rfl
   simpa using this
  ·have:=h (i+1) t' c' (by simpa using ht) (by simpa using hc)
   simpa using this
theorem N5:Ss enc W sp held [] (λ_:Unit=>[]) (λ_=>True):=by
 intro fuel cs ds h;cases cs with
 | nil=>exact ⟨(),rfl,(λu hu=>absurd hu (by simp)),λ_=>trivial⟩
 | cons c cs=>exact absurd h (by simp [U2])
theorem BR {α β:Type} {t:TypeId} {ts:List TypeId} {g:α->V} {B:α->Prop} {g':β->List V} {B':β->Prop} (h:Jy enc W sp held t g B) (h1:AjE g) (ht:Ss enc W sp held ts g' B') :
  Ss enc W sp held (t::ts) (λp:α×β=>g p.1::g' p.2) (λp=>B p.1∧B' p.2):=by
 intro fuel cs ds hh;cases cs with
 | nil=>cases hh
 | cons c cs =>
  cases ds with
  | nil=>cases hh
  | cons d ds =>
   obtain ⟨⟨ps,hp⟩,hr⟩:=hh;obtain ⟨a,ci,q1,q2,q3,q4⟩:=h fuel [c] d ps hp;obtain ⟨b,p1,p2,p3⟩:=ht fuel cs ds hr;have e:=h1 _ _ _ _ q1;rw [e] at q2;simp only [List.cons.injEq,and_true] at q2;subst q2;refine ⟨(a,b),⟨_,_,rfl,q1,p1⟩,λu hu=>?_,λhf=>?_⟩
   ·rcases List.mem_cons.1 hu with rfl | hu
    ·exact q3 _ (List.mem_cons_self ..)
    ·exact p2 u hu
   ·have hf:(d.weights Tryz.prog t++DataW.weightsEach Tryz.prog ts ds).all (· <= reachBytes)=true:=by
     simpa only [DataW.weightsEach] using hf
    rw [List.all_append,Bool.and_eq_true] at hf;exact ⟨q4 hf.1,p3 hf.2⟩
theorem SF {α:Type}:∀ {i:Nat} {l:List α} {c:α},l[i]? = some c->(l.drop i).take 1=[c]
 | 0,c::l,c',h=>by simp at h; simp [h]
 | i+1,c::l,c',h=>by
  have h:l[i]? = some c':=by simpa using h
  simpa using SF h
theorem Kf {α:Type} {g:α->List V} {B:α->Prop} {t:TypeId} {fs:Array Field} (ht:Tryz.prog.underlying t=some (.struct fs)) (hn:Tryz.prog.cellsOf t=fs.size)
  (hf:∀ (i:Nat) (f:Field),fs[i]? = some f->f.offset=i∧Tryz.prog.cellsOf f.type=1) (h:Ss enc W sp held (fs.toList.map (·.type)) g B):Jy enc W sp held t (λa=>.agg (g a)) B:=by
 intro fuel cs d ps hx;obtain ⟨xs,n,_,hd,hl,hlx,hi⟩:=DataW.trod_struct ht hx;simp only [Prod.mk.injEq] at hd;have hT:U2 enc W sp held n (fs.toList.map (·.type)) cs (xs.map (·.1)):=by
  refine S5 _ _ _ (by simp [hl,hn]) (by simp [hlx]) λi t' c ht' hc=>?_;rw [List.getElem?_map,Option.map_eq_some_iff] at ht';obtain ⟨f,hfi,rfl⟩:=ht';have hfi:fs[i]? = some f:=by simpa using hfi
  have h2:=hi i f hfi;rw [(hf i f hfi).1,(hf i f hfi).2,SF hc] at h2;exact h2
 obtain ⟨a,q1,q2,q3⟩:=h n cs _ hT;refine ⟨a,.agg cs.toArray,⟨cs,rfl,q1⟩,rfl,q2,λhh=>q3 ?_⟩;have hh:(d.weights Tryz.prog t).all (· <= reachBytes)=true:=hh
 rw [hd.1] at hh;unfold DataW.weights at hh;rw [ht] at hh;exact hh
theorem CW:Jy enc W sp held 3 iV (λ_=>True):=by
 intro fuel cs d ps h;obtain ⟨n,rfl,_⟩:=DataW.trod_int Tryz.underlying3 h;exact ⟨n,_,rfl,rfl,λu hu=>by simp at hu; subst hu; rfl,λ_=>trivial⟩
theorem Ge:AjE iV:=by
 rintro S w a c h
 have h:c = .int .i64 a:=h;subst h;rfl
theorem Ml {e:TypeId} {p:Nat->Bool}:∀ {ds:List (DataW H)},(DataW.weightsAll Tryz.prog e ds).all p=true->∀ d ∈ ds,(d.weights Tryz.prog e).all p=true
 | d::ds,h,d',hd=>by
  have h:(d.weights Tryz.prog e++DataW.weightsAll Tryz.prog e ds).all p=true:=by simpa only [DataW.weightsAll] using h
  rw [List.all_append,Bool.and_eq_true] at h;rcases List.mem_cons.1 hd with rfl | hd
  ·exact h.1
  ·exact Ml h.2 d' hd
theorem E9 {α:Type} [Inhabited α] {g:α->V} {B:α->Prop} {t e:TypeId} {s:Nat} (ht:Tryz.prog.underlying t=some (.slice e)) (hs:Tryz.prog.cellsOf e=s) (hs0:0<s) (h:Jy enc W sp held e g B) :
  Jy enc W sp held t (λp:Nat×(Nat->α)=>.sl s p.1 λi=>g (p.2 i)) (λp=>p.1 * Tryz.prog.bytesOf e <= reachBytes∧∀ i,i<p.1->B (p.2 i)):=by
 intro fuel cs d ps hf;rcases DataW.trod_slice ht hf with ⟨rfl,hx⟩ | ⟨a',len,cap,elems,rest,n,_,rfl,hx,_,hl,_,hlen,hE,_,_⟩
 ·refine ⟨(0,λ_=>default),_,⟨none,0,rfl,Nat.le_refl _,.inl rfl⟩,rfl,λu hu=>by simp at hu; subst hu; rfl,λ_=>⟨by simp,λi hi=>by omega⟩⟩
 ·simp only [Prod.mk.injEq] at hx
  have hex:∀ i,i<len->∃ x:α,∃ ci,VR (MP W) W (g x) noK ci∧(∀ u ∈ ci.cells.toList,u.oneCell'=true)∧W.cells? 0 (a'.add (i * s)) s=some ci.cells.toList∧(∀ di,(elems.map (·.1))[i]? = some di->Af1 e di->B x):=by
   intro i hi;have:=hE i hi;have hi':i<elems.length:=by omega
   rw [List.getElem?_eq_getElem hi',Option.bind_eq_some_iff,hs] at this;obtain ⟨cs,h1,h2⟩:=this;obtain ⟨x,ci,q1,q2,q3,q4⟩:=h _ _ _ _ h2;subst q2;refine ⟨x,ci,q1,q3,h1,λdi hdi hF=>q4 ?_⟩;rw [List.getElem?_map,List.getElem?_eq_getElem hi'] at hdi;simp only [Option.map_some,Option.some.injEq] at hdi;have hdi:(elems.get ⟨i,hi'⟩).1=di:=hdi;rw [hdi];exact hF
  refine ⟨(len,λi=>if h:i<len then (hex i h).choose else default),_,⟨some a',cap,rfl,hl,?_⟩,rfl,λu hu=>by simp at hu; subst hu; rfl,λhF=>?_⟩
  ·by_cases hz:len=0
   ·exact .inl hz
   right;obtain ⟨b,off,spot⟩:=a';have hspot:spot=none:=by
    obtain ⟨ci,_,_,q3,_⟩:=(hex 0 (by omega)).choose_spec;have:=(World.cells?_some q3);have h2:=this.2.2 0 (by omega);have hl:0<ci.cells.toList.length:=by omega
    rw [List.getElem?_eq_getElem hl] at h2;simpa [Addr.add] using World.cell?_spot h2
   subst hspot;refine ⟨b,off,rfl,λi hi=>?_⟩;obtain ⟨ci,q1,q2,q3,_⟩:=(hex i hi).choose_spec;have hc:=World.cells?_some q3;refine ⟨ci,by simp only [hi,dif_pos]; exact q1,?_,q2,?_⟩
   ·rw [<- Array.length_toList]; exact hc.2.1
   ·intro j u hj
    have hjs:j<s:=by
     have:=(List.getElem?_eq_some_iff.1 hj).1;have h3:=hc.2.1;omega
    have:=hc.2.2 j hjs;rw [hj] at this;have e1:((⟨b,off,none⟩:Addr).add (i * s)).add j=⟨b,off+i * s+j,none⟩:=by
     rw [CH,CH]
    rw [e1] at this;exact ⟨XR this,this⟩
  ·have hF:(d.weights Tryz.prog t).all (· <= reachBytes)=true:=hF
   rw [hx.1] at hF;unfold DataW.weights at hF;rw [ht] at hF;simp only [List.all_cons,Bool.and_eq_true,List.all_append,decide_eq_true_eq] at hF;refine ⟨?_,λi hi=>?_⟩
   ·have h1:=hF.1
    simp only [List.length_map] at h1;rw [hlen] at h1;exact Nat.le_trans (Nat.mul_le_mul_right _ (Nat.le_add_right _ _)) h1
   ·obtain ⟨ci,_,_,_,q4⟩:=(hex i hi).choose_spec
    simp only [hi,dif_pos];have hi':i<(elems.map (·.1)).length:=by simp [hlen,hi]
    exact q4 _ (List.getElem?_eq_getElem hi') (Ml hF.2.1 _ (List.getElem_mem hi'))
theorem Ry {α:Type} {g:α->V} {s:Nat}:AjE (λp:Nat×(Nat->α)=>.sl s p.1 λi=>g (p.2 i)):=by
 rintro S w a c ⟨b,cap,rfl,_⟩
 rfl
theorem UG:Jy enc W sp held 92 eV (λ_=>True):=by
 intro fuel cs d ps h;obtain ⟨e,rfl⟩:=Wo fuel cs _ h;exact ⟨e,_,Afz _ _ _ e,rfl,λu hu=>by simp [Ws] at hu; rcases hu with rfl | rfl | rfl | rfl | rfl | rfl <;> rfl,λ_=>trivial⟩
theorem P7 {α β:Type} {t:TypeId} {g:α->V} {B:α->Prop} {g':β->V} {B':β->Prop} (k:α->β) (hg:∀ a,g a=g' (k a)) (hB:∀ a,B a->B' (k a)) (h:Jy enc W sp held t g B):Jy enc W sp held t g' B':=by
 intro fuel cs d ps hx;obtain ⟨a,ci,q1,q2,q3,q4⟩:=h fuel cs d ps hx;exact ⟨k a,ci,by rw [<- hg]; exact q1,q2,q3,λhF=>hB a (q4 hF)⟩
theorem SA:Jy enc W sp held 80 evV (λ_=>True) :=
 P7 (λp:Int×Int×Int×Int×Int×Unit=>⟨p.1,p.2.1,p.2.2.1,p.2.2.2.1,p.2.2.2.2.1⟩) (λ_=>rfl) (λ_ _=>trivial)
  (Kf Tryz.underlying80 (by kernel_rfl) (λi f hi=>by
   match i,hi with
   | 0,hi=>cases hi; exact ⟨rfl,by kernel_rfl⟩
   | 1,hi=>cases hi; exact ⟨rfl,by kernel_rfl⟩
   | 2,hi=>cases hi; exact ⟨rfl,by kernel_rfl⟩
   | 3,hi=>cases hi; exact ⟨rfl,by kernel_rfl⟩
   | 4,hi=>cases hi; exact ⟨rfl,by kernel_rfl⟩
   | _+5,hi=>simp at hi)
   (BR CW Ge (BR CW Ge (BR CW Ge (BR CW Ge (BR CW Ge N5))))))
instance:Inhabited Ev5:=⟨⟨0,0,0,0,0⟩⟩
structure FitS (s:Sh7):Prop where
 ne:s.ne * 40 <= reachBytes
 nx:s.nx * 40 <= reachBytes
 nr:s.nr * 8 <= reachBytes
 nc:s.nc * 24 <= reachBytes
 ln:∀ i,i<s.nc->(s.C i).1 * 8 <= reachBytes
theorem S8:Jy enc W sp held 27 L4 FitS :=
 P7 (λp:Int×(Nat×(Nat->E6))×(Nat×(Nat->Ev5))×Int×Int×(Nat×(Nat->Int))×(Nat×(Nat->Nat×(Nat->Int)))×Unit =>
     ⟨p.1,p.2.1.1,p.2.1.2,p.2.2.1.1,p.2.2.1.2,p.2.2.2.1,p.2.2.2.2.1,p.2.2.2.2.2.1.1,p.2.2.2.2.2.1.2,p.2.2.2.2.2.2.1.1,p.2.2.2.2.2.2.1.2⟩) (λ_=>rfl)
  (λp h=>⟨by have h0:=h.2.1.1; rwa [show Tryz.prog.bytesOf 92=40 by kernel_rfl] at h0,by have h0:=h.2.2.1.1; rwa [show Tryz.prog.bytesOf 80=40 by kernel_rfl] at h0,by have h0:=h.2.2.2.2.2.1.1; rwa [show Tryz.prog.bytesOf 3=8 by kernel_rfl] at h0,by have h0:=h.2.2.2.2.2.2.1.1; rwa [show Tryz.prog.bytesOf 24=24 by kernel_rfl] at h0,λi hi=>by have h0:=(h.2.2.2.2.2.2.1.2 i hi).1; rwa [show Tryz.prog.bytesOf 3=8 by kernel_rfl] at h0⟩)
  (Kf Tryz.underlying27 (by kernel_rfl) (λi f hi=>by
   match i,hi with
   | 0,hi=>cases hi; exact ⟨rfl,by kernel_rfl⟩
   | 1,hi=>cases hi; exact ⟨rfl,by kernel_rfl⟩
   | 2,hi=>cases hi; exact ⟨rfl,by kernel_rfl⟩
   | 3,hi=>cases hi; exact ⟨rfl,by kernel_rfl⟩
   | 4,hi=>cases hi; exact ⟨rfl,by kernel_rfl⟩
   | 5,hi=>cases hi; exact ⟨rfl,by kernel_rfl⟩
   | 6,hi=>cases hi; exact ⟨rfl,by kernel_rfl⟩
   | _+7,hi=>simp at hi)
   (BR CW Ge<|BR (E9 Tryz.underlying22 (by kernel_rfl) (by decide) UG) Ry<|BR (E9 Tryz.underlying23 (by kernel_rfl) (by decide) SA) Ry <|
    BR CW Ge<|BR CW Ge<|BR (E9 Tryz.underlying24 (by kernel_rfl) (by decide) CW) Ry <|
    BR (E9 Tryz.underlying25 (by kernel_rfl) (by decide) (E9 Tryz.underlying24 (by kernel_rfl) (by decide) CW)) (Ry (g:=λp:Nat×(Nat->Int)=>V.sl 1 p.1 λi=>iV (p.2 i)) (s:=1)) N5))
theorem Td {v:Value} {d:DataW H} {ps:List MemPlace} (hval:Value.okWide Tryz.prog W r b0 27 v) (h:DataW.Trod enc Tryz.prog W 0 sp held 27 v d ps):∃ s:Sh7,AgM W v (L4 s)∧(Af1 27 d->FitS s):=by
 obtain ⟨fuel,hf⟩:=h;obtain ⟨cs,rfl,_⟩:=WideShapes.okWide_struct Tryz.underlying27 hval;obtain ⟨s,ci,q1,q2,_,q4⟩:=S8 _ _ _ _ hf;refine ⟨s,?_,q4⟩;obtain ⟨ca,rfl,q1⟩:=q1;have e:cs=ca.toArray:=by
  have:ca=cs.toList:=q2;rw [this]
 show VR (MP W) W (L4 s) noK (.agg cs);rw [e];exact ⟨ca,rfl,q1⟩
theorem Afh {ts:List TypeId} {ds:List (DataW H)} (h:(DataW.weightsEach Tryz.prog ts ds).all (· <= reachBytes)=true):∀ {j:Nat} {t:TypeId} {d:DataW H},ts[j]? = some t->ds[j]? = some d->Af1 t d:=by
 induction ts generalizing ds with
 | nil=>intro j t d ht; simp at ht
 | cons t0 ts ih =>
  intro j t d ht hd;cases ds with
  | nil=>simp at hd
  | cons d0 ds =>
   have h:(d0.weights Tryz.prog t0++DataW.weightsEach Tryz.prog ts ds).all (· <= reachBytes)=true:=by simpa only [DataW.weightsEach] using h
   rw [List.all_append,Bool.and_eq_true] at h;cases j with
   | zero =>simp at ht hd;subst ht hd;exact h.1
   | succ j=>exact ih h.2 (by simpa using ht) (by simpa using hd)
end
end Go.Proofs.YtkgdhhieomndeaaGreatDoor.Sh
namespace Go.Proofs.YtkgdhhieomndeaaGreatDoor.Em
open Go.Sy Go Go.Proofs.YtkgdhhieomndeaaGreatDoor.Ed Go.Proofs.YtkgdhhieomndeaaGreatDoor.Sh
open Int (ofNat)
set_option maxRecDepth 100000
noncomputable def Apf:List V->AR:=λvs=>Az (Ak tab (AC Gl [] []) Tryz.f122 vs [])
noncomputable def Ape:List V->AR:=λvs=>Az (Ak tab (AC Gl [] []) Tryz.f123 vs [])
noncomputable def tb86:AP:=(122,Apf)::(123,Ape)::[]
theorem tb86_ok:Av Tryz.prog Gl tb86:=.cons (AN A8 mixed Tryz.func122 (by kernel_rfl) (by kernel_rfl) (AI Av.nil _)) <| .cons (AN A8 mixed Tryz.func123 (by kernel_rfl) (by kernel_rfl) (AI Av.nil _)) .nil
def Tz:List (List UInt8):=[[120],[121],[122],[97],[98],[99],[100],[101],[102],[103],[104],[105],[106],[107],[108],[109]]
def TB (l:List UInt8):Bool:=Tz.any λx=>seq x l
def lp86:Lp:=⟨List.replicate 40 true,0,List.replicate 40 true,0,3⟩
theorem YD:Tz.map (λl=>(Az (Ak tab (AC Gl tb86 [(0,lp86)]) Tryz.f96 [.str l] [])).sem)=Tz.map λ_=>some (bV true,[]):=by kernel_rfl
def Qg:List V->AR
 | [.str l]=>.br (TB l) (out (bV true)) .fail
 | _=>.fail
theorem p86:Ax Tryz.prog Gl 96 Qg:=by
 refine Am A8 mixed Tryz.func96 (by kernel_rfl) (by kernel_rfl) λvs v h' h=>?_;unfold Qg at h;split at h
 ·rename_i l
  obtain ⟨h1,hq⟩:=Ad h;have:=Ac hq;simp only [Prod.mk.injEq] at this;obtain ⟨rfl,rfl⟩:=this;have hx:=AI tb86_ok [(0,lp86)];obtain ⟨y,hy,e⟩:=List.any_eq_true.1 h1;have e:y=l:=by simpa [seq] using e
  subst e;exact ⟨_,AC Gl tb86 [(0,lp86)],_,Bf.refl _,rfl,hx.1,hx.2,List.map_inj_left.1 YD y hy,Aw.refl _⟩
 ·cases h
def PS:List V->AR
 | [.val (.int .i64 a)]=>.br (ieq a 2) (out (iV 32)) .fail
 | _=>.fail
theorem Al6:(Az (Ak tab (AC Gl [] []) Tryz.f97 [iV 2] [])).sem=some (iV 32,[]):=by kernel_rfl
theorem p87:Ax Tryz.prog Gl 97 PS:=by
 refine Am A8 mixed Tryz.func97 (by kernel_rfl) (by kernel_rfl) λvs v h' h=>?_;unfold PS at h;split at h
 ·rename_i a
  obtain ⟨h1,hq⟩:=Ad h;have:=Ac hq;simp only [Prod.mk.injEq] at this;obtain ⟨rfl,rfl⟩:=this;have hx:=AI (P:=Tryz.prog) (G:=Gl) Av.nil [];have h1:a=2:=by simpa [ieq] using h1
  subst h1;exact ⟨_,AC Gl [] [],_,Bf.refl _,rfl,hx.1,hx.2,Al6,Aw.refl _⟩
 ·cases h
def GP (x:Int):Bool:=bif ile (-2147483648) x then ile x 2147483647 else false
noncomputable def N8:AP:=[]
theorem SC:Av Tryz.prog Gl N8:=.nil
theorem Akw (L:LT) (x:Int) (h0:ile (-2147483648) x=true):(Az (Ak tab ⟨Ap N8,L,Gl⟩ Tryz.f66 [iV x] [])).sem=some ((bV (ile x 2147483647)),[]):=by
 exact Ab (ks:=[kn h0,kn h0,kn h0]) (by kernel_rfl)
def Qc:List V->AR
 | [.val (.int .i64 a)]=>.br (GP a) (out (bV true)) .fail
 | _=>.fail
theorem p64:Ax Tryz.prog Gl 66 Qc:=by
 refine Am A8 mixed Tryz.func66 (by kernel_rfl) (by kernel_rfl) λvs v h' h=>?_;unfold Qc at h;split at h
 ·rename_i a
  obtain ⟨h1,hq⟩:=Ad h;have:=Ac hq;simp only [Prod.mk.injEq] at this;obtain ⟨rfl,rfl⟩:=this;have hx:=AI SC [];unfold GP at h1;cases h2:ile (-2147483648) a with
  | false=>rw [h2] at h1; cases h1
  | true =>rw [h2] at h1;have h1:ile a 2147483647=true:=h1;have:=Akw (AC Gl N8 []).loop a h2;rw [h1] at this;exact ⟨_,AC Gl N8 [],_,Bf.refl _,rfl,hx.1,hx.2,this,Aw.refl _⟩
 ·cases h
def tgB (t r:Int) (l:List UInt8):Bool:=bif ieq t (-1) then (ieq r 0 && TB l) else (ile 0 t && (ilt t 16 && (ile 0 r && (ilt r 32 && seq l []))))
noncomputable def tb63:AP:=(96,Qg)::(97,PS)::[]
theorem tb63_ok:Av Tryz.prog Gl tb63:=.cons p86 <| .cons p87 .nil
section
variable (L:LT) (t r:Int) (l:List UInt8)
include L t r l
theorem Aky (h0:ieq t (-1)=true) (h1:ieq r 0=true) (h28:TB l=true):(Az (Ak tab ⟨Ap tb63,L,Gl⟩ Tryz.f65 [iV 2,.agg [iV t,iV r,.str l]] [])).sem=some ((bV true),[]):=by
 exact Ab (ks:=[kn h0,kn h1,kn h1,kn h1,kn h28,kn h1]) (by kernel_rfl)
theorem Akx (h0:ieq t (-1)=false) (h1:ile 0 t=true) (h2:ilt t 16=true) (h3:ile 0 r=true) (h4:ilt r 32=true):(Az (Ak tab ⟨Ap tb63,L,Gl⟩ Tryz.f65 [iV 2,.agg [iV t,iV r,.str l]] [])).sem=some ((bV (seq l [])),[]):=by
 exact Ab (ks:=[kn h0,kn h1,kn h1,kn h1,kn h1,kn h2,kn h2,kn h2,kn h2,kn h3,kn h3,kn h3,kn h3,kI 2,kn h3,kn h3,kn h4,kn h4,kn h4,kn h4]) (by kernel_rfl)
end
def tgT:List V->AR
 | [.val (.int .i64 a),.agg [.val (.int .i64 t),.val (.int .i64 r),.str l]]=>.br (ieq a 2) (.br (tgB t r l) (out (bV true)) .fail) .fail
 | _=>.fail
theorem p63:Ax Tryz.prog Gl 65 tgT:=by
 refine Am A8 mixed Tryz.func65 (by kernel_rfl) (by kernel_rfl) λvs v h' h=>?_;unfold tgT at h;split at h
 ·rename_i a t r l
  obtain ⟨h0,h⟩:=Ad h;obtain ⟨h1,hq⟩:=Ad h;have:=Ac hq;simp only [Prod.mk.injEq] at this;obtain ⟨rfl,rfl⟩:=this;have hx:=AI tb63_ok [];have h0:a=2:=by simpa [ieq] using h0
  subst h0;unfold tgB at h1;cases h2:ieq t (-1) with
  | true =>rw [h2] at h1;simp only [cond_true,Bool.and_eq_true] at h1;exact ⟨_,AC Gl tb63 [],_,Bf.refl _,rfl,hx.1,hx.2,Aky _ t r l h2 h1.1 h1.2,Aw.refl _⟩
  | false =>rw [h2] at h1;simp only [cond_false,Bool.and_eq_true] at h1;have:=Akx (AC Gl tb63 []).loop t r l h2 h1.1 h1.2.1 h1.2.2.1 h1.2.2.2.1;rw [h1.2.2.2.2] at this;exact ⟨_,AC Gl tb63 [],_,Bf.refl _,rfl,hx.1,hx.2,this,Aw.refl _⟩
 ·cases h
structure Tg where
 th:Int
 rg:Int
 lc:List UInt8
def tgV (x:Tg):V:=.agg [iV x.th,iV x.rg,.str x.lc]
def Ado:V->Option Tg
 | .agg [.val (.int .i64 a),.val (.int .i64 b),.str l]=>some ⟨a,b,l⟩
 | _=>none
theorem Yh {v:V} {e:Tg} (h:Ado v=some e):v=tgV e:=by
 unfold Ado at h;split at h
 ·simp only [Option.some.injEq] at h
  subst h;rfl
 ·cases h
def AiP (v:V):Bool:=match Ado v with
 | some _=>true
 | none=>false
def Ajy (v:V):Tg:=match Ado v with
 | some e=>e
 | none=>⟨0,0,[]⟩
theorem Y9 {v:V} (h:AiP v=true):v=tgV (Ajy v):=by
 unfold AiP at h;unfold Ajy;split at h
 ·rename_i e he
  exact Yh he
 ·cases h
def AmW:Cod Tg:=⟨3,tgV,AiP,Ajy,λv h S w c hv=>by rw [<- Y9 h]; exact hv⟩
def Afe (x:V):Nat->V:=As 0 Aa x
noncomputable def tb46:AP:=(65,tgT)::(66,Qc)::[]
theorem tb46_ok:Av Tryz.prog Gl tb46:=.cons p63 <| .cons p64 .nil
def FB (n:Nat) (X:Nat->Tg) (m:Nat) (f:Nat->Int):Lp:=⟨bmK 65 0 [0,1,4,5,6,22,23,24],2,bmK 65 0 [4,5,6],2,n+1⟩
def QT (n:Nat) (X:Nat->Tg) (m:Nat) (f:Nat->Int) (b:Nat) (g:Nat->V) (j:Nat->V):St:=⟨jsV 65 0 j [(0,.sl 3 n λi=>tgV (X i)),(1,.sl 1 m λi=>iV (f i)),(4,.ptr 0 0),(5,iV 0),(6,.ref 1),(22,.sl 3 n λi=>tgV (X i)),(23,nV n),(24,nV b)],[.cells [iV 0,iV 0,iV 0,iV 0,.str [],iV 0,.nilS],.row 35 6 b g]⟩
def IU (n:Nat) (X:Nat->Tg) (m:Nat) (f:Nat->Int) (b:Nat) (g:Nat->V):Ex×St:=(.ex 1,⟨jsV 65 0 Aa [(4,.ptr 0 0),(5,iV 0),(6,.ref 1)],[.cells [iV 0,iV 0,iV 0,iV 0,.str [],iV 0,.nilS],.row 35 6 b g]⟩)
noncomputable def FM (L:LT):St->T (Ex×St):=λst=>A7 tab ⟨Ap tb46,L,Gl⟩ (Ar Tryz.f43 1) 1 st
section
variable (L:LT) (n:Nat) (X:Nat->Tg) (m:Nat) (f:Nat->Int) (b:Nat) (g:Nat->V)  (j:Nat->V)
include L n X m f b g j
theorem AnX (h0:ilt (ofNat b) (ofNat n)=false):Ah (FM L) (FB n X m f) (QT n X m f b g j)=some ((.ex 1),⟨jsV 65 0 Aa [(4,.ptr 0 0),(5,iV 0),(6,.ref 1)],[.cells [iV 0,iV 0,iV 0,iV 0,.str [],iV 0,.nilS],.row 35 6 b g]⟩):=by
 exact Ab (ks:=[kn h0]) (by kernel_rfl)
theorem AnW (h0:ilt (ofNat b) (ofNat n)=true) (h27:ile 0 (ofNat b)=true) (h28:tgB (X b).th (X b).rg (X b).lc=true) (h29:Al (ile 0 (ofNat b)) (ilt (ofNat b) (ofNat m))=true) (h30:GP (f b)=true) (h31:Ba b 1 72=true):Ah (FM L) (FB n X m f) (QT n X m f b g j)=some (.nm,⟨jsV 65 0 Aa [(0,.sl 3 n (λi=>.agg [iV (X i).th,iV (X i).rg,.str (X i).lc])),(1,.sl 1 m (λi=>iV (f i))),(4,.ptr 0 0),(5,iV 0),(6,.ref 1),(22,.sl 3 n (λi=>.agg [iV (X i).th,iV (X i).rg,.str (X i).lc])),(23,nV n),(24,iV (wr .i64 (Af (ofNat b) 1)))],[.cells [iV 0,iV 0,iV 0,iV 0,.str [],iV 0,.nilS],.row 35 6 (AS b 1) (As b g (.agg [iV 2,iV (X b).th,iV (X b).rg,.str (X b).lc,iV (f b),.nilS]))]⟩):=by
 exact Ab (ks:=[kn h0,kA (kn h27) (kn h0),kI 2,kn h28,kN kT,kN kT,kN kT,kn h29,kN kT,kN kT,kn h30,kN kT,kN kT,kN kT,kn h29,kn h31]) (by kernel_rfl)
end
def ent46 (n:Nat) (X:Nat->Tg) (m:Nat) (f:Nat->Int) :St:=⟨jsV 65 0 (λ_=>A9) [(0,.sl 3 n (λi=>.agg [iV (X i).th,iV (X i).rg,.str (X i).lc])),(1,.sl 1 m (λi=>iV (f i))),(4,.ptr 0 0),(5,iV 0),(6,.ref 1),(10,bV (A6 (ieq (ofNat n) (ofNat m)))),(11,.sl 3 n (λi=>.agg [iV (X i).th,iV (X i).rg,.str (X i).lc])),(12,nV n),(13,.sl 1 m (λi=>iV (f i))),(14,nV m),(15,bV (A6 (ieq (ofNat n) (ofNat m)))),(17,bV (ilt 1023 (ofNat n))),(18,.sl 3 n (λi=>.agg [iV (X i).th,iV (X i).rg,.str (X i).lc])),(19,nV n),(20,bV (ilt 1023 (ofNat n))),(22,.sl 3 n (λi=>.agg [iV (X i).th,iV (X i).rg,.str (X i).lc])),(23,nV n),(24,iV 0)],[.cells [iV 0,iV 0,iV 0,iV 0,.str [],iV 0,.nilS],.row 35 6 0 Aa]⟩
section
variable (L:LT) (p1:PT) (n:Nat) (X:Nat->Tg) (m:Nat) (f:Nat->Int) (b:Nat) (g:Nat->V)
include L p1 n X m f b g
theorem An5 (h0:ieq (ofNat n) (ofNat m)=true) (h1:ilt 1023 (ofNat n)=false) (h2:ieq (ofNat b) 0=true) (hp1:p1 (FM (onP 1 p1 (IU n X m f b g) L)) (ent46 n X m f)=true):(Az (Ak tab ⟨Ap tb46,onP 1 p1 (IU n X m f b g) L,Gl⟩ Tryz.f43 [.sl 3 n λi=>tgV (X i),.sl 1 m λi=>iV (f i)] [])).sem=some ((.tup [.agg [iV 1,iV 1,iV 0,iV 0,.str [],iV 0,.ref 0],iV 0]),[.row 35 6 0 Aa]):=by
 exact Ab (ks:=[kN (kn h0),kn h1,kn hp1,kn h2]) (by kernel_rfl)
theorem An6 (h0:ieq (ofNat n) (ofNat m)=true) (h1:ilt 1023 (ofNat n)=false) (h2:ieq (ofNat b) 0=false) (h3:ieq (ofNat b) 1=false) (hp1:p1 (FM (onP 1 p1 (IU n X m f b g) L)) (ent46 n X m f)=true):(Az (Ak tab ⟨Ap tb46,onP 1 p1 (IU n X m f b g) L,Gl⟩ Tryz.f43 [.sl 3 n λi=>tgV (X i),.sl 1 m λi=>iV (f i)] [])).sem=some ((.tup [.agg [iV 1,iV 4,iV 0,iV 0,.str [],iV 0,.ref 0],iV 0]),[.row 35 6 b g]):=by
 exact Ab (ks:=[kN (kn h0),kn h1,kn hp1,kn h2,kn h3]) (by kernel_rfl)
end
noncomputable abbrev Vu (L:LT) (p1:PT) (n:Nat) (X:Nat->Tg) (m:Nat) (f:Nat->Int):LT:=onP 1 p1 (IU n X m f 1 (Afe (.agg [iV 2,iV (X 0).th,iV (X 0).rg,.str (X 0).lc,iV (f 0),.nilS]))) L
theorem w46o (L:LT) (p1:PT) (n:Nat) (X:Nat->Tg) (m:Nat) (f:Nat->Int) (h0:ieq (ofNat n) (ofNat m)=true) (h1:ilt 1023 (ofNat n)=false) (hp1:p1 (FM (Vu L p1 n X m f)) (ent46 n X m f)=true):(Az (Ak tab ⟨Ap tb46,Vu L p1 n X m f,Gl⟩ Tryz.f43 [.sl 3 n λi=>tgV (X i),.sl 1 m λi=>iV (f i)] [])).sem=some ((.tup [.agg [iV 1,iV 2,iV (X 0).th,iV (X 0).rg,.str (X 0).lc,iV (f 0),.ref 0],iV 0]),[.row 35 6 0 Aa]):=NI (bbK 7 116) [A6 (ieq (ofNat n) (ofNat m)),ilt 1023 (ofNat n),p1 (FM (Vu L p1 n X m f)) (ent46 n X m f),ieq 1 0,ieq 1 1,Al (ile 0 0) (ilt 0 1),nlt 0 1] (by kernel_rfl) (by simp only [hp1] <;> simp only [h0,h1,Bm] <;> rfl)
def BE (X:Nat->Tg) (f:Nat->Int) (i:Nat):V:=.agg [iV 2,iV (X i).th,iV (X i).rg,.str (X i).lc,iV (f i),.nilS]
theorem run46 (L:LT) (n:Nat) (X:Nat->Tg) (f:Nat->Int) (hn:n <= 1023) (hX:∀ i,i<n->tgB (X i).th (X i).rg (X i).lc=true) (hf:∀ i,i<n->GP (f i)=true):∀ (d i:Nat) (j:Nat->V) (q:Nat),n=i+d->d<q ->
  (A3 (FM L) (FB n X n f) q (QT n X n f i (Br (BE X f) i) j)).sem=some (IU n X n f n (Br (BE X f) n))
 | 0,i,j,q+1,h,_=>by
  have:n=i:=by omega
  subst this;exact Ae (AnX L n X n f n _ j (A1 (Nat.le_refl _)))
 | d+1,i,j,q+1,h,h2=>by
  have hi:i<n:=by omega
  rw [Ae (AnW L n X n f i _ j (ofNat_lt hi) (AF i) (hX i hi) (Ao hi) (hf i hi) (decide_eq_true (by omega))),Ay,Aq hi (by omega)];exact run46 L n X f hn hX hf d (i+1) Aa q (by omega) (by omega)
def Pg (n:Nat):Int:=bif Nat.beq n 0 then 1 else bif Nat.beq n 1 then 2 else 4
def I5 (n:Nat):Nat:=bif Nat.ble n 1 then 0 else n
def Dz (n:Nat) (X:Nat->Tg):Tg:=bif Nat.beq n 1 then X 0 else ⟨0,0,[]⟩
def Ph (n:Nat) (f:Nat->Int):Int:=bif Nat.beq n 1 then f 0 else 0
def allT:List V->AR
 | [v,u]=>apG AmW v λn X=>apG ML u λm f=>.br (AE n m) (.br (Nat.ble n 1023) (.br (AB n λi=>tgB (X i).th (X i).rg (X i).lc) (.br (AB n λi=>GP (f i))
   (.leaf (.tup [.agg [iV 1,iV (Pg n),iV (Dz n X).th,iV (Dz n X).rg,.str (Dz n X).lc,iV (Ph n f),.ref 0],iV 0],[.row 35 6 (I5 n) (BE X f)])) .fail) .fail) .fail) .fail
 | _=>.fail
theorem ent46_eq (n:Nat) (X:Nat->Tg) (m:Nat) (f:Nat->Int):ent46 n X m f=QT n X m f 0 (Br (BE X f) 0) (λi=>nth (ent46 n X m f).t i):=by kernel_rfl
theorem p46:Ax Tryz.prog Gl 43 allT:=by
 refine Am A8 mixed Tryz.func43 (by kernel_rfl) (by kernel_rfl) λvs v h' h=>?_;unfold allT at h;split at h
 ·rename_i v0 u0
  obtain ⟨n,X,ha,h⟩:=Bs h;obtain ⟨m,f,hb,h⟩:=Bs h;obtain ⟨h1,h⟩:=Ad h;obtain ⟨h2,h⟩:=Ad h;obtain ⟨h3,h⟩:=Ad h;obtain ⟨h4,h⟩:=Ad h;have:=Ac h;simp only [Prod.mk.injEq] at this;obtain ⟨rfl,rfl⟩:=this;have h1:n=m:=Nat.eq_of_beq_eq_true h1;subst h1;have h2:n <= 1023:=Nat.le_of_ble_eq_true h2;have h3:=λi (hi:i<n)=>A0.1 h3 i hi;have h4:=λi (hi:i<n)=>A0.1 h4 i hi;have hA:Bf [v0,u0] [.sl 3 n λi=>tgV (X i),.sl 1 n λi=>iV (f i)]:=λS w cs hv=>by
   obtain ⟨c,l,rfl,q1,d,l',rfl,q2,q3⟩:=hv;exact ⟨c,_,rfl,ha S w c q1,d,_,rfl,hb S w d q2,q3⟩
  have hx:=AI tb46_ok [(1,FB n X n f)];have hL:=AL [(1,FB n X n f)];have hr:=λM=>run46 M n X f h2 h3 h4 n 0 (λi=>nth (ent46 n X n f).t i) (n+1) (by omega) (Nat.lt_succ_self _);have e1:ieq (ofNat n) (ofNat n)=true:=by simp [ieq]
  have e2:ilt 1023 (ofNat n)=false:=by rw [show (1023:Int)=ofNat 1023 from rfl,BV]; exact decide_eq_false (by omega)
  have rle:∀ (g:Nat->V),Aw [Blk.row 35 6 0 Aa] [Blk.row 35 6 0 g]:=λg=>Aw.one λj hj=>absurd hj (Nat.not_lt_zero _);have hn:n=0 ∨ n=1 ∨ ∃ k,n=k+2:=by
   rcases n with _ | _ | k
   ·exact .inl rfl
   ·exact .inr (.inl rfl)
   ·exact .inr (.inr ⟨k,rfl⟩)
  rcases hn with rfl | rfl | ⟨k,rfl⟩
  ·have hw:=AH (AA hL hL) _ (An5 (AW [(1,FB 0 X 0 f)]) _ 0 X 0 f 0 (Br (BE X f) 0) e1 e2 rfl (Au (by rw [ent46_eq]; exact hr _)))
   exact ⟨_,AC Gl tb46 [(1,FB 0 X 0 f)],_,hA,rfl,hx.1,hx.2,hw,rle _⟩
  ·have hw:=AH (AA hL hL) _ (w46o (AW [(1,FB 1 X 1 f)]) _ 1 X 1 f e1 e2 (Au (by rw [ent46_eq]; exact hr _)))
   exact ⟨_,AC Gl tb46 [(1,FB 1 X 1 f)],_,hA,rfl,hx.1,hx.2,hw,rle _⟩
  ·have e3:ieq (ofNat (k+2)) 0=false:=by simp [ieq]; omega
   have e4:ieq (ofNat (k+2)) 1=false:=by simp [ieq]; omega
   have hw:=AH (AA hL hL) _ (An6 (AW [(1,FB (k+2) X (k+2) f)]) _ (k+2) X (k+2) f (k+2) (Br (BE X f) (k+2)) e1 e2 e3 e4 (Au (by rw [ent46_eq]; exact hr _)));exact ⟨_,AC Gl tb46 [(1,FB (k+2) X (k+2) f)],_,hA,rfl,hx.1,hx.2,hw,Aw.one λj hj=>(F9 (BE X f) (k+2) j hj).symm⟩
 ·cases h
end Go.Proofs.YtkgdhhieomndeaaGreatDoor.Em
