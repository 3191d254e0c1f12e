/-
  Ranges over functions: the statement, code and functions with such statements. Conditions: as before.
-/
import Derived.Test.YtkbgidbledjejaaGreatSyOc
import Derived.Test.YtkbgidbledjejaaGreatCyI
namespace Go.Sy
variable {dl:List Deferred} {ro:Option Nat}
section
variable {P:Program} {τ:List Ty} (hτ:TabOK P τ) {Γ:Cx} {R:Rg}
def O1 (dl:List Deferred) (Γ:Cx0) (κ:Ai) (S:Nat->Prop) (h:List Blk) (w:World) (r:Ex×St) (Q:Exit->Act->World->Prop):Prop :=
 ∀ ms κ' S' a' w',EJ w.heap.size κ' S' r.2.h w' ms->Rel (ms++dl) Γ κ' S' r.2 a' w'->Ext κ S h w κ' S' r.2.h w'->Q (Fo r.1) a' w'
theorem O1.ext {Γ:Cx0} {κ κ':Ai} {S S':Nat->Prop} {h h':List Blk} {w w':World} {ns:List Deferred} {r:Ex×St} {Q:Exit->Act->World->Prop} (hw:O1 dl Γ κ S h w r Q) (hm:EJ w.heap.size κ' S' h' w' ns) (e:Ext κ S h w κ' S' h' w'):O1 (ns++dl) Γ κ' S' h' w' r Q :=
 λms κ'' S'' a'' w'' h1 h2 h3=>hw (ms++ns) κ'' S'' a'' w'' (h1.append (hm.ext h3) e.size λd hd=>by
  obtain ⟨D,e1,_,e2⟩:=hm.at d hd;exact ⟨D,e1,e2⟩) (by rw [List.append_assoc]; exact h2) (e.trans h3)
theorem O1.le {Γ:Cx0} {κ κ':Ai} {S S':Nat->Prop} {h h':List Blk} {w:World} {r:Ex×St} {Q:Exit->Act->World->Prop} (hw:O1 dl Γ κ S h w r Q) (e:Ext κ S h w κ' S' h' w):O1 dl Γ κ' S' h' w r Q :=
 hw.ext (ns:=[]) trivial e
theorem AgJ {e:Ex} {Q:Exit->Act->World->Prop} {a:Act} {w:World} (h:Q (Fo e) a w):(exC e).wpIn (Ez ro) 0 P Q a w:=by
 cases e with
 | nm=>exact wpIn_skip h
 | ex i=>exact wpIn_exit h
 | rt=>exact wpIn_ret h
theorem Ext.grown {κ:Ai} {S:Nat->Prop} {h:List Blk} {w:World} (o:Obj):Ext κ S h w κ S h (w.alloc o) :=
 ⟨rfl,rfl,rfl,by simp,λb hb _=>B7 w o b hb,λi _ hb=>.inl ⟨i,hb⟩,λ_ hb=>.inl hb,λ_ hb=>hb,
  I4 (by simp) (λb hb _=>B7 w o b hb) (λi b hb _=>⟨i,hb,λe s n g hh=>⟨e,s,n,g,hh,Nat.le_refl _⟩⟩) (λi e s n g b hh hb=>by
   by_cases hl:b<w.heap.size
   ·exact E5.same (B7 w o b hl)
   ·exact λca e' z hc=>by rw [Array.getElem?_eq_none (by omega)] at hc; cases hc),λ_ b h hb=>⟨rfl,b,h,Bz.refl hb⟩⟩
theorem AcJ {Γ:Cx0} (hR:RgOK P Γ R) {q:Option (Nat×Nat)} {g:Operand} {ps:Array Tmp} {ac b:Code} {st:St} {x:Ex×St} {κ:Ai} {S:Nat->Prop} {a:Act} {w:World} {Q:Exit->Act->World->Prop}
  (hr:Rel dl Γ κ S st a w) (hq:InR q ro κ st.h) (h:(Xq Γ R q g ⟨ps,ac,b⟩ st).sem=some x) (hw:O1 dl Γ κ S st.h w x Q):(Code.rangeFunc g ps ac b).wpIn (Ez ro) 0 P Q a w:=by
 unfold Xq at h;split at h
 rotate_left
 ·cases h
 rename_i gf caps hk hgv;obtain ⟨⟨v,res⟩,h1,h2⟩:=Ad h;have hge:=AT hr.env hr.tmps g;rw [hgv] at hge;obtain ⟨ca,hge,hcaps⟩:=hge;split at h2
 rotate_left
 ·cases h2
 rename_i st' hres;have hres:res = .all st':=hres;subst hres;split at h2
 rotate_left
 ·cases h2
 rename_i r ts cd' ts' y ht' hbr;split at h2
 rotate_left
 ·cases h2
 rename_i hrr;obtain rfl:=Nat.eq_of_beq_eq_true hrr;have core:∀ (fn:FuncId) (w0:World) (mark:List Deferred) (D:Nat),Ext κ S st.h w κ S st.h w0->Good κ S st.h w0->CC Γ S w0->VRs S w0 st.t κ a.tmps.toList->VRs S w0 caps κ ca ->
   EJ w.heap.size κ S st.h w0 mark ->
   CallsIn (Ez ro) 0 P gf (#[.func (.yield w0.heap.size) #[] #[]]++ca.toArray) (w0.alloc (.loop { state:=.ready,pending:=none,fn,tmps:=a.tmps,params:=ps,assign:=ac,body:=b,defers:=D }))
    (rangePost (Ez ro) 0 P w0.heap.size Q { a with defers:=mark++a.defers }):=by
  intro fn w0 mark D hx0 hg0 hE0 ht0 hc0 hm0;obtain ⟨rec0,hrec0⟩:∃ rec0:Loop,rec0={ state:=.ready,pending:=none,fn,tmps:=a.tmps,params:=ps,assign:=ac,body:=b,defers:=D }:=⟨_,rfl⟩;rw [<- hrec0];have hheap:∀ k,k<w0.heap.size->(w0.alloc (.loop rec0)).heap[k]? = w0.heap[k]?:=λk hk=>B7 w0 _ k hk;have hsz0:w0.heap.size <= (w0.alloc (.loop rec0)).heap.size:=by simp
  have hS0:∀ b,S b->S b∧(w0.alloc (.loop rec0)).heap[b]? = w0.heap[b]?:=λb hb=>⟨hb,hheap b (hg0.out b hb).1⟩;have hyb:∀ k,inBlk (some (Value.func (.yield w0.heap.size) #[] #[])) k (.rng ⟨ps,ac,b⟩ st.t .ready)->w0.heap.size <= k:=λk hk=>by
   have hk:some w0.heap.size=some k:=hk;simp at hk;omega
  have hB:A7 S (w0.alloc (.loop rec0)) (AZ κ st.h.length (.func (.yield w0.heap.size) #[] #[])) (some (.func (.yield w0.heap.size) #[] #[])) (.rng ⟨ps,ac,b⟩ st.t .ready) :=
   ⟨w0.heap.size,rec0,rfl,World.alloc_heap_new _ _,by rw [hrec0]; exact ⟨rfl,rfl,rfl⟩,by rw [hrec0]; exact ⟨rfl,rfl⟩,by
    have ht1:=VR.mono_go hS0 _ _ _ _ (hg0.addK_sub (.func (.yield w0.heap.size) #[] #[])) ht0;have:rec0.tmps=a.tmps:=by rw [hrec0]
    rw [this];exact ht1⟩
  have hg1:=hg0.push' (.rng ⟨ps,ac,b⟩ st.t .ready) (.func (.yield w0.heap.size) #[] #[]) hheap hsz0 hB hyb;have hx1:Ext κ S st.h w0 _ S _ (w0.alloc (.loop rec0)):=Ext.push' (.rng ⟨ps,ac,b⟩ st.t .ready) (.func (.yield w0.heap.size) #[] #[]) hheap hsz0 rfl rfl rfl hyb (λhf=>by rcases hf with ⟨_,_,_,_,hf⟩ | ⟨_,hf⟩ <;> cases hf)
  have hyv:VR S (w0.alloc (.loop rec0)) (.ref st.h.length) (AZ κ st.h.length (.func (.yield w0.heap.size) #[] #[])) (.func (.yield w0.heap.size) #[] #[]):=⟨by simp [AZ],.inr (.inr ⟨_,rfl⟩)⟩;have up:∀ vs l,VRs S w0 vs κ l->VRs S (w0.alloc (.loop rec0)) vs (AZ κ st.h.length (.func (.yield w0.heap.size) #[] #[])) l:=λvs l hv=>VR.mono_go hS0 _ _ _ _ (hg0.addK_sub _) hv;obtain ⟨hen,hcall⟩:=hR.it gf (.ref st.h.length::caps) (.func (.yield w0.heap.size) #[] #[]::ca) _ S ⟨.ref st.h.length::st.t,st.h++[.rng ⟨ps,ac,b⟩ st.t .ready]⟩ (.func (.yield w0.heap.size) #[] #[]::a.tmps.toList) (w0.alloc (.loop rec0)) v (.all st') hg1
   (hE0.ext hg0 hx1) ⟨_,_,rfl,hyv,up _ _ hc0⟩ ⟨_,_,rfl,hyv,up _ _ ht0⟩ h1
  have harr:(#[.func (.yield w0.heap.size) #[] #[]]++ca.toArray:Array Value)=(Value.func (.yield w0.heap.size) #[] #[]::ca).toArray:=by
   apply Array.ext';simp
  rw [harr];refine AeF (hcall.mono ?_)
  rintro e w3 ⟨u,κ',S',rfl,g1,g2,g3,g4⟩
  have g1:Good κ' S' st'.h w3:=g1;have g3:Ext _ S _ (w0.alloc (.loop rec0)) κ' S' st'.h w3:=g3;have g4:VRs S' w3 st'.t κ' (Value.func (.yield w0.heap.size) #[] #[]::a.tmps.toList):=g4;rw [ht'] at g4;obtain ⟨y',l',e1,hyv',hts⟩:=g4;simp only [List.cons.injEq] at e1;obtain ⟨rfl,rfl⟩:=e1;have hκr:κ' st.h.length=some (.func (.yield w0.heap.size) #[] #[]):=hyv'.1;obtain ⟨l2,rec2,k1,k2,k3,k4,k5⟩:=g1.blk _ _ hbr;rw [hκr] at k1;simp at k1;subst k1;have hne:rec2.state ≠ .busy:=by
   cases y with
   | ready=>rw [k4.1]; exact λh=>by cases h
   | busy=>cases h2
   | done e=>rw [k4.1]; exact λh=>by cases h
  have hoth:∀ (rec3:Loop) (k:Nat),¬ inBlk (κ' st.h.length) k (.rng cd' ts' y)->k<w3.heap.size->(w3.putObj w0.heap.size (.loop rec3)).heap[k]? = w3.heap[k]?:=λrec3 k hk _=>World.putObj_heap_other (λe=>hk (by rw [hκr,e]; rfl));have hSl:∀ (rec3:Loop) b,S' b->S' b∧(w3.putObj w0.heap.size (.loop rec3)).heap[b]? = w3.heap[b]?:=λrec3 b hb=>⟨hb,World.putObj_heap_other λe=>by
   subst e;exact (g1.out _ hb).2 st.h.length ((Aq hbr).2 (by rw [hκr]; rfl))⟩
  refine ⟨_,_,run_endLoop k2 hne,?_⟩;obtain ⟨rec3,hrec3⟩:∃ rec3:Loop,rec3={ rec2 with state:=.exhausted }:=⟨_,rfl⟩
  rw [<- hrec3];obtain ⟨z1,z2⟩:=g1.upd' (w':=w3.putObj w0.heap.size (.loop rec3)) (b':=.dead) hbr (λ_ h=>h.elim) (hoth _) (by simp) trivial;have z3:Ext κ' S' st'.h w3 κ' S' (st'.h.set st.h.length .dead) (w3.putObj w0.heap.size (.loop rec3)):=Ext.upd' g1 hbr rfl (hoth _) (by simp) rfl rfl rfl z2 (by simp) (λhf=>by rcases hf with ⟨_,_,_,_,hf⟩ | ⟨_,hf⟩ <;> cases hf)
  have hxa:Ext κ S st.h w0 κ' S' (st'.h.set st.h.length .dead) (w3.putObj w0.heap.size (.loop rec3)):=(hx1.trans g3).trans z3;have fin:∀ e,x=(e,⟨ts,st'.h.set st.h.length .dead⟩)->Q (Fo e) { a with defers:=mark++a.defers } (w3.putObj w0.heap.size (.loop rec3)):=λe hxe=>by
   subst hxe;exact hw mark κ' S' { a with defers:=mark++a.defers } _ (hm0.ext hxa) ⟨z1,hE0.ext hg0 hxa,VR.mono_go (hSl _) _ _ _ _ (λ_ _ h=>h) hts,by show mark++a.defers=mark++dl; rw [hr.defers]⟩ (hx0.trans hxa)
  cases y with
  | ready =>have:=Aa h2;rw [k4.2];exact fin .nm this
  | busy=>cases h2
  | done e =>have:=Aa h2;rw [k4.2];exact AgJ (fin e this)
 refine wpIn_rangeFunc ?_;intro fn _;have hrs:∀ (w1:World) l,(resolve a.eval (rangeCall g l) 0).run P w1 = .ok { target:=.fn (.func gf) ca.toArray,args:=#[.func (.yield l) #[] #[]] } w1:=λw1 l=>by
  simp only [resolve,hge];simp [go_sem]
 have hle:∀ (w1:World) l,HI P gf->(invoke (.fn (.func gf) ca.toArray) #[.func (.yield l) #[] #[]]).run P w1 = .ok (.enter gf (#[.func (.yield l) #[] #[]]++ca.toArray)) w1:=λw1 l hen=>by
  simp only [invoke];exact M6 hen _ _
 have hen:HI P gf:=by
  have hheap:∀ k,k<w.heap.size->(w.alloc (.loop { state:=.ready,pending:=none,fn,tmps:=a.tmps,params:=ps,assign:=ac,body:=b,defers:=0 })).heap[k]? = w.heap[k]?:=λk hk=>B7 w _ k hk;have hS0:∀ b',S b'->S b'∧(w.alloc (.loop { state:=.ready,pending:=none,fn,tmps:=a.tmps,params:=ps,assign:=ac,body:=b,defers:=0 })).heap[b']? = w.heap[b']?:=λb' hb=>⟨hb,hheap b' (hr.good.out b' hb).1⟩;have hyb:∀ k,inBlk (some (Value.func (.yield w.heap.size) #[] #[])) k (.rng ⟨ps,ac,b⟩ st.t .ready)->w.heap.size <= k:=λk hk=>by
   have hk:some w.heap.size=some k:=hk;simp at hk;omega
  have hg1:=hr.good.push' (.rng ⟨ps,ac,b⟩ st.t .ready) (.func (.yield w.heap.size) #[] #[]) hheap (by simp) ⟨w.heap.size,_,rfl,World.alloc_heap_new _ _,⟨rfl,rfl,rfl⟩,⟨rfl,rfl⟩,VR.mono_go hS0 _ _ _ _ (hr.good.addK_sub _) hr.tmps⟩ hyb;have hx1:Ext κ S st.h w _ S _ (w.alloc (.loop { state:=.ready,pending:=none,fn,tmps:=a.tmps,params:=ps,assign:=ac,body:=b,defers:=0 })):=Ext.push' (.rng ⟨ps,ac,b⟩ st.t .ready) (.func (.yield w.heap.size) #[] #[]) hheap (by simp) rfl rfl rfl hyb (λhf=>by rcases hf with ⟨_,_,_,_,hf⟩ | ⟨_,hf⟩ <;> cases hf)
  have hyv:VR S (w.alloc (.loop { state:=.ready,pending:=none,fn,tmps:=a.tmps,params:=ps,assign:=ac,body:=b,defers:=0 })) (.ref st.h.length) (AZ κ st.h.length (.func (.yield w.heap.size) #[] #[])) (.func (.yield w.heap.size) #[] #[]):=⟨by simp [AZ],.inr (.inr ⟨_,rfl⟩)⟩;exact (hR.it gf (.ref st.h.length::caps) (.func (.yield w.heap.size) #[] #[]::ca) _ S ⟨.ref st.h.length::st.t,st.h++[.rng ⟨ps,ac,b⟩ st.t .ready]⟩ (.func (.yield w.heap.size) #[] #[]::a.tmps.toList) _ v (.all st') hg1
   (hr.env.ext hr.good hx1) ⟨_,_,rfl,hyv,VR.mono_go hS0 _ _ _ _ (hr.good.addK_sub _) hcaps⟩ ⟨_,_,rfl,hyv,VR.mono_go hS0 _ _ _ _ (hr.good.addK_sub _) hr.tmps⟩ h1).1
 rcases hq.at hr.good hk with ⟨_,rfl⟩ | ⟨l0,rec0,rfl,hl0⟩
 ·have hxg:Ext κ S st.h w κ S st.h (w.alloc (.deferred (some []))):=Ext.grown _
  have hgg:Good κ S st.h (w.alloc (.deferred (some []))):=hr.good.grow (λk hk=>B7 w _ k hk) (by simp);have hSg:∀ b,S b->S b∧(w.alloc (.deferred (some []))).heap[b]? = w.heap[b]?:=hxg.pers hr.good;have:=core fn (w.alloc (.deferred (some []))) [K5 w.heap.size] w.heap.size hxg hgg (hr.env.ext hr.good hxg) (VR.mono_go hSg _ _ _ _ (λ_ _ h=>h) hr.tmps) (VR.mono_go hSg _ _ _ _ (λ_ _ h=>h) hcaps)
   ⟨⟨w.heap.size,rfl,Nat.le_refl _,World.alloc_heap_new _ _,λi hi=>by have:=hr.good.lt hi; omega,λhs=>by have:=(hr.good.out _ hs).1; omega,λd' hd'=>by cases hd'⟩,trivial⟩
  rw [World.size_alloc] at this;exact ⟨w.heap.size+1,[K5 w.heap.size],_,_,_,gf,_,_,run_enterLoop_outer _ _ _ _ _,hrs _ _,λ_ _=>trivial,hle _ _ hen,Aey,this⟩
 ·exact ⟨w.heap.size,[],_,_,_,gf,_,_,run_enterLoop_inner hl0 _ _ _ _ _,hrs _ _,λ_ _=>trivial,hle _ _ hen,Aey,core fn w [] _ (Ext.refl _ _ _ _) hr.good hr.env hr.tmps hcaps trivial⟩
end
end Go.Sy
namespace Go.Sy
variable {dl:List Deferred} {ro:Option Nat}
section
variable {P:Program} {τ:List Ty} (hτ:TabOK P τ) {Γ:Cx} {R:Rg}
theorem O1.x {κ:Ai} {S:Nat->Prop} {h:List Blk} {w:World} {r:Ex×St} {Q:Exit->Act->World->Prop} (hw:O1 dl Γ.base κ S h w r Q):Rm dl Γ κ S h w r Q :=
 λκ' S' a' w' h1 h2=>hw [] κ' S' a' w' trivial h1 h2
include hτ in
theorem OB (hΓ:Bb P Γ.base) (hR:RgOK P Γ.base R) (ops:Array Oper) {Q:Exit->Act->World->Prop}:∀ (n k:Nat) (st st':St) (κ:Ai) (S:Nat->Prop) (a:Act) (w:World),k+n=ops.size->Rel dl Γ.base κ S st a w ->
  (O8 τ Γ.base R ops (ops.toList.drop k) st).sem=some st'->Way dl Γ.base κ S st.h w st' (λa' w'=>Q .normal a' w')->wpOpsIn (Ez ro) 0 P ops Q (List.range' k n) a w
 | 0,k,st,st',κ,S,a,w,hk,hr,h,hw=>by
  rw [List.drop_eq_nil_of_le (by simp; omega)] at h;have:=Aa h;subst this;exact hw κ S a w hr (Ext.refl _ _ _ _)
 | n+1,k,st,st',κ,S,a,w,hk,hr,h,hw=>by
  have hlt:k<ops.size:=by omega
  have hd:ops.toList.drop k=ops[k]::ops.toList.drop (k+1):=by
   rw [List.drop_eq_getElem_cons (by simpa using hlt)];simp
  rw [hd] at h;simp only [O8] at h;obtain ⟨st1,h1,h2⟩:=Ad h;simp only [List.range'_succ,wpOpsIn,Array.getElem?_eq_getElem hlt];have old:(Ja τ Γ.base ops ops[k] st).sem=some st1->(if Region.wanted ops[k] (yielded ops a.tmps)=true then ops[k].wpIn (Ez ro) 0 P a w (wpOpsIn (Ez ro) 0 P ops Q (List.range' (k+1) n)) Q
    else (∀ f,ops[k].about P w a.eval=some f->(Ez ro).fn f)∧wpOpsIn (Ez ro) 0 P ops Q (List.range' (k+1) n) (a.put ops[k].dst undef) w):=λh1=>by
   unfold Ja at h1;rcases GX hr.tmps h1 with ⟨hwant,hrun⟩ | ⟨hwant,hskip⟩
   ·rw [if_pos hwant]
    obtain ⟨⟨v,st2⟩,h3,h4⟩:=Ad hrun;have h4:=Aa h4;refine HK (.inr (Pu h3)) (Lx (P:=P) hτ hΓ hr.good hr.env hr.tmps h3 ?_);intro κ' S' c w' q1 q2 q3 q4;refine OB hΓ hR ops n (k+1) st1 st' κ' S' _ w' (by omega) ?_ h2 ?_
    ·subst h4
     exact ⟨by rw [CZ]; exact q1,hr.env.ext hr.good q4,Dg q2 q3,by rw [BA]; exact hr.defers⟩
    ·subst h4
     rw [CZ];exact hw.ext q4
   ·rw [if_neg (by rw [hwant]; simp)]
    have h4:=Aa hskip;refine ⟨λ_ _=>trivial,?_⟩;refine OB hΓ hR ops n (k+1) st1 st' κ S _ w (by omega) ?_ h2 ?_
    ·subst h4
     exact ⟨by rw [CZ]; exact hr.good,hr.env,Dg hr.tmps rfl,by rw [BA]; exact hr.defers⟩
    ·subst h4
     rw [CZ];exact hw
  unfold opY at h1;split at h1
  ·rename_i c hgd hop
   split at h1
   ·rename_i f hcf
    split at h1
    ·rename_i r hf
     obtain ⟨⟨v,st2⟩,h3,h4⟩:=Ad h1;have h4:=Aa h4;have hwant:Region.wanted ops[k] (yielded ops a.tmps)=true:=by simp [Region.wanted,hgd]
     rw [if_pos hwant];refine Abx (P:=P) hR hr.good hr.env hr.tmps hop hcf hf h3 ?_;intro κ' S' c w' q1 q2 q3 q4;refine OB hΓ hR ops n (k+1) st1 st' κ' S' _ w' (by omega) ?_ h2 ?_
     ·subst h4
      exact ⟨by rw [CZ]; exact q1,hr.env.ext hr.good q4,Dg q2 q3,by rw [BA]; exact hr.defers⟩
     ·subst h4
      rw [CZ];exact hw.ext q4
    ·exact old h1
   ·exact old h1
  ·exact old h1
def Rx (Γ:Cx):Prop:=∀ id f st r,(Γ.loop id f st).sem=some r->LRun Γ.base f st r
theorem Rx.ok (h:Rx Γ):Cb Γ:=λid f st r hr=>.run (h id f st r hr)
include hτ in
theorem QN (hm:P.follows .mixedOrders=true) (hΓ:Bb P Γ.base) (hΛ:Rx Γ) (hR:RgOK P Γ.base R) {q:Option (Nat×Nat)}:∀ (c:Code) (id:Nat) (st:St) (r:Ex×St) (dl:List Deferred) (κ:Ai) (S:Nat->Prop) (a:Act) (w:World) (Q:Exit->Act->World->Prop),
  Rel dl Γ.base κ S st a w->InR q ro κ st.h->(Gw τ Γ R q c id st).sem=some r->(ro=none ∨ DZ c=true)->O1 dl Γ.base κ S st.h w r Q->c.wpIn (Ez ro) 0 P Q a w:=by
 intro c
 induction c with
 | skip =>intro id st r dl κ S a w Q hr hq h hnd hw;have:=Aa h;subst this;exact wpIn_skip (hw.x κ S a w hr (Ext.refl _ _ _ _))
 | region i ops draw =>
  intro id st r dl κ S a w Q hr hq h hnd hw;simp only [Gw] at h;split at h
  ·obtain ⟨st',h1,h2⟩:=Ad h
   have:=Aa h2;subst this;refine wpIn_region ?_;have:=OB (P:=P) (Q:=Q) (ro:=ro) hτ hΓ hR ops ops.size 0 st st' κ S a w (by omega) hr (by simpa using h1) (λκ' S' a' w' h1 h2=>hw.x κ' S' a' w' h1 h2);rwa [List.range_eq_range']
  ·exact E1 (P:=P) hτ hm hΓ hΛ.ok _ id st r κ S a w Q hr h hnd hw.x
 | seq x y ihx ihy =>
  intro id st r dl κ S a w Q hr hq h hnd hw;obtain ⟨⟨e,st1⟩,h1,h2⟩:=Ad h;have hx:ro=none ∨ DZ x=true:=hnd.imp (λh=>h) λh=>(Bool.and_eq_true_iff.1 h).1;have hy:ro=none ∨ DZ y=true:=hnd.imp (λh=>h) λh=>(Bool.and_eq_true_iff.1 h).2;refine wpIn_seq (ihx id st (e,st1) dl κ S a w _ hr hq h1 hx ?_);intro ms κ' S' a' w' hms hr' he';cases e with
  | nm=>exact ihy id st1 r _ κ' S' a' w' Q hr' (hq.ext he') h2 hy (hw.ext hms he')
  | ex j =>have:=Aa h2;subst this;exact hw ms κ' S' a' w' hms hr' he'
  | rt =>have:=Aa h2;subst this;exact hw ms κ' S' a' w' hms hr' he'
 | cond x t e iht ihe =>
  intro id st r dl κ S a w Q hr hq h hnd hw;simp only [Gw] at h;split at h
  ·rename_i b hb
   have hx:=AT hr.env hr.tmps x;rw [hb] at hx;have hx:=Bl hx;cases b with
   | false=>exact wpIn_cond_false hx (ihe id st r dl κ S a w Q hr hq h (hnd.imp (λh=>h) λh=>(Bool.and_eq_true_iff.1 h).2) hw)
   | true=>exact wpIn_cond_true hx (iht id st r dl κ S a w Q hr hq h (hnd.imp (λh=>h) λh=>(Bool.and_eq_true_iff.1 h).1) hw)
  ·cases h
 | block i c ih =>
  intro id st r dl κ S a w Q hr hq h hnd hw;obtain ⟨⟨e,st1⟩,h1,h2⟩:=Ad h;refine wpIn_block (ih i st (e,st1) dl κ S a w _ hr hq h1 hnd ?_);intro ms κ' S' a' w' hms hr' he';cases e with
  | nm =>have:=Aa h2;subst this;exact hw ms κ' S' a' w' hms hr' he'
  | ex j =>
   simp only at h2;split at h2
   ·rename_i hj
    have hj:j=i:=Nat.eq_of_beq_eq_true hj;have:=Aa h2;subst this;show (if j=i then Q .normal a' w' else Q (.exit j) a' w')
    rw [if_pos hj];exact hw ms κ' S' a' w' hms hr' he'
   ·rename_i hj
    have hj:j ≠ i:=Nat.ne_of_beq_eq_false hj;have:=Aa h2;subst this;show (if j=i then Q .normal a' w' else Q (.exit j) a' w')
    rw [if_neg hj];exact hw ms κ' S' a' w' hms hr' he'
  | rt =>have:=Aa h2;subst this;exact hw ms κ' S' a' w' hms hr' he'
 | loop c ih =>
  intro id st r dl κ S a w Q hr hq h hnd hw;have hrun:LRun Γ.base (λst=>Gw τ Γ R q c id st) st r:=hΛ _ _ _ _ h;have key:∀ (st:St) (r:Ex×St),LRun Γ.base (λst=>Gw τ Γ R q c id st) st r->∃ n,∀ dl κ S a w,Rel dl Γ.base κ S st a w->InR q ro κ st.h->O1 dl Γ.base κ S st.h w r Q->Code.roundsIn (Ez ro) 0 P c Q n a w:=by
   intro st r hrun
   induction hrun with
   | stop h1 hne hle =>rename_i st st1 st2 e;refine ⟨1,λdl κ S a w hr hq hw=>ih id st (e,st1) dl κ S a w _ hr hq h1 hnd ?_⟩;intro ms κ' S' a' w' hms hr' he';obtain ⟨κ2,S2,hr2,he2⟩:=hle _ κ' S' a' w' hr';exact Pn hne (hw ms κ2 S2 a' w' (hms.ext he2) hr2 (he'.trans he2))
   | next h1 hle _ ihr =>rename_i st st1 st2 r _;obtain ⟨n,hn⟩:=ihr;refine ⟨n+1,λdl κ S a w hr hq hw=>ih id st (.nm,st1) dl κ S a w _ hr hq h1 hnd ?_⟩;intro ms κ' S' a' w' hms hr' he';obtain ⟨κ2,S2,hr2,he2⟩:=hle _ κ' S' a' w' hr';exact hn _ κ2 S2 a' w' hr2 ((hq.ext he').ext he2) (hw.ext (hms.ext he2) (he'.trans he2))
   | weak hle _ ihr =>obtain ⟨n,hn⟩:=ihr;refine ⟨n,λdl κ S a w hr hq hw=>?_⟩;obtain ⟨κ2,S2,hr2,he2⟩:=hle _ κ S a w hr;exact hn _ κ2 S2 a w hr2 (hq.ext he2) (hw.le he2)
  obtain ⟨n,hn⟩:=key st r hrun;exact wpIn_loop_rounds n (hn dl κ S a w hr hq hw)
 | exit i =>intro id st r dl κ S a w Q hr hq h hnd hw;have:=Aa h;subst this;exact wpIn_exit (hw.x κ S a w hr (Ext.refl _ _ _ _))
 | ret =>intro id st r dl κ S a w Q hr hq h hnd hw;have:=Aa h;subst this;exact wpIn_ret (hw.x κ S a w hr (Ext.refl _ _ _ _))
 | rangeFunc g ps x y _ _ =>intro id st r dl κ S a w Q hr hq h hnd hw;exact AcJ (P:=P) hR hr hq h hw
 | _ =>intro id st r dl κ S a w Q hr hq h hnd hw;cases h
include hτ in
theorem Agq (hm:P.follows .mixedOrders=true) (hΓ:Bb P Γ.base) (hΛ:Rx Γ) (hR:RgOK P Γ.base R) (l:Nat) (cd:RngCode) (r sv:Nat) (st:St) (x:Ex×St) (κ:Ai) (S:Nat->Prop) (a:Act) (w:World) (Q:Exit->Act->World->Prop)
  (hr:Rel [] Γ.base κ S st a w) (hin:InR (some (r,sv)) (some l) κ st.h) (h:(Ac9 τ Γ R cd r sv st).sem=some x)
  (hw:∀ ms κ' S' a' w',EJ w.heap.size κ' S' x.2.h w' ms->Rel (ms++[]) Γ.base κ' S' x.2 a' w'->Ext κ S st.h w κ' S' x.2.h w'->Q (Fo x.1) a' w') :
  cd.a.wpIn (Ez (some l)) 0 P (Exit.then (λa₁ w₁=>∃ w₂,(Instr.beginRound l).run P w₁ = .ok () w₂∧cd.b.wpIn (Ez (some l)) 0 P Q a₁ w₂) (λ_ _ _=>False)) a w:=by
 unfold Ac9 at h;split at h
 rotate_left
 ·cases h
 rename_i hnd;obtain ⟨hna,hnb⟩:=Bool.and_eq_true_iff.1 hnd;obtain ⟨⟨e,st1⟩,h1,h2⟩:=Ad h;cases e with
 | ex i=>cases h2
 | rt=>cases h2
 | nm =>
  simp only at h2;split at h2
  rotate_left
  ·cases h2
  rename_i r' ts0 cd' ts hsv hbr;split at h2
  rotate_left
  ·cases h2
  rename_i hrr;obtain rfl:=Nat.eq_of_beq_eq_true hrr;refine QN (P:=P) (ro:=some l) hτ hm hΓ hΛ hR cd.a 0 st (.nm,st1) [] κ S a w _ hr hin h1 (.inr hna) ?_;intro ms κ' S' a' w' hms hr' he';have hin':=hin.ext he';obtain ⟨ls,hκ⟩:=hin' _ hsv;have hκr:κ' r'=some (.func (.yield l) #[] #[]):=by
   obtain hp | ⟨ls',e1,hv⟩:=hr'.good.blk sv _ hsv
   ·cases hp
   ·rw [hκ] at e1
    simp only [Option.some.injEq,Value.tuple.injEq] at e1;have e1:=congrArg Array.toList e1;simp only at e1;obtain ⟨y,l2,e2,hyv,_⟩:=hv;rw [e2] at e1;simp only [List.cons.injEq] at e1;rw [e1.1];exact hyv.1
  obtain ⟨l2,rec2,k1,k2,k3,k4,k5⟩:=hr'.good.blk r' _ hbr;rw [hκr] at k1;simp at k1;subst k1;have hll:l<w'.heap.size:=(Array.getElem?_eq_some_iff.1 k2).1;have hoth:∀ (rec3:Loop) (k:Nat),¬ inBlk (κ' r') k (.rng cd' ts .ready)->k<w'.heap.size->(w'.putObj l (.loop rec3)).heap[k]? = w'.heap[k]?:=λrec3 k hk _=>World.putObj_heap_other (λe=>hk (by rw [hκr,e]; rfl));have hSl:∀ (rec3:Loop) b,S' b->S' b∧(w'.putObj l (.loop rec3)).heap[b]? = w'.heap[b]?:=λrec3 b hb=>⟨hb,World.putObj_heap_other λe=>by
   subst e;exact (hr'.good.out b hb).2 r' ((Aq hbr).2 (by rw [hκr]; rfl))⟩
  refine ⟨_,run_beginRound k2 k4.1,?_⟩;obtain ⟨z1,z2⟩:=hr'.good.upd' (w':=w'.putObj l (.loop { rec2 with state:=.busy })) (b':=.rng cd' ts .busy) hbr (λ_ h=>h) (hoth _) (by simp)
   ⟨l,_,hκr,World.putObj_heap_same hll,k3,rfl,VR.mono_go (hSl _) _ _ _ _ (λ_ _ h=>h) k5⟩
  have z3:Ext κ' S' st1.h w' κ' S' (st1.h.set r' (.rng cd' ts .busy)) (w'.putObj l (.loop { rec2 with state:=.busy })):=Ext.upd' hr'.good hbr rfl (hoth _) (by simp) rfl rfl rfl z2 (by simp) (λhf=>by rcases hf with ⟨_,_,_,_,hf⟩ | ⟨_,hf⟩ <;> cases hf)
  have hr2:Rel (ms++[]) Γ.base κ' S' ⟨st1.t,st1.h.set r' (.rng cd' ts .busy)⟩ a' (w'.putObj l (.loop { rec2 with state:=.busy })):=⟨z1,hr'.env.ext hr'.good z3,VR.mono_go (hSl _) _ _ _ _ (λ_ _ h=>h) hr'.tmps,hr'.defers⟩
  refine QN (P:=P) (ro:=some l) hτ hm hΓ hΛ hR cd.b 0 _ x _ κ' S' a' _ Q hr2 (hin'.ext z3) h2 (.inr hnb) ?_;have hw':O1 [] Γ.base κ S st.h w x Q:=hw;exact hw'.ext (hms.ext z3) (he'.trans z3)
theorem Og {fn:Func} {tmps:Array Value} {R:Ending->World->Prop} {κ:Ai} {S:Nat->Prop} {h:List Blk} {B:Nat}:∀ {ms:List Deferred} {w:World},EJ B κ S h w ms ->
  (∀ w',w'.os=w.os->w'.tape=w.tape->w'.output=w.output->w'.heap.size=w.heap.size->(∀ k,(k<B ∨ S k ∨ ∃ i,A3 κ h i k)->w'.heap[k]? = w.heap[k]?)->∃ v,(results fn tmps).run P w' = .ok v w'∧R (.returned v) w') ->
  LeavesInM (Ez none) 0 P fn tmps R ms .returning w
 | [],w,_,hk=>by
  obtain ⟨v,h1,h2⟩:=hk w rfl rfl rfl rfl λ_ _=>rfl;exact ⟨v,h1,h2⟩
 | d::ms,w,⟨⟨D,h1,h2,h3,h4,h5,h6⟩,hm⟩,hk=>by
  subst h1;have hm':EJ B κ S h (w.putObj D (.deferred none)) ms:=by
   have key:∀ {ms:List Deferred},(∀ d',d' ∈ ms->d' ≠ K5 D)->EJ B κ S h w ms->EJ B κ S h (w.putObj D (.deferred none)) ms:=fun {ms}=>by
    induction ms with
    | nil=>intro _ _; trivial
    | cons d' ms ih =>
     rintro hne ⟨⟨D',q1,q2,q3,q4⟩,hm⟩
     refine ⟨⟨D',q1,q2,?_,q4⟩,ih (λd hd=>hne d (List.mem_cons_of_mem _ hd)) hm⟩;rw [World.putObj_heap_other (λe=>hne d' (List.mem_cons_self) (by rw [q1,e]))];exact q3
   exact key h6 hm
  refine ⟨by simp,.inl ⟨D,_,rfl,run_takeDeferred h3,Og hm' λw' q1 q2 q3 q4 q5=>?_⟩⟩;refine hk w' q1 q2 q3 (q4.trans (by simp)) λk hkk=>(q5 k hkk).trans (World.putObj_heap_other λe=>?_);subst e;rcases hkk with hlt | hs | ⟨i,hi⟩
  ·omega
  ·exact h5 hs
  ·exact h4 i hi
theorem Good.same {κ:Ai} {S:Nat->Prop} {h:List Blk} {w w':World} (g:Good κ S h w) (hsz:w'.heap.size=w.heap.size) (hh:∀ k,(S k ∨ ∃ i,A3 κ h i k)->w'.heap[k]? = w.heap[k]?):Good κ S h w' :=
 ⟨λi b hb=>(g.blk i b hb).mono (λb hb=>⟨hb,hh b (.inl hb)⟩) (λ_ _ h=>h) λk hk=>hh k (.inr ⟨i,(Aq hb).2 hk⟩),g.sep,λb hb=>⟨by rw [hsz]; exact (g.out b hb).1,(g.out b hb).2⟩,g.dom⟩
include hτ in
theorem Km (hm:P.follows .mixedOrders=true) (hΓ:Bb P Γ.base) (hΛ:Rx Γ) (hR:RgOK P Γ.base R) {f:FuncId} {fn:Func} (hf:P.funcs[f]? = some fn) (hb:fn.body.isSome=true) (hn:(fn.name == "runtime.NumGoroutine")=false):E4 P Γ.glob f (N7 τ Γ R fn):=by
 obtain ⟨c,hc⟩:=Option.isSome_iff_exists.1 hb;refine ⟨⟨fn,hf,by simpa using hn,hb⟩,λvs cs κ S h w v h' hg hE hv he=>?_⟩;unfold N7 at he;rw [hc] at he;obtain ⟨⟨e,st⟩,h1,h2⟩:=Ad he;refine callsIn_wide.1 (callsIn_of_wp_marks (n:=0) hf hc trivial ?_);have hlen:=hv.length;have hr:Rel [] Γ.base κ S ⟨vs++F8 (Nat.sub fn.ntmps vs.length),h⟩ { tmps:=cs.toArray++Array.replicate (fn.ntmps-cs.toArray.size) undef,defers:=[] } w:=by
  refine ⟨hg,hE,?_,rfl⟩;have:=hv.append (G5 (S:=S) (w:=w) (κ:=κ) (Nat.sub fn.ntmps vs.length));have e2:Nat.sub fn.ntmps vs.length=fn.ntmps-cs.length:=by rw [hlen]; rfl
  rw [e2] at this ⊢;simpa using this
 refine QN (P:=P) (ro:=none) (q:=none) hτ hm hΓ hΛ hR c 0 _ (e,st) [] κ S _ w _ hr trivial h1 (.inl rfl) ?_;intro ms κ' S' a' w' hms hr' he';have fin:DU τ fn st=some v->st.h=h'->LeavesInM (Ez none) 0 P fn a'.tmps (λe w'=>∃ c κ' S',e = .returned c∧Good κ' S' h' w'∧VR S' w' v κ' c∧Ext κ S h w κ' S' h' w') a'.defers .returning w':=by
  intro q1 q2;subst q2;have hd:a'.defers=ms:=by rw [hr'.defers,List.append_nil]
  rw [hd];refine Og hms λw2 k1 k2 k3 k4 k5=>?_;have hsm:∀ k,(S' k ∨ ∃ i,A3 κ' st.h i k)->w2.heap[k]? = w'.heap[k]?:=λk hk=>k5 k (.inr hk);have hS2:∀ b,S' b->S' b∧w2.heap[b]? = w'.heap[b]?:=λb hb=>⟨hb,hsm b (.inl hb)⟩;have hr2:Rel (ms++[]) Γ.base κ' S' st a' w2:=⟨hr'.good.same k4 hsm,λg=>VR.mono hS2 _ _ _ _ (λ_ _ h=>h) (hr'.env g),VR.mono_go hS2 _ _ _ _ (λ_ _ h=>h) hr'.tmps,hr'.defers⟩;obtain ⟨u,q3,q4⟩:=HM (P:=P) hτ hr2 q1;refine ⟨u,q3,u,κ',S',rfl,hr2.good,q4,⟨k1.trans he'.os,k2.trans he'.tape,k3.trans he'.output,by rw [k4]; exact he'.size,λb hb hn=>(k5 b (.inl hb)).trans (he'.keep b hb hn),he'.own,he'.sub,he'.sup,λb p hs=>?_,he'.fix⟩⟩;obtain ⟨z1,z2⟩:=he'.pre b p hs;exact ⟨⟨by rw [k4]; exact z1.1,z1.2⟩,λca e z hh=>by
   obtain ⟨ca',y1,y2,y3⟩:=z2 ca e z hh;exact ⟨ca',by rw [k5 b (.inl hs.1)]; exact y1,y2,y3⟩⟩
 cases e with
 | ex j=>cases h2
 | nm =>
  simp only at h2;split at h2
  ·rename_i u hu
   have:=Aa h2;simp only [Prod.mk.injEq] at this;obtain ⟨rfl,rfl⟩:=this;exact fin hu rfl
  ·cases h2
 | rt =>
  simp only at h2;split at h2
  ·rename_i u hu
   have:=Aa h2;simp only [Prod.mk.injEq] at this;obtain ⟨rfl,rfl⟩:=this;exact fin hu rfl
  ·cases h2
end
def rgI (it:List (Nat×(List V->List Blk->A2))) (rnd:RngCode->Nat->Nat->St->T (Ex×St)):Rg:=⟨λf vs st=>match Jb f it with
 | some E=>Aky E vs st
 | none=>.fail,rnd⟩
def JK (P:Program) (G:Nat->V) (it:List (Nat×(List V->List Blk->A2))):Prop:=∀ p,p ∈ it->E4 P G p.1 p.2
theorem JK.nil {P:Program} {G:Nat->V}:JK P G []:=λ_ h=>by cases h
theorem JK.cons {P:Program} {G:Nat->V} {f:Nat} {E:List V->List Blk->A2} {it:List (Nat×(List V->List Blk->A2))} (h:E4 P G f E) (ht:JK P G it):JK P G ((f,E)::it):=λp hp=>by
 rcases List.mem_cons.1 hp with rfl | hp
 ·exact h
 ·exact ht p hp
def YR:RngCode->Nat->Nat->St->T (Ex×St):=λ_ _ _ _=>.fail
theorem P5 {P:Program} {Γ:Cx0} {it:List (Nat×(List V->List Blk->A2))} (h:JK P Γ.glob it):RgOK P Γ (rgI it YR) where
 it:=λf vs cs κ S st l w v r hg hE hv ht he=>by
  have he:(match Jb f it with | some E=>Aky E vs st | none=>.fail:T (V×Res)).sem=some (v,r):=he
  split at he
  ·rename_i E hl
   exact AgP (h _ (GU hl)) hg hE hv ht he
  ·cases he
 rnd:=λ_ _ _ _ _ _ _ _ _ _ _ _ _ _ h=>by cases h
theorem AcA {P:Program} {τ:List Ty} (hτ:TabOK P τ) (hm:P.follows .mixedOrders=true) {Γ Γ':Cx} {R:Rg} (hG:Γ.glob=Γ'.glob) (hΓ:Bb P Γ.base) (hΛ:Rx Γ) (hR:RgOK P Γ.base R) {it:List (Nat×(List V->List Blk->A2))} (h:JK P Γ'.glob it):RgOK P Γ'.base (rgI it (Ac9 τ Γ R)) where
 it:=(P5 (Γ:=Γ'.base) h).it
 rnd:=λl cd r sv st x κ S a w Q hr hin _ hx hw=>by
  have e1:∀ S w,CC Γ'.base S w->CC Γ.base S w:=λS w he g=>by
   have:=he g;rw [show Γ'.base.glob=Γ.base.glob from hG.symm] at this;exact this
  have e2:∀ S w,CC Γ.base S w->CC Γ'.base S w:=λS w he g=>by
   have:=he g;rw [show Γ.base.glob=Γ'.base.glob from hG] at this;exact this
  exact Agq (P:=P) hτ hm hΓ hΛ hR l cd r sv st x κ S a w Q ⟨hr.good,e1 _ _ hr.env,hr.tmps,hr.defers⟩ hin hx λms κ' S' a' w' _ hr' he'=>hw _ κ' S' a' w' ⟨hr'.good,e2 _ _ hr'.env,hr'.tmps,hr'.defers⟩ he'
end Go.Sy
namespace Go.Sy
inductive NilB:Blk->Value->Prop where
 | row {e s:Nat} {g:Nat->V} (h:0<s):NilB (.row e s 0 g) (.slice none 0 0)
 | jag {e size off e' s':Nat} {get:Nat->V} {live:Nat->Bool} {len:Nat->Nat} {mem:Nat->Nat->V} (h1:0<size) (h2:off<size) (h3:0<s'):NilB (.jag ⟨e,size,0,get,off,e',s',live,len,mem,none⟩) (.tuple #[.slice none 0 0,.agg #[]])
inductive Ups:V->List Blk->V->List Blk->Prop where
 | refl (v:V) (h:List Blk):Ups v h v h
 | up {v v1:V} {h:List Blk} {b:Blk} {c:Value} {v2:V} {h2:List Blk} (hb:NilB b c) (hv:∀ (S:Nat->Prop) (w:World) (κ:Ai) (d:Value),κ h.length=some c->VR S w v κ d->VR S w v1 κ d) (u:Ups v1 (h++[b]) v2 h2):Ups v h v2 h2
theorem NilB.free {b:Blk} {c:Value} (h:NilB b c) (x:Nat):¬ inBlk (some c) x b:=by
 cases h with
 | row h=>intro hx; cases hx
 | jag h1 h2 h3 =>
  intro hx;obtain ⟨c,ms,e,hx⟩:=hx;cases e;rcases hx with hx | ⟨i,m,hm,_⟩
  ·cases hx
  ·simp at hm
theorem NilB.fixed {b:Blk} {c:Value} (h:NilB b c):¬ CB b:=by
 cases h with
 | row h=>intro hx; rcases hx with ⟨_,_,_,_,h⟩ | ⟨_,h⟩ <;> cases h
 | jag h1 h2 h3=>exact Bj _
theorem NilB.holds {b:Blk} {c:Value} (h:NilB b c) (S:Nat->Prop) (w:World) (κ:Ai):A7 S w κ (some c) b:=by
 cases h with
 | row h=>exact ⟨h,_,[],rfl,World.ownsRow_nil w 0 _ _,λi hi=>absurd hi (Nat.not_lt_zero _)⟩
 | jag h1 h2 h3=>exact ⟨_,_,[],rfl,Ue _ _ _ _ _ h1 h2 h3 _ _ _ _⟩
theorem NilB.isRow {b:Blk} {c:Value} (h:NilB b c):Gt b:=by
 cases h with
 | row h=>exact .inl ⟨_,_,_,_,rfl⟩
 | jag h1 h2 h3=>exact .inr ⟨_,rfl⟩
theorem Ip.snoc {h:List Blk} {b:Blk} (hr:Ip h) (hb:Gt b):Ip (h++[b]):=λi b' hi=>by
 rcases Nat.lt_trichotomy i h.length with hl | hl | hl
 ·rw [List.getElem?_append_left hl] at hi
  exact hr i b' hi
 ·subst hl
  rw [List.getElem?_append_right (Nat.le_refl _),Nat.sub_self] at hi;cases hi;exact hb
 ·rw [List.getElem?_eq_none (by simp; omega)] at hi
  cases hi
theorem Ups.rows {v v2:V} {h h2:List Blk} (u:Ups v h v2 h2) (hr:Ip h):Ip h2:=by
 induction u with
 | refl v h=>exact hr
 | up hb hv u ih=>exact ih (hr.snoc hb.isRow)
theorem Ups.ok {κ0:Ai} {S0:Nat->Prop} {h0:List Blk} {w0:World} {v v2:V} {h h2:List Blk} (u:Ups v h v2 h2):∀ {κ:Ai} {S:Nat->Prop} {w:World} {d:Value},
  Good κ S h w->VR S w v κ d->Ext κ0 S0 h0 w0 κ S h w->∃ κ2,Good κ2 S h2 w∧VR S w v2 κ2 d∧Ext κ0 S0 h0 w0 κ2 S h2 w:=by
 induction u with
 | refl v h=>exact λhg hv he=>⟨_,hg,hv,he⟩
 | @up v v1 h b c v2 h2 hb hv u ih =>intro κ S w d hg hvr he;exact ih (κ:=AZ κ h.length c) (hg.adopt b c (hb.holds S w _) λx hx=>absurd hx (hb.free x)) (hv S w _ d (by simp [AZ]) (VR.mono (λ_ hb=>⟨hb,rfl⟩) _ _ _ _ (hg.addK_sub _) hvr)) (he.adopt b c hb.fixed λx hx=>absurd hx (hb.free x))
theorem As.ups {P:Program} {G:Nat->V} {f:FuncId} {F F':List V->A2} (h:As P G f F) (hF:∀ vs v h',(F' vs).sem=some (v,h')->∃ v0 h0,(F vs).sem=some (v0,h0)∧Ups v0 h0 v h'):As P G f F' :=
 ⟨h.1,λvs cs S w v h' h1 h2 h3 h4=>by
  obtain ⟨v0,h0,e,u⟩:=hF vs v h' h4;obtain ⟨r,k⟩:=h.2 vs cs S w v0 h0 h1 h2 h3 e;have hR:=u.rows r;refine ⟨hR,k.mono ?_⟩
  rintro e' w' ⟨c,κ',S',q1,q2,q3,q4⟩
  obtain ⟨κ2,g1,g2,g3⟩:=u.ok q2 q3 q4;exact ⟨c,κ2,S',q1,g1,g2,g3⟩⟩
end Go.Sy
