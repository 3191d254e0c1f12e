/-
  From the evaluator to a law's row: functions said otherwise, arguments and tables read, a law's walk. Conditions: as before.
-/
import Derived.Test.YtkbgidbledjejaaGreatSyP
import Derived.ProofKit
import Derived.Carry
import Derived.SizedLaws
import Derived.FnData
import Derived.Lib.LaidTab
import Derived.ScopeJumps
namespace Go.Sy
def B0 (vs vs':List V):Prop:=∀ S w cs,VRs S w vs noK cs->VRs S w vs' noK cs
theorem B0.refl (vs:List V):B0 vs vs:=λ_ _ _ h=>h
inductive SayB:Blk->Blk->Prop where
 | same (b:Blk):SayB b b
 | row {e s n:Nat} {g g':Nat->V}:(∀ j,j<n->g' j=g j)->SayB (.row e s n g) (.row e s n g')
 | jag {j:Jag} {get':Nat->V} {live':Nat->Bool} {len':Nat->Nat} {mem':Nat->Nat->V}:(∀ k,k<j.n->get' k=j.get k ∨ get' k = .und)->(∀ k,k<j.n->live' k=j.live k)->(∀ k,k<j.n->len' k=j.len k) ->
   (∀ k,k<j.n->∀ q,q<j.len k->mem' k q=j.mem k q)->SayB (.jag j) (.jag { j with get:=get',live:=live',len:=len',mem:=mem' })
theorem SayB.inB {b b':Blk} (h:SayB b b') (v:Option Value) (g:Nat):inBlk v g b'↔inBlk v g b:=by cases h <;> exact Iff.rfl
theorem SayB.isRow {b b':Blk} (h:SayB b b') (hb:Gt b):Gt b':=by
 cases h with
 | same=>exact hb
 | row _=>exact .inl ⟨_,_,_,_,rfl⟩
 | jag _ _ _ _=>exact .inr ⟨_,rfl⟩
theorem AgN {S:Nat->Prop} {w:World} {κ:Ai} {v:Option Value} {j:Jag} {get':Nat->V} {live':Nat->Bool} {len':Nat->Nat} {mem':Nat->Nat->V} (h1:∀ k,k<j.n->get' k=j.get k ∨ get' k = .und) (h2:∀ k,k<j.n->live' k=j.live k)
  (h3:∀ k,k<j.n->len' k=j.len k) (h4:∀ k,k<j.n->∀ q,q<j.len k->mem' k q=j.mem k q) (hB:A7 S w κ v (.jag j)):A7 S w κ v (.jag { j with get:=get',live:=live',len:=len',mem:=mem' }):=by
 obtain ⟨c,ms,xs,q1,z1,z2,z3,z4,z5,z6,z7,z8,z9⟩:=hB;refine ⟨c,ms,xs,q1,z1,z2,z3,z4,z5,z6,λk hk=>?_,λk m hm=>?_,z9⟩
 ·show ∃ ci,VR S w (get' k) noK ci∧_
  rcases h1 k hk with he | he
  ·rw [he]
   exact z7 k hk
  ·rw [he]
   obtain ⟨ci,_,hr⟩:=z7 k hk;exact ⟨ci,trivial,hr⟩
 ·rcases z8 k m hm with ⟨hk,this⟩ | h8
  rotate_left
  ·exact .inr h8
  refine .inl ⟨hk,?_⟩;unfold HF at this ⊢;show (match live' k with | true=>_ | false=>_)
  rw [h2 k hk];split
  ·rename_i hlv
   rw [hlv] at this;obtain ⟨y1,ys,y2,y3⟩:=this;refine ⟨y1,ys,by show w.ownsRow 0 j.e' j.s' m (len' k) ys; rw [h3 k hk]; exact y2,?_⟩;show CS S w j.s' (len' k) (mem' k) ys;rw [h3 k hk];exact λq hq=>by rw [h4 k hk q hq]; exact y3 q hq
  ·rename_i hlv
   rw [hlv] at this;exact this
theorem SayB.holds {b b':Blk} (h:SayB b b') {S:Nat->Prop} {w:World} {κ:Ai} {v:Option Value} (hB:A7 S w κ v b):A7 S w κ v b':=by
 cases h with
 | same=>exact hB
 | row h =>obtain ⟨q0,c,xs,q1,q2,q3⟩:=hB;exact ⟨q0,c,xs,q1,q2,λk hk=>by rw [h k hk]; exact q3 k hk⟩
 | jag h1 h2 h3 h4=>exact AgN h1 h2 h3 h4 hB
def Au (h h':List Blk):Prop:=h.length=h'.length∧∀ (i:Nat) (b:Blk),h[i]? = some b->∃ b',h'[i]? = some b'∧SayB b b'
theorem Au.refl (h:List Blk):Au h h:=⟨rfl,λ_ b hi=>⟨b,hi,.same b⟩⟩
theorem Au.consB {b b':Blk} {l l':List Blk} (h:SayB b b') (hl:Au l l'):Au (b::l) (b'::l'):=by
 refine ⟨by simp [hl.1],λi b1 hi=>?_⟩;cases i with
 | zero =>simp at hi;subst hi;exact ⟨b',rfl,h⟩
 | succ i=>simpa using hl.2 i b1 (by simpa using hi)
theorem Au.cons {e s n:Nat} {g g':Nat->V} {l l':List Blk} (h:∀ j,j<n->g' j=g j) (hl:Au l l'):Au (Blk.row e s n g::l) (Blk.row e s n g'::l'):=.consB (.row h) hl
theorem Au.one {e s n:Nat} {g g':Nat->V} (h:∀ j,j<n->g' j=g j):Au [Blk.row e s n g] [Blk.row e s n g']:=.cons h (.refl [])
theorem Au.rows {h h':List Blk} (hh:Au h h') (hr:Ip h):Ip h':=by
 intro i b hb;have hl:i<h.length:=by rw [hh.1]; exact (List.getElem?_eq_some_iff.1 hb).1
 obtain ⟨b',h1,h2⟩:=hh.2 i _ (List.getElem?_eq_getElem hl);rw [h1] at hb;simp only [Option.some.injEq] at hb;subst hb;exact h2.isRow (hr i _ (List.getElem?_eq_getElem hl))
theorem Au.good {h h':List Blk} (hh:Au h h') {κ:Ai} {S:Nat->Prop} {w:World} (hg:Good κ S h w):Good κ S h' w∧∀ i k,A3 κ h' i k↔A3 κ h i k:=by
 have hown:∀ i k,A3 κ h' i k↔A3 κ h i k:=by
  intro i k;cases hi:h[i]? with
  | none =>
   have:h'[i]? = none:=by
    rw [List.getElem?_eq_none_iff] at hi ⊢;rw [<- hh.1]; exact hi
   exact ⟨λq=>absurd q (D9 this),λq=>absurd q (D9 hi)⟩
  | some b =>obtain ⟨b',h1,h2⟩:=hh.2 i b hi;rw [Aq hi,Aq h1];exact h2.inB _ _
 refine ⟨⟨?_,?_,?_,?_⟩,hown⟩
 ·intro i b hb
  have hl:i<h.length:=by rw [hh.1]; exact (List.getElem?_eq_some_iff.1 hb).1
  obtain ⟨b',h1,h2⟩:=hh.2 i _ (List.getElem?_eq_getElem hl);rw [h1] at hb;simp only [Option.some.injEq] at hb;subst hb;exact h2.holds (hg.blk i _ (List.getElem?_eq_getElem hl))
 ·intro i j g hij hi hj
  rw [hown] at hi hj;exact hg.sep i j g hij hi hj
 ·intro b hb
  exact ⟨(hg.out b hb).1,λi hi=>(hg.out b hb).2 i ((hown i b).1 hi)⟩
 ·intro i hi
  exact hg.dom i (by rw [hh.1]; exact hi)
theorem Ah {P:Program} {τ:List Ty} (hτ:TabOK P τ) (hm:P.follows .mixedOrders=true) {f:FuncId} {fn:Func} (hf:P.funcs[f]? = some fn)
  (hb:fn.body.isSome=true) (hn:(fn.name == "runtime.NumGoroutine")=false) {G:Nat->V} {F:List V->A2}
  (h:∀ vs v h',(F vs).sem=some (v,h')->∃ vs' Γ h'',B0 vs vs'∧Γ.glob=G∧Bb P Γ.base∧Cb Γ∧(AK (Ar τ Γ fn vs' [])).sem=some (v,h'')∧Au h'' h'):As P G f F:=by
 obtain ⟨c,hb⟩:=Option.isSome_iff_exists.1 hb;have hn:fn.name ≠ "runtime.NumGoroutine":=by simpa using hn
 refine ⟨⟨fn,hf,hn,by rw [hb]; rfl⟩,λvs cs S w v h' hS hE hv he=>?_⟩;obtain ⟨vs',Γ,h'',h1,h2,h3,hΛ,h4,h5⟩:=h vs v h' he;subst h2;obtain ⟨hr,hc⟩:=(K4 hτ hm h3 hΛ hf hb hn).2 vs' cs S w v h'' hS hE (h1 S w cs hv) h4;refine ⟨h5.rows hr,hc.mono ?_⟩
 rintro e w' ⟨u,κ',S',rfl,g1,g2,g3⟩
 obtain ⟨p1,p2⟩:=h5.good g1;refine ⟨u,κ',S',rfl,p1,g2,Ext.ofNil g3.os g3.tape g3.output g3.size g3.keep (λi b hb=>?_) g3.sub g3.sup (h5.rows hr)⟩;rw [p2] at hb;exact g3.own i b hb
theorem AO {P:Program} {τ:List Ty} (hτ:TabOK P τ) (hm:P.follows .mixedOrders=true) {f:FuncId} {fn:Func} (hf:P.funcs[f]? = some fn)
  (hb:fn.body.isSome=true) (hn:(fn.name == "runtime.NumGoroutine")=false) {Γ:Cx} (hΓ:Bb P Γ.base∧Cb Γ):As P Γ.glob f λvs=>AK (Ar τ Γ fn vs []):=by
 obtain ⟨c,hb⟩:=Option.isSome_iff_exists.1 hb;exact K4 hτ hm hΓ.1 hΓ.2 hf hb (by simpa using hn)
def WB (W:World):Nat->Prop:=λb=>b<W.heap.size
theorem Tp {P:Program} {G:Nat->V} {f:FuncId} {F:List V->A2} (hp:As P G f F) {vs:List V} {cs:List Value} {W:World} {h':List Blk} (hE:MK G (WB W) W)
  (hv:VRs (WB W) W vs noK cs) (he:(F vs).sem=some (bV true,h')):Calls P f cs.toArray W λe w'=>e = .returned (.bool true)∧RowKit.Below W.heap.size W w':=by
 refine (hp.2 vs cs (WB W) W _ h' (λ_ h=>h) hE hv he).2.mono ?_
 rintro e w' ⟨c,κ',S',rfl,_,g2,g3⟩
 have g2:c = .bool true:=g2;subst g2;exact ⟨rfl,g3.os,g3.tape,g3.output,g3.size,λk hk=>g3.keep k hk (λi=>ED _ _ _)⟩
theorem Ahh {w:World} {a:Addr} {v:Value} (h:w.cell? a=some v):a.block<w.heap.size:=by
 rcases Nat.lt_or_ge a.block w.heap.size with hl | hl
 ·exact hl
 ·simp [World.cell?,Array.getElem?_eq_none hl] at h
def B9 (Dp:List (Nat×Lp)) (id:Nat) (f:St->T (Ex×St)) (st:St):T (Ex×St) :=
 match Jb id Dp with
 | some l=>Ax f l l.fuel st
 | none=>.fail
def BP (G:Nat->V) (tbl:AH) (Dp:List (Nat×Lp)):Cx:=⟨A6 tbl,B9 Dp,G⟩
theorem Bm {P:Program} {G:Nat->V} {tbl:AH} (h:Ao P G tbl) (Dp:List (Nat×Lp)):Bb P (BP G tbl Dp).base∧Cb (BP G tbl Dp) :=
 ⟨Ep rfl h,λid f st r hr=>by
  have hr:(B9 Dp id f st).sem=some r:=hr;unfold B9 at hr;split at hr
  ·exact .run (GA hr)
  ·cases hr⟩
def T.path {α:Type}:List Bool->T α->Option (List Bool×α)
 | [],.leaf a=>some ([],a)
 | true::ds,.br b x _=>match T.path ds x with
  | some (cs,a)=>some (b::cs,a)
  | none=>none
 | false::ds,.br b _ y=>match T.path ds y with
  | some (cs,a)=>some (b::cs,a)
  | none=>none
 | _,_=>none
theorem A9 {α:Type}:∀ {ds cs:List Bool} {t:T α} {a:α},T.path ds t=some (cs,a)->cs=ds->t.sem=some a
 | [],cs,.leaf a,r,h,_=>by
  simp [T.path] at h;rw [h.2]; rfl
 | true::ds,cs,.br b x y,r,h,hc=>by
  simp only [T.path] at h;split at h
  ·rename_i cs' a' hp
   simp only [Option.some.injEq,Prod.mk.injEq] at h;obtain ⟨rfl,rfl⟩:=h;simp only [List.cons.injEq] at hc;obtain ⟨rfl,hc⟩:=hc;show sel true x.sem y.sem=_;exact A9 hp hc
  ·cases h
 | false::ds,cs,.br b x y,r,h,hc=>by
  simp only [T.path] at h;split at h
  ·rename_i cs' a' hp
   simp only [Option.some.injEq,Prod.mk.injEq] at h;obtain ⟨rfl,rfl⟩:=h;simp only [List.cons.injEq] at hc;obtain ⟨rfl,hc⟩:=hc;show sel false x.sem y.sem=_;exact A9 hp hc
  ·cases h
 | [],_,.br _ _ _,_,h,_=>by simp [T.path] at h
 | [],_,.fail,_,h,_=>by simp [T.path] at h
 | true::_,_,.leaf _,_,h,_=>by simp [T.path] at h
 | false::_,_,.leaf _,_,h,_=>by simp [T.path] at h
 | true::_,_,.fail,_,h,_=>by simp [T.path] at h
 | false::_,_,.fail,_,h,_=>by simp [T.path] at h
structure Kn where
 b:Bool
 c:Bool
 h:b=c
theorem spath_of {α:Type} {t:T α} {v:α} (ds cs:List Bool) (h:t.path ds=some (cs,v)) (hc:cs=ds):t.sem=some v:=A9 h hc
def kn {b c:Bool} (h:b=c):Kn:=⟨b,c,h⟩
def kT:Kn:=⟨true,true,rfl⟩
def kF:Kn:=⟨false,false,rfl⟩
def kN (k:Kn):Kn:=⟨AL k.b,AL k.c,congrArg AL k.h⟩
def kA (k l:Kn):Kn:=⟨Av k.b l.b,Av k.c l.c,by rw [k.h,l.h]⟩
def kO (k l:Kn):Kn:=⟨bor k.b l.b,bor k.c l.c,by rw [k.h,l.h]⟩
def kB (k l:Kn):Kn:=⟨JD k.b l.b,JD k.c l.c,by rw [k.h,l.h]⟩
def kI (x:Int):Kn:=⟨ieq x x,true,by simp [ieq]⟩
def kJ (n:Nat):Kn:=⟨Fz n n,true,Nat.beq_refl n⟩
theorem Ag {α:Type} {ks:List Kn} {t:T α} {a:α} (h:T.path (ks.map Kn.c) t=some (ks.map Kn.b,a)):t.sem=some a :=
 A9 h (by
  clear h
  induction ks with
  | nil=>rfl
  | cons k ks ih=>rw [List.map_cons,List.map_cons,k.h,ih])
theorem AaP {f:St->T (Ex×St)} {l:Lp} {m:Nat} {st st1:St} (h:(f st).sem=some (.nm,st1)):(Ax f l (m+1) st).sem=(Ax f l m (FK l.ks l.n st1)).sem:=by
 show ((f st).bind _).sem=_;rw [CJ,h]
theorem AaN {f:St->T (Ex×St)} {l:Lp} {m:Nat} {st st1:St} {e:Ex} (he:e ≠ .nm) (h:(f st).sem=some (e,st1)):(Ax f l (m+1) st).sem=some (e,FK l.ke l.ne st1):=by
 show ((f st).bind _).sem=_;rw [CJ,h];cases e with
 | nm=>exact absurd rfl he
 | ex i=>rfl
 | rt=>rfl
theorem AaO {f:St->T (Ex×St)} {l:Lp} {m:Nat} {st st2:St} {ds cs:List Bool} (h:((f st).bind λr=>T.leaf (r.1,FK l.ks l.n r.2)).path ds=some (cs,(.nm,st2))) (hc:cs=ds) :
  (Ax f l (m+1) st).sem=(Ax f l m st2).sem:=by
 obtain ⟨⟨e,st1⟩,h1,h2⟩:=Ad (A9 h hc);have:=Aa h2;simp only [Prod.mk.injEq] at this;obtain ⟨rfl,rfl⟩:=this;exact AaP h1
theorem VG {f:St->T (Ex×St)} {l:Lp} {m:Nat} {st st2:St} {e:Ex} {ds cs:List Bool} (h:((f st).bind λr=>T.leaf (r.1,FK l.ke l.ne r.2)).path ds=some (cs,(e,st2))) (hc:cs=ds) (he:e ≠ .nm) :
  (Ax f l (m+1) st).sem=some (e,st2):=by
 obtain ⟨⟨e',st1⟩,h1,h2⟩:=Ad (A9 h hc);have:=Aa h2;simp only [Prod.mk.injEq] at this;obtain ⟨rfl,rfl⟩:=this;exact AaN he h1
theorem Pl {τ:List Ty} {call:FuncId->List V->St->T (V×Res)} {G:Nat->V} {fn:Func} {vs:List V} {L L':Nat->(St->T (Ex×St))->St->T (Ex×St)}
  (h:∀ id f f' st,(∀ st,(f st).sem=(f' st).sem)->(L id f st).sem=(L' id f' st).sem):(AK (Ar τ ⟨call,L,G⟩ fn vs [])).sem=(AK (Ar τ ⟨call,L',G⟩ fn vs [])).sem:=by
 refine Fa ?_ λ_=>rfl;unfold Ar;cases fn.body with
 | none=>rfl
 | some c=>exact Fa (Wj (Γ:=⟨call,L,G⟩) h c 0 _) λ_=>rfl
def gI:V->Option Int
 | .val (.int .i64 n)=>some n
 | _=>none
def gB:V->Option Bool
 | .val (.bool b)=>some b
 | _=>none
def gS:V->Option (List UInt8)
 | .str l=>some l
 | _=>none
theorem Hu {v:V} {n:Int} (h:gI v=some n):v=iV n:=by
 unfold gI at h;split at h
 ·simp at h; subst h; rfl
 ·cases h
theorem Up {v:V} {b:Bool} (h:gB v=some b):v=bV b:=by
 unfold gB at h;split at h
 ·simp at h; subst h; rfl
 ·cases h
theorem AgW {v:V} {l:List UInt8} (h:gS v=some l):v = .str l:=by
 unfold gS at h;split at h
 ·simp at h; subst h; rfl
 ·cases h
theorem GH {α:Type} {f g:Nat->α} {n:Nat} (h:(List.range n).map f=(List.range n).map g) (k:Nat) (hk:k<n):f k=g k:=by
 have:=congrArg (·[k]?) h
 simpa [hk] using this
section
variable {H:Type} {enc:TypeId×Value->H} {P:Program} {W:World} {sp:Nat->Bool} {held:Bool} {r:Reach} {b0:Nat} {t e:TypeId} {v:Value} {d:DataW H} {ps:List MemPlace}
theorem Xp {α:Type} [Inhabited α] {f:α->List Value} {g:α->V} {s:Nat} (ht:P.underlying t=some (.slice e)) (hs:P.cellsOf e=s) (hs0:0<s) (hone:∀ a,∀ u ∈ f a,u.oneCell'=true)
  (hg:∀ (S:Nat->Prop) (w:World) a,∃ ci,VR S w (g a) noK ci∧ci.cells.toList=f a)
  (hel:∀ fuel cs x,DataW.trod enc P W 0 sp held fuel e cs=some x->∃ a:α,cs=f a) (hval:Value.okWide P W r b0 t v) (hd:DataW.Trod enc P W 0 sp held t v d ps) :
  ∃ (n:Nat) (xs:Nat->α),VR (WB W) W (.sl s n λi=>g (xs i)) noK v∧(n=0 ∨ ∃ els rest,d = .slice els rest∧els.length=n):=by
 obtain ⟨a,len,cap,rfl⟩:=WideShapes.okWide_slice ht hval;obtain ⟨fuel,hf⟩:=hd;rcases DataW.trod_slice ht hf with ⟨hcs,_⟩ | ⟨a',len',cap',elems,rest,n,_,hcs,hx,_,hl,_,hlen,hE,_,_⟩
 ·simp [Value.cells] at hcs
  obtain ⟨rfl,rfl,rfl⟩:=hcs;exact ⟨0,λ_=>default,⟨none,0,rfl,Nat.le_refl _,.inl rfl⟩,.inl rfl⟩
 ·simp [Value.cells] at hcs
  obtain ⟨rfl,rfl,rfl⟩:=hcs;simp only [Prod.mk.injEq] at hx;have hex:∀ i,i<len->∃ x:α,W.cells? 0 (a'.add (i * s)) s=some (f x):=by
   intro i hi;have:=hE i hi;have hi':i<elems.length:=by omega
   rw [List.getElem?_eq_getElem hi',Option.bind_eq_some_iff,hs] at this;obtain ⟨cs,h1,h2⟩:=this;obtain ⟨x,rfl⟩:=hel _ _ _ h2;exact ⟨x,h1⟩
  refine ⟨len,λi=>if h:i<len then (hex i h).choose else default,⟨some a',cap,rfl,hl,?_⟩,.inr ⟨_,_,hx.1,by simp [hlen]⟩⟩
  by_cases hz:len=0
  ·exact .inl hz
  right;obtain ⟨b,off,spot⟩:=a';have hspot:spot=none:=by
   have:=(World.cells?_some (hex 0 (by omega)).choose_spec);have h2:=this.2.2 0 (by omega);have hl:0<(f (hex 0 (by omega)).choose).length:=by omega
   rw [List.getElem?_eq_getElem hl] at h2;simpa [Addr.add] using World.cell?_spot h2
  subst hspot;refine ⟨b,off,rfl,λi hi=>?_⟩;have hc:=World.cells?_some (hex i hi).choose_spec;obtain ⟨ci,q1,q2⟩:=hg (WB W) W (hex i hi).choose;refine ⟨ci,by simp only [hi,dif_pos]; exact q1,?_,?_,?_⟩
  ·rw [<- Array.length_toList,q2]; exact hc.2.1
  ·rw [q2]; exact hone _
  ·rw [q2]
   intro j u hj;have hjs:j<s:=by
    have:=(List.getElem?_eq_some_iff.1 hj).1;have h3:=hc.2.1;omega
   have:=hc.2.2 j hjs;rw [hj] at this;have e1:((⟨b,off,none⟩:Addr).add (i * s)).add j=⟨b,off+i * s+j,none⟩:=by
    rw [Dl,Dl]
   rw [e1] at this;exact ⟨Ahh this,this⟩
end
end Go.Sy
namespace Go.Sy
variable {dl:List Deferred}
def Gh (l N:Nat):Code->Code
 | .seq a b=>.seq (Gh l N a) (Gh l N b)
 | .cond c a b=>.cond c (Gh l N a) (Gh l N b)
 | .block i c=>match Nat.beq i N with
  | true=>.goto 0
  | false=>.block i (Gh l N c)
 | .label _=>.skip
 | .goto k=>match Nat.beq k l with
  | true=>.exit N
  | false=>.goto k
 | .exit i=>match Nat.beq i N with
  | true=>.goto 0
  | false=>.exit i
 | .loop _=>.goto 0
 | c=>c
def YN (l N:Nat) (c:Code):Code:=.block N (.seq (Gh l N c) .ret)
def Gz (l N:Nat):Code->Code
 | .seq a b=>match a with
  | .label k=>match Nat.beq k l with
   | true=>.loop (YN l N b)
   | false=>.goto 0
  | a=>.seq a (Gz l N b)
 | _=>.goto 0
def G3 (l:Nat):Code->Option Code
 | .seq a b=>match a with
  | .label k=>match Nat.beq k l with
   | true=>some b
   | false=>none
  | _=>G3 l b
 | _=>none
section
variable {P:Program} {τ:List Ty} (hτ:TabOK P τ) {Γ:Cx}
def Jc (l N:Nat):Ex->Exit
 | .ex i=>match Nat.beq i N with
  | true=>.goto l
  | false=>.exit i
 | e=>Fo e
theorem OO {l N j:Nat} (h:Nat.beq j N=true):Jc l N (.ex j) = .goto l:=by simp only [Jc,h]
theorem Mo {l N j:Nat} (h:Nat.beq j N=false):Jc l N (.ex j) = .exit j:=by simp only [Jc,h]
include hτ in
theorem AgK (hm:P.follows .mixedOrders=true) (hΓ:Bb P Γ.base) (hΛ:Cb Γ) {l N:Nat}:∀ (c:Code) (id:Nat) (st:St) (r:Ex×St) (κ:Ai) (S:Nat->Prop) (a:Act) (w:World) (Q:Exit->Act->World->Prop),
  Rel dl Γ.base κ S st a w->(A8 τ Γ (Gh l N c) id st).sem=some r->(∀ κ' S' a' w',Rel dl Γ.base κ' S' r.2 a' w'->Ext κ S st.h w κ' S' r.2.h w'->Q (Jc l N r.1) a' w')->c.wp P Q a w:=by
 intro c
 induction c with
 | skip =>intro id st r κ S a w Q hr h hw;have:=Aa h;subst this;exact wp_skip (hw κ S a w hr (Ext.refl _ _ _ _))
 | region i ops draw =>
  intro id st r κ S a w Q hr h hw;have hn:r.1 = .nm:=by
   simp only [Gh,A8] at h;split at h
   ·obtain ⟨st',h1,h2⟩:=Ad h
    have:=Aa h2;subst this;rfl
   ·split at h
    ·split at h
     ·split at h
      ·obtain ⟨st1,h1,h3⟩:=Ad h
       obtain ⟨st',h4,h2⟩:=Ad h3;have:=Aa h2;subst this;rfl
      ·split at h
       ·exact Jl h
       ·obtain ⟨_,_,_,h⟩:=Fh h
        exact FO h
     ·obtain ⟨_,_,_,h⟩:=Fh h
      exact FO h
    ·cases h
  refine wpIn_wide.1 (E1 (P:=P) (ro:=none) hτ hm hΓ hΛ (.region i ops draw) id st r κ S a w Q hr h (.inl rfl) λκ' S' a' w' q1 q2=>?_);have:=hw κ' S' a' w' q1 q2;rw [hn] at this ⊢;exact this
 | seq x y ihx ihy =>
  intro id st r κ S a w Q hr h hw;obtain ⟨⟨e,st1⟩,h1,h2⟩:=Ad h;refine wp_seq (ihx id st (e,st1) κ S a w _ hr h1 ?_);intro κ' S' a' w' hr' he';cases e with
  | nm=>exact ihy id st1 r κ' S' a' w' Q hr' h2 λκ'' S'' a'' w'' q1 q2=>hw κ'' S'' a'' w'' q1 (he'.trans q2)
  | ex j =>
   have:=Aa h2;subst this;have:=hw κ' S' a' w' hr' he';revert this;show Q (Jc l N (.ex j)) a' w'->Exit.then _ Q (Jc l N (.ex j)) a' w';cases hb:Nat.beq j N with
   | true=>rw [OO hb]; exact λh=>h
   | false=>rw [Mo hb]; exact λh=>h
  | rt =>have:=Aa h2;subst this;exact hw κ' S' a' w' hr' he'
 | cond x t e iht ihe =>
  intro id st r κ S a w Q hr h hw;simp only [Gh,A8] at h;split at h
  ·rename_i b hb
   have hx:=AT hr.env hr.tmps x;rw [hb] at hx;have hx:=Bl hx;cases b with
   | false=>exact wp_cond_false hx (ihe id st r κ S a w Q hr h hw)
   | true=>exact wp_cond_true hx (iht id st r κ S a w Q hr h hw)
  ·cases h
 | block i c ih =>
  intro id st r κ S a w Q hr h hw;simp only [Gh] at h;split at h
  ·cases h
  ·rename_i hiN
   have hiN:i ≠ N:=Nat.ne_of_beq_eq_false hiN;obtain ⟨⟨e,st1⟩,h1,h2⟩:=Ad h;refine wp_block (ih i st (e,st1) κ S a w _ hr h1 ?_);intro κ' S' a' w' hr' he';cases e with
   | nm =>have:=Aa h2;subst this;exact hw κ' S' a' w' hr' he'
   | ex j =>
    simp only at h2;split at h2
    ·rename_i hj
     have hj:j=i:=Nat.eq_of_beq_eq_true hj;have:=Aa h2;subst this;have hjN:Nat.beq j N=false:=by
      cases hb:Nat.beq j N
      ·rfl
      ·exact absurd (hj ▸ Nat.eq_of_beq_eq_true hb) hiN
     show Exit.inBlock i Q (Jc l N (.ex j)) a' w';rw [Mo hjN];show (if j=i then Q .normal a' w' else Q (.exit j) a' w')
     rw [if_pos hj];exact hw κ' S' a' w' hr' he'
    ·rename_i hj
     have hj:j ≠ i:=Nat.ne_of_beq_eq_false hj;have:=Aa h2;subst this;have:=hw κ' S' a' w' hr' he';revert this;show Q (Jc l N (.ex j)) a' w'->Exit.inBlock i Q (Jc l N (.ex j)) a' w';cases hb:Nat.beq j N with
     | true=>rw [OO hb]; exact λh=>h
     | false =>
      rw [Mo hb];intro h;show (if j=i then Q .normal a' w' else Q (.exit j) a' w')
      rw [if_neg hj];exact h
   | rt =>have:=Aa h2;subst this;exact hw κ' S' a' w' hr' he'
 | exit i =>
  intro id st r κ S a w Q hr h hw;simp only [Gh] at h;split at h
  ·cases h
  ·rename_i hi
   have:=Aa h;subst this;have:=hw κ S a w hr (Ext.refl _ _ _ _);refine wp_exit ?_;rw [Mo hi] at this;exact this
 | label k =>intro id st r κ S a w Q hr h hw;have:=Aa h;subst this;exact wp_label (hw κ S a w hr (Ext.refl _ _ _ _))
 | goto k =>
  intro id st r κ S a w Q hr h hw;simp only [Gh] at h;split at h
  ·rename_i hk
   have hk:k=l:=Nat.eq_of_beq_eq_true hk;have:=Aa h;subst this;have:=hw κ S a w hr (Ext.refl _ _ _ _);refine wp_goto ?_;rw [OO (Nat.beq_refl N)] at this;rw [hk];exact this
  ·cases h
 | ret =>intro id st r κ S a w Q hr h hw;have:=Aa h;subst this;exact wp_ret (hw κ S a w hr (Ext.refl _ _ _ _))
 | _ =>intro id st r κ S a w Q hr h hw;cases h
include hτ in
theorem YM (hm:P.follows .mixedOrders=true) (hΓ:Bb P Γ.base) (hΛ:Cb Γ) {l N:Nat} {d:Code} {id:Nat} {st st1:St} {e:Ex} {κ:Ai} {S:Nat->Prop} {a:Act} {w:World} {J:Act->World->Prop} {Q:Exit->Act->World->Prop}
  (hr:Rel dl Γ.base κ S st a w) (h:(A8 τ Γ (YN l N d) id st).sem=some (e,st1)) (hQ:∀ a w,Q .ret a w->Q .normal a w)
  (hw:∀ κ' S' a' w',Rel dl Γ.base κ' S' st1 a' w'->Ext κ S st.h w κ' S' st1.h w'->match e with | .nm=>J a' w' | e=>Q (Fo e) a' w'):d.wp P (Exit.jump l J Q) a w:=by
 obtain ⟨⟨e1,st2⟩,h1,h2⟩:=Ad h;obtain ⟨⟨e0,st0⟩,h3,h4⟩:=Ad h1;refine AgK (P:=P) hτ hm hΓ hΛ d N st (e0,st0) κ S a w _ hr h3 λκ' S' a' w' q1 q2=>?_;cases e0 with
 | nm =>have:=Aa h4;simp only [Prod.mk.injEq] at this;obtain ⟨rfl,rfl⟩:=this;have:=Aa h2;simp only [Prod.mk.injEq] at this;obtain ⟨rfl,rfl⟩:=this;exact hQ _ _ (hw κ' S' a' w' q1 q2)
 | rt =>have:=Aa h4;simp only [Prod.mk.injEq] at this;obtain ⟨rfl,rfl⟩:=this;have:=Aa h2;simp only [Prod.mk.injEq] at this;obtain ⟨rfl,rfl⟩:=this;exact hw κ' S' a' w' q1 q2
 | ex j =>
  have:=Aa h4;simp only [Prod.mk.injEq] at this;obtain ⟨rfl,rfl⟩:=this;simp only at h2;split at h2
  ·rename_i hj
   have:=Aa h2;simp only [Prod.mk.injEq] at this;obtain ⟨rfl,rfl⟩:=this;have:=hw κ' S' a' w' q1 q2;show Exit.jump l J Q (Jc l N (.ex j)) a' w';rw [OO hj];exact ⟨rfl,this⟩
  ·rename_i hj
   have:=Aa h2;simp only [Prod.mk.injEq] at this;obtain ⟨rfl,rfl⟩:=this;have:=hw κ' S' a' w' q1 q2;show Exit.jump l J Q (Jc l N (.ex j)) a' w';rw [Mo hj];exact this
include hτ in
theorem AdD (hm:P.follows .mixedOrders=true) (hΓ:Bb P Γ.base) (hΛ:Cb Γ) {l N:Nat} {c d:Code} (hl:findLabel c l=some (.seq .skip d)) {id:Nat} {Q:Exit->Act->World->Prop} (hQ:∀ a w,Q .ret a w->Q .normal a w) (b:Frame) (k:List Item) (cs:List Frame) :
  ∀ (st:St) (r:Ex×St),ZQ τ Γ (YN l N d) id st r->∀ κ S a w,Rel dl Γ.base κ S st a w->Rm dl Γ κ S st.h w r Q ->
   ∃ e a' w',Q e a' w'∧Arrives P (lone (b.at a (.code d :: .inScope c::k)) cs w) b k cs e a' w':=by
 have hg:gotoIn l (.inScope c::k)=some (.code (.seq .skip d) :: .inScope c::k):=by simp [gotoIn,hl]
 intro st r hrun
 induction hrun with
 | stop h1 hne hle =>
  rename_i st st1 st2 e;intro κ S a w hr hw;obtain ⟨e',a₁,w₁,hq,harr⟩:=YM (P:=P) hτ hm hΓ hΛ (J:=λ_ _=>False) hr h1 hQ (λκ' S' a' w' hr' he'=>by
   obtain ⟨κ2,S2,hr2,he2⟩:=hle dl κ' S' a' w' hr';have:=hw κ2 S2 a' w' hr2 (he'.trans he2);cases e with
   | nm=>exact absurd rfl hne
   | ex j=>exact this
   | rt=>exact this) b (.inScope c::k) cs
  cases e' with
  | normal=>exact ⟨.normal,a₁,w₁,hq,Steps.trans harr (.one step_inScope)⟩
  | exit id=>exact ⟨.exit id,a₁,w₁,hq,λk' hk=>harr k' (by simp [exitTo,hk])⟩
  | goto l'=>exact hq.2.elim
  | ret=>exact ⟨_,a₁,w₁,hq,harr⟩
  | panic ch=>exact ⟨_,a₁,w₁,hq,harr⟩
  | outgrown=>exact ⟨_,a₁,w₁,hq,harr⟩
 | next h1 hle _ ihr =>
  rename_i st st1 st2 r _;intro κ S a w hr hw;obtain ⟨e',a₁,w₁,hq,harr⟩:=YM (P:=P) hτ hm hΓ hΛ (Q:=λ_ _ _=>False) (J:=λa' w'=>∃ κ' S',Rel dl Γ.base κ' S' st2 a' w'∧Ext κ S st.h w κ' S' st2.h w') hr h1 (λ_ _ h=>h) (λκ' S' a' w' hr' he'=>by
   obtain ⟨κ2,S2,hr2,he2⟩:=hle dl κ' S' a' w' hr';exact ⟨κ2,S2,hr2,he'.trans he2⟩) b (.inScope c::k) cs
  cases e' with
  | goto l' =>obtain ⟨rfl,κ2,S2,hr2,he2⟩:=hq;obtain ⟨e₂,a₂,w₂,hq₂,harr₂⟩:=ihr κ2 S2 a₁ w₁ hr2 (hw.ext he2);exact ⟨e₂,a₂,w₂,hq₂,.of_steps (Steps.trans (harr _ hg) (.head step_seq (.one step_skip))) harr₂⟩
  | normal=>exact hq.elim
  | exit id=>exact hq.elim
  | ret=>exact hq.elim
  | panic ch=>exact hq.elim
  | outgrown=>exact hq.elim
 | weak hle _ ihr =>intro κ S a w hr hw;obtain ⟨κ2,S2,hr2,he2⟩:=hle dl κ S a w hr;exact ihr κ2 S2 a w hr2 (hw.ext he2)
include hτ in
theorem X9 (hm:P.follows .mixedOrders=true) (hΓ:Bb P Γ.base) (hΛ:Cb Γ) {l N:Nat} {c0 d:Code} (hl:findLabel c0 l=some (.seq .skip d)) {Q:Exit->Act->World->Prop} (hQ:∀ a w,Q .ret a w->Q .normal a w) (b:Frame) (k:List Item) (cs:List Frame) :
  ∀ (c:Code) (id:Nat) (st:St) (r:Ex×St) (κ:Ai) (S:Nat->Prop) (a:Act) (w:World),G3 l c=some d->Rel dl Γ.base κ S st a w->(A8 τ Γ (Gz l N c) id st).sem=some r->Rm dl Γ κ S st.h w r Q ->
   ∃ e a' w',Q e a' w'∧Arrives P (lone (b.at a (.code c :: .inScope c0::k)) cs w) b k cs e a' w':=by
 intro c
 induction c with
 | seq x y _ ih =>
  intro id st r κ S a w hd hr h hw;have plain:G3 l y=some d->(A8 τ Γ (.seq x (Gz l N y)) id st).sem=some r->∃ e a' w',Q e a' w'∧Arrives P (lone (b.at a (.code (.seq x y) :: .inScope c0::k)) cs w) b k cs e a' w':=by
   intro hd h;obtain ⟨⟨e,st1⟩,h1,h2⟩:=Ad h;obtain ⟨e',a₁,w₁,hq,harr⟩:=wpIn_wide.1 (E1 (P:=P) (ro:=none) hτ hm hΓ hΛ x id st (e,st1) κ S a w (λe' a' w'=>e'=Fo e∧∃ κ' S',Rel dl Γ.base κ' S' st1 a' w'∧Ext κ S st.h w κ' S' st1.h w') hr h1 (.inl rfl) (λκ' S' a' w' q1 q2=>⟨rfl,κ',S',q1,q2⟩)) b (.code y :: .inScope c0::k) cs;obtain ⟨rfl,κ2,S2,hr2,he2⟩:=hq;cases e with
   | nm =>obtain ⟨e₂,a₂,w₂,hq₂,harr₂⟩:=ih id st1 r κ2 S2 a₁ w₁ hd hr2 h2 (hw.ext he2);exact ⟨e₂,a₂,w₂,hq₂,.of_steps (.head step_seq harr) harr₂⟩
   | ex j =>have:=Aa h2;subst this;exact ⟨.exit j,a₁,w₁,hw κ2 S2 a₁ w₁ hr2 he2,λk' hk=>.head step_seq (harr k' (by simp [exitTo,hk]))⟩
   | rt =>have:=Aa h2;subst this;exact ⟨.ret,a₁,w₁,hw κ2 S2 a₁ w₁ hr2 he2,.of_steps (.one step_seq) harr⟩
  cases x with
  | label j =>
   simp only [G3] at hd;simp only [Gz] at h;split at hd
   ·rename_i hj
    rw [hj] at h;simp only [Option.some.injEq] at hd;subst hd;have hrun:LRunF Γ.base (λst=>A8 τ Γ (YN l N y) id st) st r:=hΛ _ _ _ _ h;cases hrun with
    | run hrun =>obtain ⟨e₂,a₂,w₂,hq₂,harr₂⟩:=AdD (P:=P) hτ hm hΓ hΛ hl hQ b k cs st r hrun κ S a w hr hw;exact ⟨e₂,a₂,w₂,hq₂,.of_steps (.head step_seq (.one step_label)) harr₂⟩
    | Dv hle hp hrun ha =>
     obtain ⟨κ1,S1,hr1,he1⟩:=hle dl κ S a w hr;obtain ⟨κ0,hr0,hback⟩:=V7 hr1 hp;obtain ⟨e₂,a₂,w₂,hq₂,harr₂⟩:=AdD (P:=P) hτ hm hΓ hΛ hl hQ b k cs _ _ hrun κ0 S1 a w hr0 λκ' S' a' w' hr' he'=>by
      obtain ⟨b1,b2⟩:=hback κ' S' a' w' _ hr' he' ha;exact hw κ1 S1 a' w' b1 (he1.trans b2)
     exact ⟨e₂,a₂,w₂,hq₂,.of_steps (.head step_seq (.one step_label)) harr₂⟩
   ·cases hd
  | _=>exact plain hd h
 | _ =>intro id st r κ S a w hd;cases hd
include hτ in
theorem Acu (hm:P.follows .mixedOrders=true) (hΓ:Bb P Γ.base) (hΛ:Cb Γ) {l N:Nat} {c d:Code} (hl:findLabel c l=some (.seq .skip d)) (hd:G3 l c=some d) {id:Nat} {st:St} {r:Ex×St} {κ:Ai} {S:Nat->Prop} {a:Act} {w:World} {Q:Exit->Act->World->Prop}
  (hQ:∀ a w,Q .ret a w->Q .normal a w) (hr:Rel dl Γ.base κ S st a w) (h:(A8 τ Γ (Gz l N c) id st).sem=some r) (hw:Rm dl Γ κ S st.h w r Q):(Code.scope c).wp P Q a w:=by
 intro b k cs;obtain ⟨e₂,a₂,w₂,hq₂,harr₂⟩:=X9 (P:=P) hτ hm hΓ hΛ hl hQ b k cs c id st r κ S a w hd hr h hw;exact ⟨e₂,a₂,w₂,hq₂,.of_steps (.one step_scope) harr₂⟩
def Lj (fn:Func) (c:Code):Func:={ fn with body:=some c }
include hτ in
theorem Aek (hm:P.follows .mixedOrders=true) (hΓ:Bb P Γ.base) (hΛ:Cb Γ) {l N:Nat} {f:FuncId} {fn:Func} {p c d:Code} (hf:P.funcs[f]? = some fn) (hb:fn.body=some (.seq p (.scope c))) (hl:findLabel c l=some (.seq .skip d)) (hd:G3 l c=some d)
  {κ:Ai} {S:Nat->Prop} {h:List Blk} {w:World} {vs:List V} {cs:List Value} {v:V} {h':List Blk}
  (hg:Good κ S h w) (hE:CC Γ.base S w) (hv:VRs S w vs κ cs) (he:(Ar τ Γ (Lj fn (.seq p (Gz l N c))) vs h).sem=some (v,h')) :
  Calls P f cs.toArray w λe w'=>∃ c κ' S',e = .returned c∧Good κ' S' h' w'∧VR S' w' v κ' c∧Ext κ S h w κ' S' h' w':=by
 unfold Ar at he;obtain ⟨⟨e,st⟩,h1,h2⟩:=Ad he;refine calls_of_wp hf hb ?_;have hlen:=hv.length;have hr:Rel [] Γ.base κ S ⟨vs++F8 (Nat.sub fn.ntmps vs.length),h⟩ { tmps:=cs.toArray++Array.replicate (fn.ntmps-cs.toArray.size) undef,defers:=[] } w:=by
  refine ⟨hg,hE,?_,rfl⟩;have:=hv.append (G5 (S:=S) (w:=w) (κ:=κ) (Nat.sub fn.ntmps vs.length));have e2:Nat.sub fn.ntmps vs.length=fn.ntmps-cs.length:=by rw [hlen]; rfl
  rw [e2] at this ⊢;simpa using this
 have fin:∀ κ' S' a' w',Rel [] Γ.base κ' S' st a' w'->Ext κ S h w κ' S' st.h w'->DU τ fn st=some v->st.h=h'->a'.defers=[]∧∃ u,(results fn a'.tmps).run P w' = .ok u w'∧∃ c κ' S',(Ending.returned u) = .returned c∧Good κ' S' h' w'∧VR S' w' v κ' c∧Ext κ S h w κ' S' h' w':=by
  intro κ' S' a' w' hr' he' q1 q2;subst q2;obtain ⟨u,q3,q4⟩:=HM (P:=P) hτ hr' q1;exact ⟨hr'.defers,u,q3,u,κ',S',rfl,hr'.good,q4,he'⟩
 obtain ⟨⟨e1,st1⟩,h3,h4⟩:=Ad h1;refine wp_seq (wpIn_wide.1 (E1 (P:=P) (ro:=none) hτ hm hΓ hΛ p 0 _ (e1,st1) κ S _ w _ hr h3 (.inl rfl) ?_));intro κ1 S1 a1 w1 hr1 he1;have last:(e,st)=(e,st)->∀ κ' S' a' w',Rel [] Γ.base κ' S' st a' w'->Ext κ S h w κ' S' st.h w'->(bodyPost P fn λe w'=>∃ c κ' S',e = .returned c∧Good κ' S' h' w'∧VR S' w' v κ' c∧Ext κ S h w κ' S' h' w') (Fo e) a' w':=by
  intro _ κ' S' a' w' hr' he';cases e with
  | ex j=>cases h2
  | nm =>
   simp only at h2;split at h2
   ·rename_i u hu
    have:=Aa h2;simp only [Prod.mk.injEq] at this;obtain ⟨rfl,rfl⟩:=this;exact fin κ' S' a' w' hr' he' hu rfl
   ·cases h2
  | rt =>
   simp only at h2;split at h2
   ·rename_i u hu
    have:=Aa h2;simp only [Prod.mk.injEq] at this;obtain ⟨rfl,rfl⟩:=this;exact fin κ' S' a' w' hr' he' hu rfl
   ·cases h2
 cases e1 with
 | ex j =>have:=Aa h4;simp only [Prod.mk.injEq] at this;obtain ⟨rfl,rfl⟩:=this;exact last rfl κ1 S1 a1 w1 hr1 he1
 | rt =>have:=Aa h4;simp only [Prod.mk.injEq] at this;obtain ⟨rfl,rfl⟩:=this;exact last rfl κ1 S1 a1 w1 hr1 he1
 | nm=>exact Acu (P:=P) hτ hm hΓ hΛ hl hd (λ_ _ h=>h) hr1 h4 λκ' S' a' w' hr' he'=>last rfl κ' S' a' w' hr' (he1.trans he')
end
theorem R2 {P:Program} {τ:List Ty} (hτ:TabOK P τ) (hm:P.follows .mixedOrders=true) {Γ:Cx} (hΓ:Bb P Γ.base) (hΛ:Cb Γ) {l N:Nat} {f:FuncId} {fn:Func} {p c d:Code} (hf:P.funcs[f]? = some fn)
  (hb:fn.body=some (.seq p (.scope c))) (hl:findLabel c l=some (.seq .skip d)) (hd:G3 l c=some d) (hn:fn.name ≠ "runtime.NumGoroutine"):As P Γ.glob f λvs=>AK (Ar τ Γ (Lj fn (.seq p (Gz l N c))) vs []):=by
 refine ⟨⟨fn,hf,hn,by rw [hb]; rfl⟩,λvs cs S w v h' hS hE hv he=>?_⟩;obtain ⟨⟨v1,h1⟩,q1,q2⟩:=Ad he;have q2:=Df q2;refine ⟨FD q2,(Aek (P:=P) hτ hm hΓ hΛ hf hb hl hd (Good.empty hS) hE hv q1).mono ?_⟩
 rintro e w' ⟨u,κ',S',rfl,g1,g2,g3⟩
 obtain ⟨κ2,p1,p2,p3⟩:=OA g1 g2 q2;refine ⟨u,κ2,S',rfl,p1,p2,Ext.ofNil g3.os g3.tape g3.output g3.size g3.keep (λi b hb=>?_) g3.sub g3.sup (FD q2)⟩;obtain ⟨j,hj⟩:=p3 i b hb;exact g3.own j b hj
def VV (l N:Nat) (fn:Func):Func :=
 match fn.body with
 | some (.seq p (.scope c))=>Lj fn (.seq p (Gz l N c))
 | _=>fn
theorem Vm {P:Program} {τ:List Ty} (hτ:TabOK P τ) (hm:P.follows .mixedOrders=true) {f:FuncId} {fn:Func} (hf:P.funcs[f]? = some fn) (l N:Nat) {p c d:Code}
  (hb:fn.body=some (.seq p (.scope c))) (hd:G3 l c=some d) (hl:findLabel c l=some (.seq .skip d)) (hn:(fn.name == "runtime.NumGoroutine")=false) {G:Nat->V} {F:List V->A2}
  (h:∀ vs v h',(F vs).sem=some (v,h')->∃ vs' Γ h'',B0 vs vs'∧Γ.glob=G∧Bb P Γ.base∧Cb Γ∧(AK (Ar τ Γ (VV l N fn) vs' [])).sem=some (v,h'')∧Au h'' h'):As P G f F:=by
 have hn:fn.name ≠ "runtime.NumGoroutine":=by simpa using hn
 have hF:VV l N fn=Lj fn (.seq p (Gz l N c)):=by
  unfold VV;simp only [hb]
 refine ⟨⟨fn,hf,hn,by rw [hb]; rfl⟩,λvs cs S w v h' hS hE hv he=>?_⟩;obtain ⟨vs',Γ,h'',h1,h2,h3,hΛ,h4,h5⟩:=h vs v h' he;subst h2;rw [hF] at h4;obtain ⟨hr,hc⟩:=(R2 hτ hm h3 hΛ hf hb hl hd hn).2 vs' cs S w v h'' hS hE (h1 S w cs hv) h4;refine ⟨h5.rows hr,hc.mono ?_⟩
 rintro e w' ⟨u,κ',S',rfl,g1,g2,g3⟩
 obtain ⟨p1,p2⟩:=h5.good g1;refine ⟨u,κ',S',rfl,p1,g2,Ext.ofNil g3.os g3.tape g3.output g3.size g3.keep (λi b hb=>?_) g3.sub g3.sup (h5.rows hr)⟩;rw [p2] at hb;exact g3.own i b hb
end Go.Sy
