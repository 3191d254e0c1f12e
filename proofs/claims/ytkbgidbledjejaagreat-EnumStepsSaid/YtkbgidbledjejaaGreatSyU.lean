/-
  From the evaluator to a law's row: functions said otherwise, arguments and tables read, a law's walk. Conditions: as before.
-/
import Derived.Test.YtkbgidbledjejaaGreatSyP
import Derived.ProofKit
import Derived.Carry
import Derived.SizedLaws
import Derived.FnData
import Derived.Lib.LaidTab
import Derived.ScopeJumps
import Derived.ChangeSame
namespace Go.Sy
def B2 (vs vs':List V):Prop:=∀ S w cs,VRs S w vs noK cs->VRs S w vs' noK cs
theorem B2.refl (vs:List V):B2 vs vs:=λ_ _ _ h=>h
inductive SayB:Blk->Blk->Prop where
 | same (b:Blk):SayB b b
 | row {e s n:Nat} {g g':Nat->V}:(∀ j,j<n->g' j=g j)->SayB (.row e s n g) (.row e s n g')
 | jag {j:Jag} {get':Nat->V} {live':Nat->Bool} {len':Nat->Nat} {mem':Nat->Nat->V}:(∀ k,k<j.n->get' k=j.get k ∨ get' k = .und)->(∀ k,k<j.n->live' k=j.live k)->(∀ k,k<j.n->len' k=j.len k) ->
   (∀ k,k<j.n->∀ q,q<j.len k->mem' k q=j.mem k q)->SayB (.jag j) (.jag { j with get:=get',live:=live',len:=len',mem:=mem' })
theorem SayB.inB {b b':Blk} (h:SayB b b') (v:Option Value) (g:Nat):inBlk v g b'↔inBlk v g b:=by cases h <;> exact Iff.rfl
theorem SayB.isRow {b b':Blk} (h:SayB b b') (hb:Gu b):Gu b':=by
 cases h with
 | same=>exact hb
 | row _=>exact .inl ⟨_,_,_,_,rfl⟩
 | jag _ _ _ _=>exact .inr ⟨_,rfl⟩
theorem AfS {S:Nat->Prop} {w:World} {κ:Ai} {v:Option Value} {j:Jag} {get':Nat->V} {live':Nat->Bool} {len':Nat->Nat} {mem':Nat->Nat->V} (h1:∀ k,k<j.n->get' k=j.get k ∨ get' k = .und) (h2:∀ k,k<j.n->live' k=j.live k)
  (h3:∀ k,k<j.n->len' k=j.len k) (h4:∀ k,k<j.n->∀ q,q<j.len k->mem' k q=j.mem k q) (hB:A5 S w κ v (.jag j)):A5 S w κ v (.jag { j with get:=get',live:=live',len:=len',mem:=mem' }):=by
 obtain ⟨c,ms,xs,q1,z1,z2,z3,z4,z5,z6,z7,z8,z9⟩:=hB;refine ⟨c,ms,xs,q1,z1,z2,z3,z4,z5,z6,λk hk=>?_,λk m hm=>?_,z9⟩
 ·show ∃ ci,VR S w (get' k) noK ci∧_
  rcases h1 k hk with he | he
  ·rw [he]
   exact z7 k hk
  ·rw [he]
   obtain ⟨ci,_,hr⟩:=z7 k hk;exact ⟨ci,trivial,hr⟩
 ·rcases z8 k m hm with ⟨hk,this⟩ | h8
  rotate_left
  ·exact .inr h8
  refine .inl ⟨hk,?_⟩;unfold HN at this ⊢;show (match live' k with | true=>_ | false=>_)
  rw [h2 k hk];split
  ·rename_i hlv
   rw [hlv] at this;obtain ⟨y1,ys,y2,y3⟩:=this;refine ⟨y1,ys,by show w.ownsRow 0 j.e' j.s' m (len' k) ys; rw [h3 k hk]; exact y2,?_⟩;show CL S w j.s' (len' k) (mem' k) ys;rw [h3 k hk];exact λq hq=>by rw [h4 k hk q hq]; exact y3 q hq
  ·rename_i hlv
   rw [hlv] at this;exact this
theorem SayB.holds {b b':Blk} (h:SayB b b') {S:Nat->Prop} {w:World} {κ:Ai} {v:Option Value} (hB:A5 S w κ v b):A5 S w κ v b':=by
 cases h with
 | same=>exact hB
 | row h =>obtain ⟨q0,c,xs,q1,q2,q3⟩:=hB;exact ⟨q0,c,xs,q1,q2,λk hk=>by rw [h k hk]; exact q3 k hk⟩
 | jag h1 h2 h3 h4=>exact AfS h1 h2 h3 h4 hB
def As (h h':List Blk):Prop:=h.length=h'.length∧∀ (i:Nat) (b:Blk),h[i]? = some b->∃ b',h'[i]? = some b'∧SayB b b'
theorem As.refl (h:List Blk):As h h:=⟨rfl,λ_ b hi=>⟨b,hi,.same b⟩⟩
theorem As.consB {b b':Blk} {l l':List Blk} (h:SayB b b') (hl:As l l'):As (b::l) (b'::l'):=by
 refine ⟨by simp [hl.1],λi b1 hi=>?_⟩;cases i with
 | zero =>simp at hi;subst hi;exact ⟨b',rfl,h⟩
 | succ i=>simpa using hl.2 i b1 (by simpa using hi)
theorem As.cons {e s n:Nat} {g g':Nat->V} {l l':List Blk} (h:∀ j,j<n->g' j=g j) (hl:As l l'):As (Blk.row e s n g::l) (Blk.row e s n g'::l'):=.consB (.row h) hl
theorem As.one {e s n:Nat} {g g':Nat->V} (h:∀ j,j<n->g' j=g j):As [Blk.row e s n g] [Blk.row e s n g']:=.cons h (.refl [])
theorem As.rows {h h':List Blk} (hh:As h h') (hr:It h):It h':=by
 intro i b hb;have hl:i<h.length:=by rw [hh.1]; exact (List.getElem?_eq_some_iff.1 hb).1
 obtain ⟨b',h1,h2⟩:=hh.2 i _ (List.getElem?_eq_getElem hl);rw [h1] at hb;simp only [Option.some.injEq] at hb;subst hb;exact h2.isRow (hr i _ (List.getElem?_eq_getElem hl))
theorem As.good {h h':List Blk} (hh:As h h') {κ:Ai} {S:Nat->Prop} {w:World} (hg:Good κ S h w):Good κ S h' w∧∀ i k,A2 κ h' i k↔A2 κ h i k:=by
 have hown:∀ i k,A2 κ h' i k↔A2 κ h i k:=by
  intro i k;cases hi:h[i]? with
  | none =>
   have:h'[i]? = none:=by
    rw [List.getElem?_eq_none_iff] at hi ⊢;rw [<- hh.1]; exact hi
   exact ⟨λq=>absurd q (D3 this),λq=>absurd q (D3 hi)⟩
  | some b =>obtain ⟨b',h1,h2⟩:=hh.2 i b hi;rw [Aq hi,Aq h1];exact h2.inB _ _
 refine ⟨⟨?_,?_,?_,?_⟩,hown⟩
 ·intro i b hb
  have hl:i<h.length:=by rw [hh.1]; exact (List.getElem?_eq_some_iff.1 hb).1
  obtain ⟨b',h1,h2⟩:=hh.2 i _ (List.getElem?_eq_getElem hl);rw [h1] at hb;simp only [Option.some.injEq] at hb;subst hb;exact h2.holds (hg.blk i _ (List.getElem?_eq_getElem hl))
 ·intro i j g hij hi hj
  rw [hown] at hi hj;exact hg.sep i j g hij hi hj
 ·intro b hb
  exact ⟨(hg.out b hb).1,λi hi=>(hg.out b hb).2 i ((hown i b).1 hi)⟩
 ·intro i hi
  exact hg.dom i (by rw [hh.1]; exact hi)
theorem Ah {P:Program} {τ:List Ty} (hτ:TabOK P τ) (hm:P.follows .mixedOrders=true) {f:FuncId} {fn:Func} (hf:P.funcs[f]? = some fn)
  (hb:fn.body.isSome=true) (hn:(fn.name == "runtime.NumGoroutine")=false) {G:Nat->V} {F:List V->A3}
  (h:∀ vs v h',(F vs).sem=some (v,h')->∃ vs' Γ h'',B2 vs vs'∧Γ.glob=G∧AY P Γ.base∧BX Γ∧(AM (Au τ Γ fn vs' [])).sem=some (v,h'')∧As h'' h'):Ar P G f F:=by
 obtain ⟨c,hb⟩:=Option.isSome_iff_exists.1 hb;have hn:fn.name ≠ "runtime.NumGoroutine":=by simpa using hn
 refine ⟨⟨fn,hf,hn,by rw [hb]; rfl⟩,λvs cs S w v h' hS hE hv he=>?_⟩;obtain ⟨vs',Γ,h'',h1,h2,h3,hΛ,h4,h5⟩:=h vs v h' he;subst h2;obtain ⟨hr,hc⟩:=(Kz hτ hm h3 hΛ hf hb hn).2 vs' cs S w v h'' hS hE (h1 S w cs hv) h4;refine ⟨h5.rows hr,hc.mono ?_⟩
 rintro e w' ⟨u,κ',S',rfl,g1,g2,g3⟩
 obtain ⟨p1,p2⟩:=h5.good g1;refine ⟨u,κ',S',rfl,p1,g2,Ext.ofNil g3.os g3.tape g3.output g3.size g3.keep (λi b hb=>?_) g3.sub g3.sup (h5.rows hr)⟩;rw [p2] at hb;exact g3.own i b hb
theorem AN {P:Program} {τ:List Ty} (hτ:TabOK P τ) (hm:P.follows .mixedOrders=true) {f:FuncId} {fn:Func} (hf:P.funcs[f]? = some fn)
  (hb:fn.body.isSome=true) (hn:(fn.name == "runtime.NumGoroutine")=false) {Γ:Cx} (hΓ:AY P Γ.base∧BX Γ):Ar P Γ.glob f λvs=>AM (Au τ Γ fn vs []):=by
 obtain ⟨c,hb⟩:=Option.isSome_iff_exists.1 hb;exact Kz hτ hm hΓ.1 hΓ.2 hf hb (by simpa using hn)
def Ws (W:World):Nat->Prop:=λb=>b<W.heap.size
theorem SO {P:Program} {G:Nat->V} {f:FuncId} {F:List V->A3} (hp:Ar P G f F) {vs:List V} {cs:List Value} {W:World} {h':List Blk} (hE:MF G (Ws W) W)
  (hv:VRs (Ws W) W vs noK cs) (he:(F vs).sem=some (bV true,h')):Calls P f cs.toArray W λe w'=>e = .returned (.bool true)∧RowKit.Below W.heap.size W w':=by
 refine (hp.2 vs cs (Ws W) W _ h' (λ_ h=>h) hE hv he).2.mono ?_
 rintro e w' ⟨c,κ',S',rfl,_,g2,g3⟩
 have g2:c = .bool true:=g2;subst g2;exact ⟨rfl,g3.os,g3.tape,g3.output,g3.size,λk hk=>g3.keep k hk (λi=>E9 _ _ _)⟩
theorem Agl {w:World} {a:Addr} {v:Value} (h:w.cell? a=some v):a.block<w.heap.size:=by
 rcases Nat.lt_or_ge a.block w.heap.size with hl | hl
 ·exact hl
 ·simp [World.cell?,Array.getElem?_eq_none hl] at h
def BO (Di:List (Nat×Lp)) (id:Nat) (f:St->T (Ex×St)) (st:St):T (Ex×St) :=
 match Jy id Di with
 | some l=>Ay f l l.fuel st
 | none=>.fail
def BQ (G:Nat->V) (tbl:AD) (Di:List (Nat×Lp)):Cx:=⟨A9 tbl,BO Di,G⟩
theorem Bu {P:Program} {G:Nat->V} {tbl:AD} (h:Al P G tbl) (Di:List (Nat×Lp)):AY P (BQ G tbl Di).base∧BX (BQ G tbl Di) :=
 ⟨Ek rfl h,λid f st r hr=>by
  have hr:(BO Di id f st).sem=some r:=hr;unfold BO at hr;split at hr
  ·exact .run (GE hr)
  ·cases hr⟩
def T.path {α:Type}:List Bool->T α->Option (List Bool×α)
 | [],.leaf a=>some ([],a)
 | true::ds,.br b x _=>match T.path ds x with
  | some (cs,a)=>some (b::cs,a)
  | none=>none
 | false::ds,.br b _ y=>match T.path ds y with
  | some (cs,a)=>some (b::cs,a)
  | none=>none
 | _,_=>none
theorem A6 {α:Type}:∀ {ds cs:List Bool} {t:T α} {a:α},T.path ds t=some (cs,a)->cs=ds->t.sem=some a
 | [],cs,.leaf a,r,h,_=>by
  simp [T.path] at h;rw [h.2]; rfl
 | true::ds,cs,.br b x y,r,h,hc=>by
  simp only [T.path] at h;split at h
  ·rename_i cs' a' hp
   simp only [Option.some.injEq,Prod.mk.injEq] at h;obtain ⟨rfl,rfl⟩:=h;simp only [List.cons.injEq] at hc;obtain ⟨rfl,hc⟩:=hc;show sel true x.sem y.sem=_;exact A6 hp hc
  ·cases h
 | false::ds,cs,.br b x y,r,h,hc=>by
  simp only [T.path] at h;split at h
  ·rename_i cs' a' hp
   simp only [Option.some.injEq,Prod.mk.injEq] at h;obtain ⟨rfl,rfl⟩:=h;simp only [List.cons.injEq] at hc;obtain ⟨rfl,hc⟩:=hc;show sel false x.sem y.sem=_;exact A6 hp hc
  ·cases h
 | [],_,.br _ _ _,_,h,_=>by simp [T.path] at h
 | [],_,.fail,_,h,_=>by simp [T.path] at h
 | true::_,_,.leaf _,_,h,_=>by simp [T.path] at h
 | false::_,_,.leaf _,_,h,_=>by simp [T.path] at h
 | true::_,_,.fail,_,h,_=>by simp [T.path] at h
 | false::_,_,.fail,_,h,_=>by simp [T.path] at h
structure Kn where
 b:Bool
 c:Bool
 h:b=c
theorem spath_of {α:Type} {t:T α} {v:α} (ds cs:List Bool) (h:t.path ds=some (cs,v)) (hc:cs=ds):t.sem=some v:=A6 h hc
def kn {b c:Bool} (h:b=c):Kn:=⟨b,c,h⟩
def kT:Kn:=⟨true,true,rfl⟩
def kF:Kn:=⟨false,false,rfl⟩
def kN (k:Kn):Kn:=⟨AI k.b,AI k.c,congrArg AI k.h⟩
def kA (k l:Kn):Kn:=⟨Av k.b l.b,Av k.c l.c,by rw [k.h,l.h]⟩
def kO (k l:Kn):Kn:=⟨bor k.b l.b,bor k.c l.c,by rw [k.h,l.h]⟩
def kB (k l:Kn):Kn:=⟨Kr k.b l.b,Kr k.c l.c,by rw [k.h,l.h]⟩
def kI (x:Int):Kn:=⟨ieq x x,true,by simp [ieq]⟩
def kJ (n:Nat):Kn:=⟨Fy n n,true,Nat.beq_refl n⟩
theorem Ag {α:Type} {ks:List Kn} {t:T α} {a:α} (h:T.path (ks.map Kn.c) t=some (ks.map Kn.b,a)):t.sem=some a :=
 A6 h (by
  clear h
  induction ks with
  | nil=>rfl
  | cons k ks ih=>rw [List.map_cons,List.map_cons,k.h,ih])
theorem Aat {f:St->T (Ex×St)} {l:Lp} {m:Nat} {st st1:St} (h:(f st).sem=some (.nm,st1)):(Ay f l (m+1) st).sem=(Ay f l m (EC l.ks l.n st1)).sem:=by
 show ((f st).bind _).sem=_;rw [Cm,h]
theorem Aar {f:St->T (Ex×St)} {l:Lp} {m:Nat} {st st1:St} {e:Ex} (he:e ≠ .nm) (h:(f st).sem=some (e,st1)):(Ay f l (m+1) st).sem=some (e,EC l.ke l.ne st1):=by
 show ((f st).bind _).sem=_;rw [Cm,h];cases e with
 | nm=>exact absurd rfl he
 | ex i=>rfl
 | rt=>rfl
theorem Aas {f:St->T (Ex×St)} {l:Lp} {m:Nat} {st st2:St} {ds cs:List Bool} (h:((f st).bind λr=>T.leaf (r.1,EC l.ks l.n r.2)).path ds=some (cs,(.nm,st2))) (hc:cs=ds) :
  (Ay f l (m+1) st).sem=(Ay f l m st2).sem:=by
 obtain ⟨⟨e,st1⟩,h1,h2⟩:=Ad (A6 h hc);have:=Aa h2;simp only [Prod.mk.injEq] at this;obtain ⟨rfl,rfl⟩:=this;exact Aat h1
theorem Vy {f:St->T (Ex×St)} {l:Lp} {m:Nat} {st st2:St} {e:Ex} {ds cs:List Bool} (h:((f st).bind λr=>T.leaf (r.1,EC l.ke l.ne r.2)).path ds=some (cs,(e,st2))) (hc:cs=ds) (he:e ≠ .nm) :
  (Ay f l (m+1) st).sem=some (e,st2):=by
 obtain ⟨⟨e',st1⟩,h1,h2⟩:=Ad (A6 h hc);have:=Aa h2;simp only [Prod.mk.injEq] at this;obtain ⟨rfl,rfl⟩:=this;exact Aar he h1
theorem OV {τ:List Ty} {call:FuncId->List V->St->T (V×Res)} {G:Nat->V} {fn:Func} {vs:List V} {L L':Nat->(St->T (Ex×St))->St->T (Ex×St)}
  (h:∀ id f f' st,(∀ st,(f st).sem=(f' st).sem)->(L id f st).sem=(L' id f' st).sem):(AM (Au τ ⟨call,L,G⟩ fn vs [])).sem=(AM (Au τ ⟨call,L',G⟩ fn vs [])).sem:=by
 refine Fa ?_ λ_=>rfl;unfold Au;cases fn.body with
 | none=>rfl
 | some c=>exact Fa (VP (Γ:=⟨call,L,G⟩) h c 0 _) λ_=>rfl
def gI:V->Option Int
 | .val (.int .i64 n)=>some n
 | _=>none
def gB:V->Option Bool
 | .val (.bool b)=>some b
 | _=>none
def gS:V->Option (List UInt8)
 | .str l=>some l
 | _=>none
theorem Hy {v:V} {n:Int} (h:gI v=some n):v=iV n:=by
 unfold gI at h;split at h
 ·simp at h; subst h; rfl
 ·cases h
theorem TU {v:V} {b:Bool} (h:gB v=some b):v=bV b:=by
 unfold gB at h;split at h
 ·simp at h; subst h; rfl
 ·cases h
theorem Agb {v:V} {l:List UInt8} (h:gS v=some l):v = .str l:=by
 unfold gS at h;split at h
 ·simp at h; subst h; rfl
 ·cases h
theorem GI {α:Type} {f g:Nat->α} {n:Nat} (h:(List.range n).map f=(List.range n).map g) (k:Nat) (hk:k<n):f k=g k:=by
 have:=congrArg (·[k]?) h
 simpa [hk] using this
section
variable {H:Type} {enc:TypeId×Value->H} {P:Program} {W:World} {sp:Nat->Bool} {held:Bool} {r:Reach} {b0:Nat} {t e:TypeId} {v:Value} {d:DataW H} {ps:List MemPlace}
theorem WV {α:Type} [Inhabited α] {f:α->List Value} {g:α->V} {s:Nat} (ht:P.underlying t=some (.slice e)) (hs:P.cellsOf e=s) (hs0:0<s) (hone:∀ a,∀ u ∈ f a,u.oneCell'=true)
  (hg:∀ (S:Nat->Prop) (w:World) a,∃ ci,VR S w (g a) noK ci∧ci.cells.toList=f a)
  (hel:∀ fuel cs x,DataW.trod enc P W 0 sp held fuel e cs=some x->∃ a:α,cs=f a) (hval:Value.okWide P W r b0 t v) (hd:DataW.Trod enc P W 0 sp held t v d ps) :
  ∃ (n:Nat) (xs:Nat->α),VR (Ws W) W (.sl s n λi=>g (xs i)) noK v∧(n=0 ∨ ∃ els rest,d = .slice els rest∧els.length=n):=by
 obtain ⟨a,len,cap,rfl⟩:=WideShapes.okWide_slice ht hval;obtain ⟨fuel,hf⟩:=hd;rcases DataW.trod_slice ht hf with ⟨hcs,_⟩ | ⟨a',len',cap',elems,rest,n,_,hcs,hx,_,hl,_,hlen,hE,_,_⟩
 ·simp [Value.cells] at hcs
  obtain ⟨rfl,rfl,rfl⟩:=hcs;exact ⟨0,λ_=>default,⟨none,0,rfl,Nat.le_refl _,.inl rfl⟩,.inl rfl⟩
 ·simp [Value.cells] at hcs
  obtain ⟨rfl,rfl,rfl⟩:=hcs;simp only [Prod.mk.injEq] at hx;have hex:∀ i,i<len->∃ x:α,W.cells? 0 (a'.add (i * s)) s=some (f x):=by
   intro i hi;have:=hE i hi;have hi':i<elems.length:=by omega
   rw [List.getElem?_eq_getElem hi',Option.bind_eq_some_iff,hs] at this;obtain ⟨cs,h1,h2⟩:=this;obtain ⟨x,rfl⟩:=hel _ _ _ h2;exact ⟨x,h1⟩
  refine ⟨len,λi=>if h:i<len then (hex i h).choose else default,⟨some a',cap,rfl,hl,?_⟩,.inr ⟨_,_,hx.1,by simp [hlen]⟩⟩
  by_cases hz:len=0
  ·exact .inl hz
  right;obtain ⟨b,off,spot⟩:=a';have hspot:spot=none:=by
   have:=(World.cells?_some (hex 0 (by omega)).choose_spec);have h2:=this.2.2 0 (by omega);have hl:0<(f (hex 0 (by omega)).choose).length:=by omega
   rw [List.getElem?_eq_getElem hl] at h2;simpa [Addr.add] using World.cell?_spot h2
  subst hspot;refine ⟨b,off,rfl,λi hi=>?_⟩;have hc:=World.cells?_some (hex i hi).choose_spec;obtain ⟨ci,q1,q2⟩:=hg (Ws W) W (hex i hi).choose;refine ⟨ci,by simp only [hi,dif_pos]; exact q1,?_,?_,?_⟩
  ·rw [<- Array.length_toList,q2]; exact hc.2.1
  ·rw [q2]; exact hone _
  ·rw [q2]
   intro j u hj;have hjs:j<s:=by
    have:=(List.getElem?_eq_some_iff.1 hj).1;have h3:=hc.2.1;omega
   have:=hc.2.2 j hjs;rw [hj] at this;have e1:((⟨b,off,none⟩:Addr).add (i * s)).add j=⟨b,off+i * s+j,none⟩:=by
    rw [Df,Df]
   rw [e1] at this;exact ⟨Agl this,this⟩
end
end Go.Sy
namespace Go.Sy
variable {dl:List Deferred}
def Gi (l N:Nat):Code->Code
 | .seq a b=>.seq (Gi l N a) (Gi l N b)
 | .cond c a b=>.cond c (Gi l N a) (Gi l N b)
 | .block i c=>match Nat.beq i N with
  | true=>.goto 0
  | false=>.block i (Gi l N c)
 | .label _=>.skip
 | .goto k=>match Nat.beq k l with
  | true=>.exit N
  | false=>.goto k
 | .exit i=>match Nat.beq i N with
  | true=>.goto 0
  | false=>.exit i
 | .loop _=>.goto 0
 | c=>c
def Yx (l N:Nat) (c:Code):Code:=.block N (.seq (Gi l N c) .ret)
def G3 (l N:Nat):Code->Code
 | .seq a b=>match a with
  | .label k=>match Nat.beq k l with
   | true=>.loop (Yx l N b)
   | false=>.goto 0
  | a=>.seq a (G3 l N b)
 | _=>.goto 0
def G7 (l:Nat):Code->Option Code
 | .seq a b=>match a with
  | .label k=>match Nat.beq k l with
   | true=>some b
   | false=>none
  | _=>G7 l b
 | _=>none
section
variable {P:Program} {τ:List Ty} (hτ:TabOK P τ) {Γ:Cx}
def Jb (l N:Nat):Ex->Exit
 | .ex i=>match Nat.beq i N with
  | true=>.goto l
  | false=>.exit i
 | e=>Fl e
theorem OD {l N j:Nat} (h:Nat.beq j N=true):Jb l N (.ex j) = .goto l:=by simp only [Jb,h]
theorem Mm {l N j:Nat} (h:Nat.beq j N=false):Jb l N (.ex j) = .exit j:=by simp only [Jb,h]
include hτ in
theorem AfP (hm:P.follows .mixedOrders=true) (hΓ:AY P Γ.base) (hΛ:BX Γ) {l N:Nat}:∀ (c:Code) (id:Nat) (st:St) (r:Ex×St) (κ:Ai) (S:Nat->Prop) (a:Act) (w:World) (Q:Exit->Act->World->Prop),
  Rel dl Γ.base κ S st a w->(A8 τ Γ (Gi l N c) id st).sem=some r->(∀ κ' S' a' w',Rel dl Γ.base κ' S' r.2 a' w'->Ext κ S st.h w κ' S' r.2.h w'->Q (Jb l N r.1) a' w')->c.wp P Q a w:=by
 intro c
 induction c with
 | skip =>intro id st r κ S a w Q hr h hw;have:=Aa h;subst this;exact wp_skip (hw κ S a w hr (Ext.refl _ _ _ _))
 | region i ops draw =>
  intro id st r κ S a w Q hr h hw;have hn:r.1 = .nm:=by
   simp only [Gi,A8] at h;split at h
   ·obtain ⟨st',h1,h2⟩:=Ad h
    have:=Aa h2;subst this;rfl
   ·split at h
    ·split at h
     ·split at h
      ·obtain ⟨st1,h1,h3⟩:=Ad h
       obtain ⟨st',h4,h2⟩:=Ad h3;have:=Aa h2;subst this;rfl
      ·split at h
       ·exact Jk h
       ·obtain ⟨_,_,_,h⟩:=Fg h
        exact FL h
     ·obtain ⟨_,_,_,h⟩:=Fg h
      exact FL h
    ·cases h
  refine wpIn_wide.1 (Ez (P:=P) (ro:=none) hτ hm hΓ hΛ (.region i ops draw) id st r κ S a w Q hr h (.inl rfl) λκ' S' a' w' q1 q2=>?_);have:=hw κ' S' a' w' q1 q2;rw [hn] at this ⊢;exact this
 | seq x y ihx ihy =>
  intro id st r κ S a w Q hr h hw;obtain ⟨⟨e,st1⟩,h1,h2⟩:=Ad h;refine wp_seq (ihx id st (e,st1) κ S a w _ hr h1 ?_);intro κ' S' a' w' hr' he';cases e with
  | nm=>exact ihy id st1 r κ' S' a' w' Q hr' h2 λκ'' S'' a'' w'' q1 q2=>hw κ'' S'' a'' w'' q1 (he'.trans q2)
  | ex j =>
   have:=Aa h2;subst this;have:=hw κ' S' a' w' hr' he';revert this;show Q (Jb l N (.ex j)) a' w'->Exit.then _ Q (Jb l N (.ex j)) a' w';cases hb:Nat.beq j N with
   | true=>rw [OD hb]; exact λh=>h
   | false=>rw [Mm hb]; exact λh=>h
  | rt =>have:=Aa h2;subst this;exact hw κ' S' a' w' hr' he'
 | cond x t e iht ihe =>
  intro id st r κ S a w Q hr h hw;simp only [Gi,A8] at h;split at h
  ·rename_i b hb
   have hx:=AP hr.env hr.tmps x;rw [hb] at hx;have hx:=Bm hx;cases b with
   | false=>exact wp_cond_false hx (ihe id st r κ S a w Q hr h hw)
   | true=>exact wp_cond_true hx (iht id st r κ S a w Q hr h hw)
  ·cases h
 | block i c ih =>
  intro id st r κ S a w Q hr h hw;simp only [Gi] at h;split at h
  ·cases h
  ·rename_i hiN
   have hiN:i ≠ N:=Nat.ne_of_beq_eq_false hiN;obtain ⟨⟨e,st1⟩,h1,h2⟩:=Ad h;refine wp_block (ih i st (e,st1) κ S a w _ hr h1 ?_);intro κ' S' a' w' hr' he';cases e with
   | nm =>have:=Aa h2;subst this;exact hw κ' S' a' w' hr' he'
   | ex j =>
    simp only at h2;split at h2
    ·rename_i hj
     have hj:j=i:=Nat.eq_of_beq_eq_true hj;have:=Aa h2;subst this;have hjN:Nat.beq j N=false:=by
      cases hb:Nat.beq j N
      ·rfl
      ·exact absurd (hj ▸ Nat.eq_of_beq_eq_true hb) hiN
     show Exit.inBlock i Q (Jb l N (.ex j)) a' w';rw [Mm hjN];show (if j=i then Q .normal a' w' else Q (.exit j) a' w')
     rw [if_pos hj];exact hw κ' S' a' w' hr' he'
    ·rename_i hj
     have hj:j ≠ i:=Nat.ne_of_beq_eq_false hj;have:=Aa h2;subst this;have:=hw κ' S' a' w' hr' he';revert this;show Q (Jb l N (.ex j)) a' w'->Exit.inBlock i Q (Jb l N (.ex j)) a' w';cases hb:Nat.beq j N with
     | true=>rw [OD hb]; exact λh=>h
     | false =>
      rw [Mm hb];intro h;show (if j=i then Q .normal a' w' else Q (.exit j) a' w')
      rw [if_neg hj];exact h
   | rt =>have:=Aa h2;subst this;exact hw κ' S' a' w' hr' he'
 | exit i =>
  intro id st r κ S a w Q hr h hw;simp only [Gi] at h;split at h
  ·cases h
  ·rename_i hi
   have:=Aa h;subst this;have:=hw κ S a w hr (Ext.refl _ _ _ _);refine wp_exit ?_;rw [Mm hi] at this;exact this
 | label k =>intro id st r κ S a w Q hr h hw;have:=Aa h;subst this;exact wp_label (hw κ S a w hr (Ext.refl _ _ _ _))
 | goto k =>
  intro id st r κ S a w Q hr h hw;simp only [Gi] at h;split at h
  ·rename_i hk
   have hk:k=l:=Nat.eq_of_beq_eq_true hk;have:=Aa h;subst this;have:=hw κ S a w hr (Ext.refl _ _ _ _);refine wp_goto ?_;rw [OD (Nat.beq_refl N)] at this;rw [hk];exact this
  ·cases h
 | ret =>intro id st r κ S a w Q hr h hw;have:=Aa h;subst this;exact wp_ret (hw κ S a w hr (Ext.refl _ _ _ _))
 | _ =>intro id st r κ S a w Q hr h hw;cases h
include hτ in
theorem Yw (hm:P.follows .mixedOrders=true) (hΓ:AY P Γ.base) (hΛ:BX Γ) {l N:Nat} {d:Code} {id:Nat} {st st1:St} {e:Ex} {κ:Ai} {S:Nat->Prop} {a:Act} {w:World} {J:Act->World->Prop} {Q:Exit->Act->World->Prop}
  (hr:Rel dl Γ.base κ S st a w) (h:(A8 τ Γ (Yx l N d) id st).sem=some (e,st1)) (hQ:∀ a w,Q .ret a w->Q .normal a w)
  (hw:∀ κ' S' a' w',Rel dl Γ.base κ' S' st1 a' w'->Ext κ S st.h w κ' S' st1.h w'->match e with | .nm=>J a' w' | e=>Q (Fl e) a' w'):d.wp P (Exit.jump l J Q) a w:=by
 obtain ⟨⟨e1,st2⟩,h1,h2⟩:=Ad h;obtain ⟨⟨e0,st0⟩,h3,h4⟩:=Ad h1;refine AfP (P:=P) hτ hm hΓ hΛ d N st (e0,st0) κ S a w _ hr h3 λκ' S' a' w' q1 q2=>?_;cases e0 with
 | nm =>have:=Aa h4;simp only [Prod.mk.injEq] at this;obtain ⟨rfl,rfl⟩:=this;have:=Aa h2;simp only [Prod.mk.injEq] at this;obtain ⟨rfl,rfl⟩:=this;exact hQ _ _ (hw κ' S' a' w' q1 q2)
 | rt =>have:=Aa h4;simp only [Prod.mk.injEq] at this;obtain ⟨rfl,rfl⟩:=this;have:=Aa h2;simp only [Prod.mk.injEq] at this;obtain ⟨rfl,rfl⟩:=this;exact hw κ' S' a' w' q1 q2
 | ex j =>
  have:=Aa h4;simp only [Prod.mk.injEq] at this;obtain ⟨rfl,rfl⟩:=this;simp only at h2;split at h2
  ·rename_i hj
   have:=Aa h2;simp only [Prod.mk.injEq] at this;obtain ⟨rfl,rfl⟩:=this;have:=hw κ' S' a' w' q1 q2;show Exit.jump l J Q (Jb l N (.ex j)) a' w';rw [OD hj];exact ⟨rfl,this⟩
  ·rename_i hj
   have:=Aa h2;simp only [Prod.mk.injEq] at this;obtain ⟨rfl,rfl⟩:=this;have:=hw κ' S' a' w' q1 q2;show Exit.jump l J Q (Jb l N (.ex j)) a' w';rw [Mm hj];exact this
include hτ in
theorem Adb (hm:P.follows .mixedOrders=true) (hΓ:AY P Γ.base) (hΛ:BX Γ) {l N:Nat} {c d:Code} (hl:findLabel c l=some (.seq .skip d)) {id:Nat} {Q:Exit->Act->World->Prop} (hQ:∀ a w,Q .ret a w->Q .normal a w) (b:Frame) (k:List Item) (cs:List Frame) :
  ∀ (st:St) (r:Ex×St),Zw τ Γ (Yx l N d) id st r->∀ κ S a w,Rel dl Γ.base κ S st a w->QR dl Γ κ S st.h w r Q ->
   ∃ e a' w',Q e a' w'∧Arrives P (lone (b.at a (.code d :: .inScope c::k)) cs w) b k cs e a' w':=by
 have hg:gotoIn l (.inScope c::k)=some (.code (.seq .skip d) :: .inScope c::k):=by simp [gotoIn,hl]
 intro st r hrun
 induction hrun with
 | stop h1 hne hle =>
  rename_i st st1 st2 e;intro κ S a w hr hw;obtain ⟨e',a₁,w₁,hq,harr⟩:=Yw (P:=P) hτ hm hΓ hΛ (J:=λ_ _=>False) hr h1 hQ (λκ' S' a' w' hr' he'=>by
   obtain ⟨κ2,S2,hr2,he2⟩:=hle dl κ' S' a' w' hr';have:=hw κ2 S2 a' w' hr2 (he'.trans he2);cases e with
   | nm=>exact absurd rfl hne
   | ex j=>exact this
   | rt=>exact this) b (.inScope c::k) cs
  cases e' with
  | normal=>exact ⟨.normal,a₁,w₁,hq,Steps.trans harr (.one step_inScope)⟩
  | exit id=>exact ⟨.exit id,a₁,w₁,hq,λk' hk=>harr k' (by simp [exitTo,hk])⟩
  | goto l'=>exact hq.2.elim
  | ret=>exact ⟨_,a₁,w₁,hq,harr⟩
  | panic ch=>exact ⟨_,a₁,w₁,hq,harr⟩
  | outgrown=>exact ⟨_,a₁,w₁,hq,harr⟩
 | next h1 hle _ ihr =>
  rename_i st st1 st2 r _;intro κ S a w hr hw;obtain ⟨e',a₁,w₁,hq,harr⟩:=Yw (P:=P) hτ hm hΓ hΛ (Q:=λ_ _ _=>False) (J:=λa' w'=>∃ κ' S',Rel dl Γ.base κ' S' st2 a' w'∧Ext κ S st.h w κ' S' st2.h w') hr h1 (λ_ _ h=>h) (λκ' S' a' w' hr' he'=>by
   obtain ⟨κ2,S2,hr2,he2⟩:=hle dl κ' S' a' w' hr';exact ⟨κ2,S2,hr2,he'.trans he2⟩) b (.inScope c::k) cs
  cases e' with
  | goto l' =>obtain ⟨rfl,κ2,S2,hr2,he2⟩:=hq;obtain ⟨e₂,a₂,w₂,hq₂,harr₂⟩:=ihr κ2 S2 a₁ w₁ hr2 (hw.ext he2);exact ⟨e₂,a₂,w₂,hq₂,.of_steps (Steps.trans (harr _ hg) (.head step_seq (.one step_skip))) harr₂⟩
  | normal=>exact hq.elim
  | exit id=>exact hq.elim
  | ret=>exact hq.elim
  | panic ch=>exact hq.elim
  | outgrown=>exact hq.elim
 | weak hle _ ihr =>intro κ S a w hr hw;obtain ⟨κ2,S2,hr2,he2⟩:=hle dl κ S a w hr;exact ihr κ2 S2 a w hr2 (hw.ext he2)
include hτ in
theorem Xl (hm:P.follows .mixedOrders=true) (hΓ:AY P Γ.base) (hΛ:BX Γ) {l N:Nat} {c0 d:Code} (hl:findLabel c0 l=some (.seq .skip d)) {Q:Exit->Act->World->Prop} (hQ:∀ a w,Q .ret a w->Q .normal a w) (b:Frame) (k:List Item) (cs:List Frame) :
  ∀ (c:Code) (id:Nat) (st:St) (r:Ex×St) (κ:Ai) (S:Nat->Prop) (a:Act) (w:World),G7 l c=some d->Rel dl Γ.base κ S st a w->(A8 τ Γ (G3 l N c) id st).sem=some r->QR dl Γ κ S st.h w r Q ->
   ∃ e a' w',Q e a' w'∧Arrives P (lone (b.at a (.code c :: .inScope c0::k)) cs w) b k cs e a' w':=by
 intro c
 induction c with
 | seq x y _ ih =>
  intro id st r κ S a w hd hr h hw;have plain:G7 l y=some d->(A8 τ Γ (.seq x (G3 l N y)) id st).sem=some r->∃ e a' w',Q e a' w'∧Arrives P (lone (b.at a (.code (.seq x y) :: .inScope c0::k)) cs w) b k cs e a' w':=by
   intro hd h;obtain ⟨⟨e,st1⟩,h1,h2⟩:=Ad h;obtain ⟨e',a₁,w₁,hq,harr⟩:=wpIn_wide.1 (Ez (P:=P) (ro:=none) hτ hm hΓ hΛ x id st (e,st1) κ S a w (λe' a' w'=>e'=Fl e∧∃ κ' S',Rel dl Γ.base κ' S' st1 a' w'∧Ext κ S st.h w κ' S' st1.h w') hr h1 (.inl rfl) (λκ' S' a' w' q1 q2=>⟨rfl,κ',S',q1,q2⟩)) b (.code y :: .inScope c0::k) cs;obtain ⟨rfl,κ2,S2,hr2,he2⟩:=hq;cases e with
   | nm =>obtain ⟨e₂,a₂,w₂,hq₂,harr₂⟩:=ih id st1 r κ2 S2 a₁ w₁ hd hr2 h2 (hw.ext he2);exact ⟨e₂,a₂,w₂,hq₂,.of_steps (.head step_seq harr) harr₂⟩
   | ex j =>have:=Aa h2;subst this;exact ⟨.exit j,a₁,w₁,hw κ2 S2 a₁ w₁ hr2 he2,λk' hk=>.head step_seq (harr k' (by simp [exitTo,hk]))⟩
   | rt =>have:=Aa h2;subst this;exact ⟨.ret,a₁,w₁,hw κ2 S2 a₁ w₁ hr2 he2,.of_steps (.one step_seq) harr⟩
  cases x with
  | label j =>
   simp only [G7] at hd;simp only [G3] at h;split at hd
   ·rename_i hj
    rw [hj] at h;simp only [Option.some.injEq] at hd;subst hd;have hrun:LRunF Γ.base (λst=>A8 τ Γ (Yx l N y) id st) st r:=hΛ _ _ _ _ h;cases hrun with
    | run hrun =>obtain ⟨e₂,a₂,w₂,hq₂,harr₂⟩:=Adb (P:=P) hτ hm hΓ hΛ hl hQ b k cs st r hrun κ S a w hr hw;exact ⟨e₂,a₂,w₂,hq₂,.of_steps (.head step_seq (.one step_label)) harr₂⟩
    | Dn hle hp hrun ha =>
     obtain ⟨κ1,S1,hr1,he1⟩:=hle dl κ S a w hr;obtain ⟨κ0,hr0,hback⟩:=Vp hr1 hp;obtain ⟨e₂,a₂,w₂,hq₂,harr₂⟩:=Adb (P:=P) hτ hm hΓ hΛ hl hQ b k cs _ _ hrun κ0 S1 a w hr0 λκ' S' a' w' hr' he'=>by
      obtain ⟨b1,b2⟩:=hback κ' S' a' w' _ hr' he' ha;exact hw κ1 S1 a' w' b1 (he1.trans b2)
     exact ⟨e₂,a₂,w₂,hq₂,.of_steps (.head step_seq (.one step_label)) harr₂⟩
   ·cases hd
  | _=>exact plain hd h
 | _ =>intro id st r κ S a w hd;cases hd
include hτ in
theorem AbG (hm:P.follows .mixedOrders=true) (hΓ:AY P Γ.base) (hΛ:BX Γ) {l N:Nat} {c d:Code} (hl:findLabel c l=some (.seq .skip d)) (hd:G7 l c=some d) {id:Nat} {st:St} {r:Ex×St} {κ:Ai} {S:Nat->Prop} {a:Act} {w:World} {Q:Exit->Act->World->Prop}
  (hQ:∀ a w,Q .ret a w->Q .normal a w) (hr:Rel dl Γ.base κ S st a w) (h:(A8 τ Γ (G3 l N c) id st).sem=some r) (hw:QR dl Γ κ S st.h w r Q):(Code.scope c).wp P Q a w:=by
 intro b k cs;obtain ⟨e₂,a₂,w₂,hq₂,harr₂⟩:=Xl (P:=P) hτ hm hΓ hΛ hl hQ b k cs c id st r κ S a w hd hr h hw;exact ⟨e₂,a₂,w₂,hq₂,.of_steps (.one step_scope) harr₂⟩
def Ll (fn:Func) (c:Code):Func:={ fn with body:=some c }
include hτ in
theorem AdA (hm:P.follows .mixedOrders=true) (hΓ:AY P Γ.base) (hΛ:BX Γ) {l N:Nat} {f:FuncId} {fn:Func} {p c d:Code} (hf:P.funcs[f]? = some fn) (hb:fn.body=some (.seq p (.scope c))) (hl:findLabel c l=some (.seq .skip d)) (hd:G7 l c=some d)
  {κ:Ai} {S:Nat->Prop} {h:List Blk} {w:World} {vs:List V} {cs:List Value} {v:V} {h':List Blk}
  (hg:Good κ S h w) (hE:C6 Γ.base S w) (hv:VRs S w vs κ cs) (he:(Au τ Γ (Ll fn (.seq p (G3 l N c))) vs h).sem=some (v,h')) :
  Calls P f cs.toArray w λe w'=>∃ c κ' S',e = .returned c∧Good κ' S' h' w'∧VR S' w' v κ' c∧Ext κ S h w κ' S' h' w':=by
 unfold Au at he;obtain ⟨⟨e,st⟩,h1,h2⟩:=Ad he;refine calls_of_wp hf hb ?_;have hlen:=hv.length;have hr:Rel [] Γ.base κ S ⟨vs++F6 (Nat.sub fn.ntmps vs.length),h⟩ { tmps:=cs.toArray++Array.replicate (fn.ntmps-cs.toArray.size) undef,defers:=[] } w:=by
  refine ⟨hg,hE,?_,rfl⟩;have:=hv.append (G8 (S:=S) (w:=w) (κ:=κ) (Nat.sub fn.ntmps vs.length));have e2:Nat.sub fn.ntmps vs.length=fn.ntmps-cs.length:=by rw [hlen]; rfl
  rw [e2] at this ⊢;simpa using this
 have fin:∀ κ' S' a' w',Rel [] Γ.base κ' S' st a' w'->Ext κ S h w κ' S' st.h w'->DI τ fn st=some v->st.h=h'->a'.defers=[]∧∃ u,(results fn a'.tmps).run P w' = .ok u w'∧∃ c κ' S',(Ending.returned u) = .returned c∧Good κ' S' h' w'∧VR S' w' v κ' c∧Ext κ S h w κ' S' h' w':=by
  intro κ' S' a' w' hr' he' q1 q2;subst q2;obtain ⟨u,q3,q4⟩:=HW (P:=P) hτ hr' q1;exact ⟨hr'.defers,u,q3,u,κ',S',rfl,hr'.good,q4,he'⟩
 obtain ⟨⟨e1,st1⟩,h3,h4⟩:=Ad h1;refine wp_seq (wpIn_wide.1 (Ez (P:=P) (ro:=none) hτ hm hΓ hΛ p 0 _ (e1,st1) κ S _ w _ hr h3 (.inl rfl) ?_));intro κ1 S1 a1 w1 hr1 he1;have last:(e,st)=(e,st)->∀ κ' S' a' w',Rel [] Γ.base κ' S' st a' w'->Ext κ S h w κ' S' st.h w'->(bodyPost P fn λe w'=>∃ c κ' S',e = .returned c∧Good κ' S' h' w'∧VR S' w' v κ' c∧Ext κ S h w κ' S' h' w') (Fl e) a' w':=by
  intro _ κ' S' a' w' hr' he';cases e with
  | ex j=>cases h2
  | nm =>
   simp only at h2;split at h2
   ·rename_i u hu
    have:=Aa h2;simp only [Prod.mk.injEq] at this;obtain ⟨rfl,rfl⟩:=this;exact fin κ' S' a' w' hr' he' hu rfl
   ·cases h2
  | rt =>
   simp only at h2;split at h2
   ·rename_i u hu
    have:=Aa h2;simp only [Prod.mk.injEq] at this;obtain ⟨rfl,rfl⟩:=this;exact fin κ' S' a' w' hr' he' hu rfl
   ·cases h2
 cases e1 with
 | ex j =>have:=Aa h4;simp only [Prod.mk.injEq] at this;obtain ⟨rfl,rfl⟩:=this;exact last rfl κ1 S1 a1 w1 hr1 he1
 | rt =>have:=Aa h4;simp only [Prod.mk.injEq] at this;obtain ⟨rfl,rfl⟩:=this;exact last rfl κ1 S1 a1 w1 hr1 he1
 | nm=>exact AbG (P:=P) hτ hm hΓ hΛ hl hd (λ_ _ h=>h) hr1 h4 λκ' S' a' w' hr' he'=>last rfl κ' S' a' w' hr' (he1.trans he')
end
theorem Ri {P:Program} {τ:List Ty} (hτ:TabOK P τ) (hm:P.follows .mixedOrders=true) {Γ:Cx} (hΓ:AY P Γ.base) (hΛ:BX Γ) {l N:Nat} {f:FuncId} {fn:Func} {p c d:Code} (hf:P.funcs[f]? = some fn)
  (hb:fn.body=some (.seq p (.scope c))) (hl:findLabel c l=some (.seq .skip d)) (hd:G7 l c=some d) (hn:fn.name ≠ "runtime.NumGoroutine"):Ar P Γ.glob f λvs=>AM (Au τ Γ (Ll fn (.seq p (G3 l N c))) vs []):=by
 refine ⟨⟨fn,hf,hn,by rw [hb]; rfl⟩,λvs cs S w v h' hS hE hv he=>?_⟩;obtain ⟨⟨v1,h1⟩,q1,q2⟩:=Ad he;have q2:=Da q2;refine ⟨FB q2,(AdA (P:=P) hτ hm hΓ hΛ hf hb hl hd (Good.empty hS) hE hv q1).mono ?_⟩
 rintro e w' ⟨u,κ',S',rfl,g1,g2,g3⟩
 obtain ⟨κ2,p1,p2,p3⟩:=Oz g1 g2 q2;refine ⟨u,κ2,S',rfl,p1,p2,Ext.ofNil g3.os g3.tape g3.output g3.size g3.keep (λi b hb=>?_) g3.sub g3.sup (FB q2)⟩;obtain ⟨j,hj⟩:=p3 i b hb;exact g3.own j b hj
def VC (l N:Nat) (fn:Func):Func :=
 match fn.body with
 | some (.seq p (.scope c))=>Ll fn (.seq p (G3 l N c))
 | _=>fn
theorem UV {P:Program} {τ:List Ty} (hτ:TabOK P τ) (hm:P.follows .mixedOrders=true) {f:FuncId} {fn:Func} (hf:P.funcs[f]? = some fn) (l N:Nat) {p c d:Code}
  (hb:fn.body=some (.seq p (.scope c))) (hd:G7 l c=some d) (hl:findLabel c l=some (.seq .skip d)) (hn:(fn.name == "runtime.NumGoroutine")=false) {G:Nat->V} {F:List V->A3}
  (h:∀ vs v h',(F vs).sem=some (v,h')->∃ vs' Γ h'',B2 vs vs'∧Γ.glob=G∧AY P Γ.base∧BX Γ∧(AM (Au τ Γ (VC l N fn) vs' [])).sem=some (v,h'')∧As h'' h'):Ar P G f F:=by
 have hn:fn.name ≠ "runtime.NumGoroutine":=by simpa using hn
 have hF:VC l N fn=Ll fn (.seq p (G3 l N c)):=by
  unfold VC;simp only [hb]
 refine ⟨⟨fn,hf,hn,by rw [hb]; rfl⟩,λvs cs S w v h' hS hE hv he=>?_⟩;obtain ⟨vs',Γ,h'',h1,h2,h3,hΛ,h4,h5⟩:=h vs v h' he;subst h2;rw [hF] at h4;obtain ⟨hr,hc⟩:=(Ri hτ hm h3 hΛ hf hb hl hd hn).2 vs' cs S w v h'' hS hE (h1 S w cs hv) h4;refine ⟨h5.rows hr,hc.mono ?_⟩
 rintro e w' ⟨u,κ',S',rfl,g1,g2,g3⟩
 obtain ⟨p1,p2⟩:=h5.good g1;refine ⟨u,κ',S',rfl,p1,g2,Ext.ofNil g3.os g3.tape g3.output g3.size g3.keep (λi b hb=>?_) g3.sub g3.sup (h5.rows hr)⟩;rw [p2] at hb;exact g3.own i b hb
end Go.Sy
namespace Go.Sy
def AhB (P:Program) (G:Nat->V) (f:FuncId) (M:List V->List Blk->A3):Prop :=
 ∀ vs cs κ S h w v h',Good κ S h w->MF G S w->VRs S w vs κ cs->(M vs h).sem=some (v,h') ->
  Oe P f cs w λe w'=>∃ c κ' S',e = .returned c∧Good κ' S' (after h h') w'∧VR S' w' v κ' c∧Ext κ S h w κ' S' (after h h') w'∧Zy κ κ' w w' h'
def Rb (P:Program) (G:Nat->V) (mt:List (Nat×(List V->List Blk->A3))):Prop:=∀ p,p ∈ mt->AhB P G p.1 p.2
theorem Rb.nil {P:Program} {G:Nat->V}:Rb P G []:=λ_ h=>by cases h
theorem Rb.cons {P:Program} {G:Nat->V} {f:Nat} {M:List V->List Blk->A3} {mt:List (Nat×(List V->List Blk->A3))} (h:AhB P G f M) (ht:Rb P G mt):Rb P G ((f,M)::mt):=λp hp=>by
 rcases List.mem_cons.1 hp with rfl | hp
 ·exact h
 ·exact ht p hp
section
variable {P:Program} {τ:List Ty} (hτ:TabOK P τ) (hm:P.follows .mixedOrders=true) {G:Nat->V} {f:FuncId} {fn:Func} {e s:Nat}
include hτ hm in
include hτ hm in
end
end Go.Sy
namespace Go.Sy
end Go.Sy
