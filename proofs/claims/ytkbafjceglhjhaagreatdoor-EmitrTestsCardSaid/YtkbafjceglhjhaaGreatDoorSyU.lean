/-
  From the evaluator to a law's row: functions said otherwise, arguments and tables read, a law's walk. Conditions: as before.
-/
import Derived.Test.YtkbafjceglhjhaaGreatDoorSyP
import Derived.ProofKit
import Derived.Carry
import Derived.SizedLaws
import Derived.FnData
import Derived.Lib.LaidTab
import Derived.ScopeJumps
import Derived.ChangeSame
namespace Go.Sy
def Ba (vs vs':List V):Prop:=∀ S w cs,VRs S w vs noK cs->VRs S w vs' noK cs
theorem Ba.refl (vs:List V):Ba vs vs:=λ_ _ _ h=>h
inductive SayB:Blk->Blk->Prop where
 | same (b:Blk):SayB b b
 | row {e s n:Nat} {g g':Nat->V}:(∀ j,j<n->g' j=g j)->SayB (.row e s n g) (.row e s n g')
 | jag {j:Jag} {get':Nat->V} {live':Nat->Bool} {len':Nat->Nat} {mem':Nat->Nat->V}:(∀ k,k<j.n->get' k=j.get k ∨ get' k = .und)->(∀ k,k<j.n->live' k=j.live k)->(∀ k,k<j.n->len' k=j.len k) ->
   (∀ k,k<j.n->∀ q,q<j.len k->mem' k q=j.mem k q)->SayB (.jag j) (.jag { j with get:=get',live:=live',len:=len',mem:=mem' })
theorem SayB.inB {b b':Blk} (h:SayB b b') (v:Option Value) (g:Nat):inBlk v g b'↔inBlk v g b:=by cases h <;> exact Iff.rfl
theorem SayB.isRow {b b':Blk} (h:SayB b b') (hb:FQ b):FQ b':=by
 cases h with
 | same=>exact hb
 | row _=>exact .inl ⟨_,_,_,_,rfl⟩
 | jag _ _ _ _=>exact .inr ⟨_,rfl⟩
theorem Ah2 {S:Nat->Prop} {w:World} {κ:Ax} {v:Option Value} {j:Jag} {get':Nat->V} {live':Nat->Bool} {len':Nat->Nat} {mem':Nat->Nat->V} (h1:∀ k,k<j.n->get' k=j.get k ∨ get' k = .und) (h2:∀ k,k<j.n->live' k=j.live k)
  (h3:∀ k,k<j.n->len' k=j.len k) (h4:∀ k,k<j.n->∀ q,q<j.len k->mem' k q=j.mem k q) (hB:AY S w κ v (.jag j)):AY S w κ v (.jag { j with get:=get',live:=live',len:=len',mem:=mem' }):=by
 obtain ⟨c,ms,xs,q1,z1,z2,z3,z4,z5,z6,z7,z8,z9⟩:=hB;refine ⟨c,ms,xs,q1,z1,z2,z3,z4,z5,z6,λk hk=>?_,λk m hm=>?_,z9⟩
 ·show ∃ ci,VR S w (get' k) noK ci∧_
  rcases h1 k hk with he | he
  ·rw [he]
   exact z7 k hk
  ·rw [he]
   obtain ⟨ci,_,hr⟩:=z7 k hk;exact ⟨ci,trivial,hr⟩
 ·rcases z8 k m hm with ⟨hk,this⟩ | h8
  rotate_left
  ·exact .inr h8
  refine .inl ⟨hk,?_⟩;unfold Hz at this ⊢;show (match live' k with | true=>_ | false=>_)
  rw [h2 k hk];split
  ·rename_i hlv
   rw [hlv] at this;obtain ⟨y1,ys,y2,y3⟩:=this;refine ⟨y1,ys,by show w.ownsRow 0 j.e' j.s' m (len' k) ys; rw [h3 k hk]; exact y2,?_⟩;show CP S w j.s' (len' k) (mem' k) ys;rw [h3 k hk];exact λq hq=>by rw [h4 k hk q hq]; exact y3 q hq
  ·rename_i hlv
   rw [hlv] at this;exact this
theorem SayB.holds {b b':Blk} (h:SayB b b') {S:Nat->Prop} {w:World} {κ:Ax} {v:Option Value} (hB:AY S w κ v b):AY S w κ v b':=by
 cases h with
 | same=>exact hB
 | row h =>obtain ⟨q0,c,xs,q1,q2,q3⟩:=hB;exact ⟨q0,c,xs,q1,q2,λk hk=>by rw [h k hk]; exact q3 k hk⟩
 | jag h1 h2 h3 h4=>exact Ah2 h1 h2 h3 h4 hB
def Am (h h':List Blk):Prop:=h.length=h'.length∧∀ (i:Nat) (b:Blk),h[i]? = some b->∃ b',h'[i]? = some b'∧SayB b b'
theorem Am.refl (h:List Blk):Am h h:=⟨rfl,λ_ b hi=>⟨b,hi,.same b⟩⟩
theorem Am.consB {b b':Blk} {l l':List Blk} (h:SayB b b') (hl:Am l l'):Am (b::l) (b'::l'):=by
 refine ⟨by simp [hl.1],λi b1 hi=>?_⟩;cases i with
 | zero =>simp at hi;subst hi;exact ⟨b',rfl,h⟩
 | succ i=>simpa using hl.2 i b1 (by simpa using hi)
theorem Am.cons {e s n:Nat} {g g':Nat->V} {l l':List Blk} (h:∀ j,j<n->g' j=g j) (hl:Am l l'):Am (Blk.row e s n g::l) (Blk.row e s n g'::l'):=.consB (.row h) hl
theorem Am.one {e s n:Nat} {g g':Nat->V} (h:∀ j,j<n->g' j=g j):Am [Blk.row e s n g] [Blk.row e s n g']:=.cons h (.refl [])
theorem Am.rows {h h':List Blk} (hh:Am h h') (hr:Ib h):Ib h':=by
 intro i b hb;have hl:i<h.length:=by rw [hh.1]; exact (List.getElem?_eq_some_iff.1 hb).1
 obtain ⟨b',h1,h2⟩:=hh.2 i _ (List.getElem?_eq_getElem hl);rw [h1] at hb;simp only [Option.some.injEq] at hb;subst hb;exact h2.isRow (hr i _ (List.getElem?_eq_getElem hl))
theorem Am.good {h h':List Blk} (hh:Am h h') {κ:Ax} {S:Nat->Prop} {w:World} (hg:Good κ S h w):Good κ S h' w∧∀ i k,AL κ h' i k↔AL κ h i k:=by
 have hown:∀ i k,AL κ h' i k↔AL κ h i k:=by
  intro i k;cases hi:h[i]? with
  | none =>
   have:h'[i]? = none:=by
    rw [List.getElem?_eq_none_iff] at hi ⊢;rw [<- hh.1]; exact hi
   exact ⟨λq=>absurd q (D2 this),λq=>absurd q (D2 hi)⟩
  | some b =>obtain ⟨b',h1,h2⟩:=hh.2 i b hi;rw [Az hi,Az h1];exact h2.inB _ _
 refine ⟨⟨?_,?_,?_,?_⟩,hown⟩
 ·intro i b hb
  have hl:i<h.length:=by rw [hh.1]; exact (List.getElem?_eq_some_iff.1 hb).1
  obtain ⟨b',h1,h2⟩:=hh.2 i _ (List.getElem?_eq_getElem hl);rw [h1] at hb;simp only [Option.some.injEq] at hb;subst hb;exact h2.holds (hg.blk i _ (List.getElem?_eq_getElem hl))
 ·intro i j g hij hi hj
  rw [hown] at hi hj;exact hg.sep i j g hij hi hj
 ·intro b hb
  exact ⟨(hg.out b hb).1,λi hi=>(hg.out b hb).2 i ((hown i b).1 hi)⟩
 ·intro i hi
  exact hg.dom i (by rw [hh.1]; exact hi)
theorem Ah {P:Program} {τ:List Ty} (hτ:TabOK P τ) (hm:P.follows .mixedOrders=true) {f:FuncId} {fn:Func} (hf:P.funcs[f]? = some fn)
  (hb:fn.body.isSome=true) (hn:(fn.name == "runtime.NumGoroutine")=false) {G:Nat->V} {F:List V->A5}
  (h:∀ vs v h',(F vs).sem=some (v,h')->∃ vs' Γ h'',Ba vs vs'∧Γ.glob=G∧Bu P Γ.base∧Cr Γ∧(A0 (Aj τ Γ fn vs' [])).sem=some (v,h'')∧Am h'' h'):Ap P G f F:=by
 obtain ⟨c,hb⟩:=Option.isSome_iff_exists.1 hb;have hn:fn.name ≠ "runtime.NumGoroutine":=by simpa using hn
 refine ⟨⟨fn,hf,hn,by rw [hb]; rfl⟩,λvs cs S w v h' hS hE hv he=>?_⟩;obtain ⟨vs',Γ,h'',h1,h2,h3,hΛ,h4,h5⟩:=h vs v h' he;subst h2;obtain ⟨hr,hc⟩:=(JX hτ hm h3 hΛ hf hb hn).2 vs' cs S w v h'' hS hE (h1 S w cs hv) h4;refine ⟨h5.rows hr,hc.mono ?_⟩
 rintro e w' ⟨u,κ',S',rfl,g1,g2,g3⟩
 obtain ⟨p1,p2⟩:=h5.good g1;refine ⟨u,κ',S',rfl,p1,g2,Ext.ofNil g3.os g3.tape g3.output g3.size g3.keep (λi b hb=>?_) g3.sub g3.sup (h5.rows hr)⟩;rw [p2] at hb;exact g3.own i b hb
theorem AM {P:Program} {τ:List Ty} (hτ:TabOK P τ) (hm:P.follows .mixedOrders=true) {f:FuncId} {fn:Func} (hf:P.funcs[f]? = some fn)
  (hb:fn.body.isSome=true) (hn:(fn.name == "runtime.NumGoroutine")=false) {Γ:Cx} (hΓ:Bu P Γ.base∧Cr Γ):Ap P Γ.glob f λvs=>A0 (Aj τ Γ fn vs []):=by
 obtain ⟨c,hb⟩:=Option.isSome_iff_exists.1 hb;exact JX hτ hm hΓ.1 hΓ.2 hf hb (by simpa using hn)
def N4 (W:World):Nat->Prop:=λb=>b<W.heap.size
theorem RH {P:Program} {G:Nat->V} {f:FuncId} {F:List V->A5} (hp:Ap P G f F) {vs:List V} {cs:List Value} {W:World} {h':List Blk} (hE:TQ G (N4 W) W)
  (hv:VRs (N4 W) W vs noK cs) (he:(F vs).sem=some (bV true,h')):Calls P f cs.toArray W λe w'=>e = .returned (.bool true)∧RowKit.Below W.heap.size W w':=by
 refine (hp.2 vs cs (N4 W) W _ h' (λ_ h=>h) hE hv he).2.mono ?_
 rintro e w' ⟨c,κ',S',rfl,_,g2,g3⟩
 have g2:c = .bool true:=g2;subst g2;exact ⟨rfl,g3.os,g3.tape,g3.output,g3.size,λk hk=>g3.keep k hk (λi=>D8 _ _ _)⟩
theorem Zm {w:World} {a:Addr} {v:Value} (h:w.cell? a=some v):a.block<w.heap.size:=by
 rcases Nat.lt_or_ge a.block w.heap.size with hl | hl
 ·exact hl
 ·simp [World.cell?,Array.getElem?_eq_none hl] at h
def BC (loops:List (Nat×Lp)) (id:Nat) (f:St->T (Ex×St)) (st:St):T (Ex×St) :=
 match Ka id loops with
 | some l=>Av f l l.fuel st
 | none=>.fail
def AO (G:Nat->V) (tbl:A7) (loops:List (Nat×Lp)):Cx:=⟨Aw tbl,BC loops,G⟩
theorem Bh {P:Program} {G:Nat->V} {tbl:A7} (h:Ao P G tbl) (loops:List (Nat×Lp)):Bu P (AO G tbl loops).base∧Cr (AO G tbl loops) :=
 ⟨Ek rfl h,λid f st r hr=>by
  have hr:(BC loops id f st).sem=some r:=hr;unfold BC at hr;split at hr
  ·exact .run (HL hr)
  ·cases hr⟩
def T.path {α:Type}:List Bool->T α->Option (List Bool×α)
 | [],.leaf a=>some ([],a)
 | true::ds,.br b x _=>match T.path ds x with
  | some (cs,a)=>some (b::cs,a)
  | none=>none
 | false::ds,.br b _ y=>match T.path ds y with
  | some (cs,a)=>some (b::cs,a)
  | none=>none
 | _,_=>none
theorem AG {α:Type}:∀ {ds cs:List Bool} {t:T α} {a:α},T.path ds t=some (cs,a)->cs=ds->t.sem=some a
 | [],cs,.leaf a,r,h,_=>by
  simp [T.path] at h;rw [h.2]; rfl
 | true::ds,cs,.br b x y,r,h,hc=>by
  simp only [T.path] at h;split at h
  ·rename_i cs' a' hp
   simp only [Option.some.injEq,Prod.mk.injEq] at h;obtain ⟨rfl,rfl⟩:=h;simp only [List.cons.injEq] at hc;obtain ⟨rfl,hc⟩:=hc;show sel true x.sem y.sem=_;exact AG hp hc
  ·cases h
 | false::ds,cs,.br b x y,r,h,hc=>by
  simp only [T.path] at h;split at h
  ·rename_i cs' a' hp
   simp only [Option.some.injEq,Prod.mk.injEq] at h;obtain ⟨rfl,rfl⟩:=h;simp only [List.cons.injEq] at hc;obtain ⟨rfl,hc⟩:=hc;show sel false x.sem y.sem=_;exact AG hp hc
  ·cases h
 | [],_,.br _ _ _,_,h,_=>by simp [T.path] at h
 | [],_,.fail,_,h,_=>by simp [T.path] at h
 | true::_,_,.leaf _,_,h,_=>by simp [T.path] at h
 | false::_,_,.leaf _,_,h,_=>by simp [T.path] at h
 | true::_,_,.fail,_,h,_=>by simp [T.path] at h
 | false::_,_,.fail,_,h,_=>by simp [T.path] at h
structure Kn where
 b:Bool
 c:Bool
 h:b=c
theorem AbC {α:Type} {t:T α} {v:α} (ds cs:List Bool) (h:t.path ds=some (cs,v)) (hc:cs=ds):t.sem=some v:=AG h hc
def kn {b c:Bool} (h:b=c):Kn:=⟨b,c,h⟩
def kT:Kn:=⟨true,true,rfl⟩
def kF:Kn:=⟨false,false,rfl⟩
def kN (k:Kn):Kn:=⟨AQ k.b,AQ k.c,congrArg AQ k.h⟩
def kA (k l:Kn):Kn:=⟨Al k.b l.b,Al k.c l.c,by rw [k.h,l.h]⟩
def kO (k l:Kn):Kn:=⟨bor k.b l.b,bor k.c l.c,by rw [k.h,l.h]⟩
def kB (k l:Kn):Kn:=⟨JR k.b l.b,JR k.c l.c,by rw [k.h,l.h]⟩
def kI (x:Int):Kn:=⟨ieq x x,true,by simp [ieq]⟩
def kJ (n:Nat):Kn:=⟨BN n n,true,Nat.beq_refl n⟩
theorem Ae {α:Type} {ks:List Kn} {t:T α} {a:α} (h:T.path (ks.map Kn.c) t=some (ks.map Kn.b,a)):t.sem=some a :=
 AG h (by
  clear h
  induction ks with
  | nil=>rfl
  | cons k ks ih=>rw [List.map_cons,List.map_cons,k.h,ih])
theorem Aa0 {f:St->T (Ex×St)} {l:Lp} {m:Nat} {st st1:St} (h:(f st).sem=some (.nm,st1)):(Av f l (m+1) st).sem=(Av f l m (HN l.ks l.n st1)).sem:=by
 show ((f st).bind _).sem=_;rw [Db,h]
theorem Aay {f:St->T (Ex×St)} {l:Lp} {m:Nat} {st st1:St} {e:Ex} (he:e ≠ .nm) (h:(f st).sem=some (e,st1)):(Av f l (m+1) st).sem=some (e,HN l.ke l.ne st1):=by
 show ((f st).bind _).sem=_;rw [Db,h];cases e with
 | nm=>exact absurd rfl he
 | ex i=>rfl
 | rt=>rfl
theorem Aaz {f:St->T (Ex×St)} {l:Lp} {m:Nat} {st st2:St} {ds cs:List Bool} (h:((f st).bind λr=>T.leaf (r.1,HN l.ks l.n r.2)).path ds=some (cs,(.nm,st2))) (hc:cs=ds) :
  (Av f l (m+1) st).sem=(Av f l m st2).sem:=by
 obtain ⟨⟨e,st1⟩,h1,h2⟩:=Ag (AG h hc);have:=Ab h2;simp only [Prod.mk.injEq] at this;obtain ⟨rfl,rfl⟩:=this;exact Aa0 h1
theorem UV {f:St->T (Ex×St)} {l:Lp} {m:Nat} {st st2:St} {e:Ex} {ds cs:List Bool} (h:((f st).bind λr=>T.leaf (r.1,HN l.ke l.ne r.2)).path ds=some (cs,(e,st2))) (hc:cs=ds) (he:e ≠ .nm) :
  (Av f l (m+1) st).sem=some (e,st2):=by
 obtain ⟨⟨e',st1⟩,h1,h2⟩:=Ag (AG h hc);have:=Ab h2;simp only [Prod.mk.injEq] at this;obtain ⟨rfl,rfl⟩:=this;exact Aay he h1
theorem Qj {τ:List Ty} {call:FuncId->List V->St->T (V×Res)} {G:Nat->V} {fn:Func} {vs:List V} {L L':Nat->(St->T (Ex×St))->St->T (Ex×St)}
  (h:∀ id f f' st,(∀ st,(f st).sem=(f' st).sem)->(L id f st).sem=(L' id f' st).sem):(A0 (Aj τ ⟨call,L,G⟩ fn vs [])).sem=(A0 (Aj τ ⟨call,L',G⟩ fn vs [])).sem:=by
 refine EG ?_ λ_=>rfl;unfold Aj;cases fn.body with
 | none=>rfl
 | some c=>exact EG (Vt (Γ:=⟨call,L,G⟩) h c 0 _) λ_=>rfl
def gI:V->Option Int
 | .val (.int .i64 n)=>some n
 | _=>none
def gB:V->Option Bool
 | .val (.bool b)=>some b
 | _=>none
def gS:V->Option (List UInt8)
 | .str l=>some l
 | _=>none
theorem GV {v:V} {n:Int} (h:gI v=some n):v=iV n:=by
 unfold gI at h;split at h
 ·simp at h; subst h; rfl
 ·cases h
theorem Td {v:V} {b:Bool} (h:gB v=some b):v=bV b:=by
 unfold gB at h;split at h
 ·simp at h; subst h; rfl
 ·cases h
theorem YS {v:V} {l:List UInt8} (h:gS v=some l):v = .str l:=by
 unfold gS at h;split at h
 ·simp at h; subst h; rfl
 ·cases h
theorem Gm {α:Type} {f g:Nat->α} {n:Nat} (h:(List.range n).map f=(List.range n).map g) (k:Nat) (hk:k<n):f k=g k:=by
 have:=congrArg (·[k]?) h
 simpa [hk] using this
section
variable {H:Type} {enc:TypeId×Value->H} {P:Program} {W:World} {sp:Nat->Bool} {held:Bool} {r:Reach} {b0:Nat} {t e:TypeId} {v:Value} {d:DataW H} {ps:List MemPlace}
end
theorem Ub {H:Type} {enc:TypeId×Value->H} {P:Program} {w:World} {base:Nat} {sp:Nat->Bool} {held:Bool} {fuel:Nat} {t e:TypeId} {n:Nat} {cs:List Value} {zs:List (List UInt8)} {p:List MemPlace}
  (ht:P.underlying t=some (.array n e)) (he:P.underlying e=some .string) (hce:P.cellsOf e=1) (hct:P.cellsOf t=n)
  (h:DataW.trod enc P w base sp held fuel t cs=some (.agg (zs.map λz=>.lit (.string z)),p)):cs=zs.map λz=>Value.string ⟨z.toArray⟩:=by
 cases fuel with
 | zero=>simp [DataW.trod] at h
 | succ fuel =>
  simp only [DataW.trod,ht,hce,hct,Nat.mul_one] at h;split at h
  ·rename_i hl
   obtain ⟨xs,hm,hx⟩:=Option.map_eq_some_iff.1 h;have hxs:xs.map (·.1)=zs.map λz=>(DataW.lit (.string z):DataW H):=by
    have:=congrArg Prod.fst hx;simpa using this
   have hxl:xs.length=n:=by simpa using Lib.mapM_length hm
   have hzl:zs.length=n:=by
    have:=congrArg List.length hxs;simp at this;omega
   apply List.ext_getElem?;intro i;by_cases hi:i<n
   ·obtain ⟨b,hb,hf⟩:=Lib.mapM_at hm i i (by simp [hi])
    obtain ⟨z,hc,rfl,_⟩:=DataW.trod_string he hf;have h1:cs[i]? = some (.string z):=by
     have:=congrArg (·[0]?) hc
     simpa [List.getElem?_take,List.getElem?_drop] using this
    have h2:(xs.map (·.1))[i]? = some (DataW.lit (.string z.data.toList):DataW H):=by simp [hb]
    rw [hxs] at h2;simp only [List.getElem?_map,Option.map_eq_some_iff,DataW.lit.injEq,Lit.string.injEq] at h2;obtain ⟨z',hz',rfl⟩:=h2;simp [h1,hz']
   ·rw [List.getElem?_eq_none (by omega),List.getElem?_eq_none (by simp; omega)]
  ·cases h
def NY (zs:List (List UInt8)):V:=.pp (.agg (zs.map V.str))
theorem RB {S:Nat->Prop} {w:World} {κ:Ax}:∀ zs:List (List UInt8),VRs S w (zs.map V.str) κ (zs.map λz=>Value.string ⟨z.toArray⟩)
 | []=>rfl
 | z::zs=>⟨.string ⟨z.toArray⟩,zs.map λz=>Value.string ⟨z.toArray⟩,rfl,rfl,RB zs⟩
theorem KI {P:Program} {W:World} {name:String} {zs:List (List UInt8)} {g:Nat} {t e:TypeId} {n:Nat} {ps:List MemPlace} {rest:List (String×DataW Unit)}
  (hg:P.globalNamed name=some g) (hty:(P.globals[g]?).map (·.type)=some t) (ht:P.underlying t=some (.array n e)) (he:P.underlying e=some .string) (hce:P.cellsOf e=1) (hct:P.cellsOf t=n)
  (h:DataW.LaidVars P W ((name,.agg (zs.map λz=>.lit (.string z)))::rest) ps) :
  VR (N4 W) W (NY zs) noK (.pointer (some ⟨g,0,none⟩))∧∃ qs,DataW.LaidVars P W rest qs:=by
 obtain ⟨g',t',cs,fuel,p,q,hg',ht',hvar,hd,hr,_⟩:=h;obtain rfl:=Option.some.inj (hg.symm.trans hg');obtain rfl:=Option.some.inj (hty.symm.trans ht');have hcs:=Ub ht he hce hct hd;refine ⟨⟨g,0,.agg (zs.map λz=>Value.string ⟨z.toArray⟩).toArray,rfl,⟨_,rfl,RB zs⟩,λj u hj=>?_⟩,q,hr⟩;have hj:(zs.map λz=>Value.string ⟨z.toArray⟩)[j]? = some u:=by
  simpa only [Value.cells] using hj
 have h1:=World.var?_cell hg hvar j;have h2:cs[j]? = some u:=by
  rw [<- Array.getElem?_toList,hcs];exact hj
 rw [h2] at h1;rw [Nat.zero_add];exact ⟨Zm h1,h1⟩
end Go.Sy
namespace Go.Sy
def FC (l N:Nat):Code->Code
 | .seq a b=>.seq (FC l N a) (FC l N b)
 | .cond c a b=>.cond c (FC l N a) (FC l N b)
 | .block i c=>match Nat.beq i N with
  | true=>.goto 0
  | false=>.block i (FC l N c)
 | .label _=>.skip
 | .goto k=>match Nat.beq k l with
  | true=>.exit N
  | false=>.goto k
 | .exit i=>match Nat.beq i N with
  | true=>.goto 0
  | false=>.exit i
 | .loop _=>.goto 0
 | c=>c
def Yu (l N:Nat) (c:Code):Code:=.block N (.seq (FC l N c) .ret)
def FZ (l N:Nat):Code->Code
 | .seq a b=>match a with
  | .label k=>match Nat.beq k l with
   | true=>.loop (Yu l N b)
   | false=>.goto 0
  | a=>.seq a (FZ l N b)
 | _=>.goto 0
def Gb (l:Nat):Code->Option Code
 | .seq a b=>match a with
  | .label k=>match Nat.beq k l with
   | true=>some b
   | false=>none
  | _=>Gb l b
 | _=>none
section
variable {P:Program} {τ:List Ty} (hτ:TabOK P τ) {Γ:Cx}
def IH (l N:Nat):Ex->Exit
 | .ex i=>match Nat.beq i N with
  | true=>.goto l
  | false=>.exit i
 | e=>Kw e
theorem NH {l N j:Nat} (h:Nat.beq j N=true):IH l N (.ex j) = .goto l:=by simp only [IH,h]
theorem Lv {l N j:Nat} (h:Nat.beq j N=false):IH l N (.ex j) = .exit j:=by simp only [IH,h]
include hτ in
theorem Ahx (hm:P.follows .mixedOrders=true) (hΓ:Bu P Γ.base) (hΛ:Cr Γ) {l N:Nat}:∀ (c:Code) (id:Nat) (st:St) (r:Ex×St) (κ:Ax) (S:Nat->Prop) (a:Act) (w:World) (Q:Exit->Act->World->Prop),
  Rel Γ.base κ S st a w->(AA τ Γ (FC l N c) id st).sem=some r->(∀ κ' S' a' w',Rel Γ.base κ' S' r.2 a' w'->Ext κ S st.h w κ' S' r.2.h w'->Q (IH l N r.1) a' w')->c.wp P Q a w:=by
 intro c
 induction c with
 | skip =>intro id st r κ S a w Q hr h hw;have:=Ab h;subst this;exact wp_skip (hw κ S a w hr (Ext.refl _ _ _ _))
 | region i ops draw =>
  intro id st r κ S a w Q hr h hw;have hn:r.1 = .nm:=by
   simp only [FC,AA] at h;split at h
   ·obtain ⟨st',h1,h2⟩:=Ag h
    have:=Ab h2;subst this;rfl
   ·split at h
    ·split at h
     ·split at h
      ·obtain ⟨st1,h1,h3⟩:=Ag h
       obtain ⟨st',h4,h2⟩:=Ag h3;have:=Ab h2;subst this;rfl
      ·cases h
     ·obtain ⟨_,_,_,h⟩:=Ja h
      exact Ke h
    ·cases h
  refine NL (P:=P) hτ hm hΓ hΛ (.region i ops draw) id st r κ S a w Q hr h λκ' S' a' w' q1 q2=>?_;have:=hw κ' S' a' w' q1 q2;rw [hn] at this ⊢;exact this
 | seq x y ihx ihy =>
  intro id st r κ S a w Q hr h hw;obtain ⟨⟨e,st1⟩,h1,h2⟩:=Ag h;refine wp_seq (ihx id st (e,st1) κ S a w _ hr h1 ?_);intro κ' S' a' w' hr' he';cases e with
  | nm=>exact ihy id st1 r κ' S' a' w' Q hr' h2 λκ'' S'' a'' w'' q1 q2=>hw κ'' S'' a'' w'' q1 (he'.trans q2)
  | ex j =>
   have:=Ab h2;subst this;have:=hw κ' S' a' w' hr' he';revert this;show Q (IH l N (.ex j)) a' w'->Exit.then _ Q (IH l N (.ex j)) a' w';cases hb:Nat.beq j N with
   | true=>rw [NH hb]; exact λh=>h
   | false=>rw [Lv hb]; exact λh=>h
  | rt =>have:=Ab h2;subst this;exact hw κ' S' a' w' hr' he'
 | cond x t e iht ihe =>
  intro id st r κ S a w Q hr h hw;simp only [FC,AA] at h;split at h
  ·rename_i b hb
   have hx:=B7 hr.env hr.tmps x;rw [hb] at hx;have hx:=BA hx;cases b with
   | false=>exact wp_cond_false hx (ihe id st r κ S a w Q hr h hw)
   | true=>exact wp_cond_true hx (iht id st r κ S a w Q hr h hw)
  ·cases h
 | block i c ih =>
  intro id st r κ S a w Q hr h hw;simp only [FC] at h;split at h
  ·cases h
  ·rename_i hiN
   have hiN:i ≠ N:=Nat.ne_of_beq_eq_false hiN;obtain ⟨⟨e,st1⟩,h1,h2⟩:=Ag h;refine wp_block (ih i st (e,st1) κ S a w _ hr h1 ?_);intro κ' S' a' w' hr' he';cases e with
   | nm =>have:=Ab h2;subst this;exact hw κ' S' a' w' hr' he'
   | ex j =>
    simp only at h2;split at h2
    ·rename_i hj
     have hj:j=i:=Nat.eq_of_beq_eq_true hj;have:=Ab h2;subst this;have hjN:Nat.beq j N=false:=by
      cases hb:Nat.beq j N
      ·rfl
      ·exact absurd (hj ▸ Nat.eq_of_beq_eq_true hb) hiN
     show Exit.inBlock i Q (IH l N (.ex j)) a' w';rw [Lv hjN];show (if j=i then Q .normal a' w' else Q (.exit j) a' w')
     rw [if_pos hj];exact hw κ' S' a' w' hr' he'
    ·rename_i hj
     have hj:j ≠ i:=Nat.ne_of_beq_eq_false hj;have:=Ab h2;subst this;have:=hw κ' S' a' w' hr' he';revert this;show Q (IH l N (.ex j)) a' w'->Exit.inBlock i Q (IH l N (.ex j)) a' w';cases hb:Nat.beq j N with
     | true=>rw [NH hb]; exact λh=>h
     | false =>
      rw [Lv hb];intro h;show (if j=i then Q .normal a' w' else Q (.exit j) a' w')
      rw [if_neg hj];exact h
   | rt =>have:=Ab h2;subst this;exact hw κ' S' a' w' hr' he'
 | exit i =>
  intro id st r κ S a w Q hr h hw;simp only [FC] at h;split at h
  ·cases h
  ·rename_i hi
   have:=Ab h;subst this;have:=hw κ S a w hr (Ext.refl _ _ _ _);refine wp_exit ?_;rw [Lv hi] at this;exact this
 | label k =>intro id st r κ S a w Q hr h hw;have:=Ab h;subst this;exact wp_label (hw κ S a w hr (Ext.refl _ _ _ _))
 | goto k =>
  intro id st r κ S a w Q hr h hw;simp only [FC] at h;split at h
  ·rename_i hk
   have hk:k=l:=Nat.eq_of_beq_eq_true hk;have:=Ab h;subst this;have:=hw κ S a w hr (Ext.refl _ _ _ _);refine wp_goto ?_;rw [NH (Nat.beq_refl N)] at this;rw [hk];exact this
  ·cases h
 | ret =>intro id st r κ S a w Q hr h hw;have:=Ab h;subst this;exact wp_ret (hw κ S a w hr (Ext.refl _ _ _ _))
 | _ =>intro id st r κ S a w Q hr h hw;cases h
include hτ in
theorem Yt (hm:P.follows .mixedOrders=true) (hΓ:Bu P Γ.base) (hΛ:Cr Γ) {l N:Nat} {d:Code} {id:Nat} {st st1:St} {e:Ex} {κ:Ax} {S:Nat->Prop} {a:Act} {w:World} {J:Act->World->Prop} {Q:Exit->Act->World->Prop}
  (hr:Rel Γ.base κ S st a w) (h:(AA τ Γ (Yu l N d) id st).sem=some (e,st1)) (hQ:∀ a w,Q .ret a w->Q .normal a w)
  (hw:∀ κ' S' a' w',Rel Γ.base κ' S' st1 a' w'->Ext κ S st.h w κ' S' st1.h w'->match e with | .nm=>J a' w' | e=>Q (Kw e) a' w'):d.wp P (Exit.jump l J Q) a w:=by
 obtain ⟨⟨e1,st2⟩,h1,h2⟩:=Ag h;obtain ⟨⟨e0,st0⟩,h3,h4⟩:=Ag h1;refine Ahx (P:=P) hτ hm hΓ hΛ d N st (e0,st0) κ S a w _ hr h3 λκ' S' a' w' q1 q2=>?_;cases e0 with
 | nm =>have:=Ab h4;simp only [Prod.mk.injEq] at this;obtain ⟨rfl,rfl⟩:=this;have:=Ab h2;simp only [Prod.mk.injEq] at this;obtain ⟨rfl,rfl⟩:=this;exact hQ _ _ (hw κ' S' a' w' q1 q2)
 | rt =>have:=Ab h4;simp only [Prod.mk.injEq] at this;obtain ⟨rfl,rfl⟩:=this;have:=Ab h2;simp only [Prod.mk.injEq] at this;obtain ⟨rfl,rfl⟩:=this;exact hw κ' S' a' w' q1 q2
 | ex j =>
  have:=Ab h4;simp only [Prod.mk.injEq] at this;obtain ⟨rfl,rfl⟩:=this;simp only at h2;split at h2
  ·rename_i hj
   have:=Ab h2;simp only [Prod.mk.injEq] at this;obtain ⟨rfl,rfl⟩:=this;have:=hw κ' S' a' w' q1 q2;show Exit.jump l J Q (IH l N (.ex j)) a' w';rw [NH hj];exact ⟨rfl,this⟩
  ·rename_i hj
   have:=Ab h2;simp only [Prod.mk.injEq] at this;obtain ⟨rfl,rfl⟩:=this;have:=hw κ' S' a' w' q1 q2;show Exit.jump l J Q (IH l N (.ex j)) a' w';rw [Lv hj];exact this
include hτ in
theorem Ad2 (hm:P.follows .mixedOrders=true) (hΓ:Bu P Γ.base) (hΛ:Cr Γ) {l N:Nat} {c d:Code} (hl:findLabel c l=some (.seq .skip d)) {id:Nat} {Q:Exit->Act->World->Prop} (hQ:∀ a w,Q .ret a w->Q .normal a w) (b:Frame) (k:List Item) (cs:List Frame) :
  ∀ (st:St) (r:Ex×St),Z1 τ Γ (Yu l N d) id st r->∀ κ S a w,Rel Γ.base κ S st a w->VJ Γ κ S st.h w r Q ->
   ∃ e a' w',Q e a' w'∧Arrives P (lone (b.at a (.code d :: .inScope c::k)) cs w) b k cs e a' w':=by
 have hg:gotoIn l (.inScope c::k)=some (.code (.seq .skip d) :: .inScope c::k):=by simp [gotoIn,hl]
 intro st r hrun
 induction hrun with
 | stop h1 hne hle =>
  rename_i st st1 st2 e;intro κ S a w hr hw;obtain ⟨e',a₁,w₁,hq,harr⟩:=Yt (P:=P) hτ hm hΓ hΛ (J:=λ_ _=>False) hr h1 hQ (λκ' S' a' w' hr' he'=>by
   obtain ⟨κ2,S2,hr2,he2⟩:=hle κ' S' a' w' hr';have:=hw κ2 S2 a' w' hr2 (he'.trans he2);cases e with
   | nm=>exact absurd rfl hne
   | ex j=>exact this
   | rt=>exact this) b (.inScope c::k) cs
  cases e' with
  | normal=>exact ⟨.normal,a₁,w₁,hq,Steps.trans harr (.one step_inScope)⟩
  | exit id=>exact ⟨.exit id,a₁,w₁,hq,λk' hk=>harr k' (by simp [exitTo,hk])⟩
  | goto l'=>exact hq.2.elim
  | ret=>exact ⟨_,a₁,w₁,hq,harr⟩
  | panic ch=>exact ⟨_,a₁,w₁,hq,harr⟩
  | outgrown=>exact ⟨_,a₁,w₁,hq,harr⟩
 | next h1 hle _ ihr =>
  rename_i st st1 st2 r _;intro κ S a w hr hw;obtain ⟨e',a₁,w₁,hq,harr⟩:=Yt (P:=P) hτ hm hΓ hΛ (Q:=λ_ _ _=>False) (J:=λa' w'=>∃ κ' S',Rel Γ.base κ' S' st2 a' w'∧Ext κ S st.h w κ' S' st2.h w') hr h1 (λ_ _ h=>h) (λκ' S' a' w' hr' he'=>by
   obtain ⟨κ2,S2,hr2,he2⟩:=hle κ' S' a' w' hr';exact ⟨κ2,S2,hr2,he'.trans he2⟩) b (.inScope c::k) cs
  cases e' with
  | goto l' =>obtain ⟨rfl,κ2,S2,hr2,he2⟩:=hq;obtain ⟨e₂,a₂,w₂,hq₂,harr₂⟩:=ihr κ2 S2 a₁ w₁ hr2 (hw.ext he2);exact ⟨e₂,a₂,w₂,hq₂,.of_steps (Steps.trans (harr _ hg) (.head step_seq (.one step_skip))) harr₂⟩
  | normal=>exact hq.elim
  | exit id=>exact hq.elim
  | ret=>exact hq.elim
  | panic ch=>exact hq.elim
  | outgrown=>exact hq.elim
 | weak hle _ ihr =>intro κ S a w hr hw;obtain ⟨κ2,S2,hr2,he2⟩:=hle κ S a w hr;exact ihr κ2 S2 a w hr2 (hw.ext he2)
include hτ in
theorem Xb (hm:P.follows .mixedOrders=true) (hΓ:Bu P Γ.base) (hΛ:Cr Γ) {l N:Nat} {c0 d:Code} (hl:findLabel c0 l=some (.seq .skip d)) {Q:Exit->Act->World->Prop} (hQ:∀ a w,Q .ret a w->Q .normal a w) (b:Frame) (k:List Item) (cs:List Frame) :
  ∀ (c:Code) (id:Nat) (st:St) (r:Ex×St) (κ:Ax) (S:Nat->Prop) (a:Act) (w:World),Gb l c=some d->Rel Γ.base κ S st a w->(AA τ Γ (FZ l N c) id st).sem=some r->VJ Γ κ S st.h w r Q ->
   ∃ e a' w',Q e a' w'∧Arrives P (lone (b.at a (.code c :: .inScope c0::k)) cs w) b k cs e a' w':=by
 intro c
 induction c with
 | seq x y _ ih =>
  intro id st r κ S a w hd hr h hw;have plain:Gb l y=some d->(AA τ Γ (.seq x (FZ l N y)) id st).sem=some r->∃ e a' w',Q e a' w'∧Arrives P (lone (b.at a (.code (.seq x y) :: .inScope c0::k)) cs w) b k cs e a' w':=by
   intro hd h;obtain ⟨⟨e,st1⟩,h1,h2⟩:=Ag h;obtain ⟨e',a₁,w₁,hq,harr⟩:=NL (P:=P) hτ hm hΓ hΛ x id st (e,st1) κ S a w (λe' a' w'=>e'=Kw e∧∃ κ' S',Rel Γ.base κ' S' st1 a' w'∧Ext κ S st.h w κ' S' st1.h w') hr h1 (λκ' S' a' w' q1 q2=>⟨rfl,κ',S',q1,q2⟩) b (.code y :: .inScope c0::k) cs;obtain ⟨rfl,κ2,S2,hr2,he2⟩:=hq;cases e with
   | nm =>obtain ⟨e₂,a₂,w₂,hq₂,harr₂⟩:=ih id st1 r κ2 S2 a₁ w₁ hd hr2 h2 (hw.ext he2);exact ⟨e₂,a₂,w₂,hq₂,.of_steps (.head step_seq harr) harr₂⟩
   | ex j =>have:=Ab h2;subst this;exact ⟨.exit j,a₁,w₁,hw κ2 S2 a₁ w₁ hr2 he2,λk' hk=>.head step_seq (harr k' (by simp [exitTo,hk]))⟩
   | rt =>have:=Ab h2;subst this;exact ⟨.ret,a₁,w₁,hw κ2 S2 a₁ w₁ hr2 he2,.of_steps (.one step_seq) harr⟩
  cases x with
  | label j =>
   simp only [Gb] at hd;simp only [FZ] at h;split at hd
   ·rename_i hj
    rw [hj] at h;simp only [Option.some.injEq] at hd;subst hd;have hrun:LRunF Γ.base (λst=>AA τ Γ (Yu l N y) id st) st r:=hΛ _ _ _ _ h;cases hrun with
    | run hrun =>obtain ⟨e₂,a₂,w₂,hq₂,harr₂⟩:=Ad2 (P:=P) hτ hm hΓ hΛ hl hQ b k cs st r hrun κ S a w hr hw;exact ⟨e₂,a₂,w₂,hq₂,.of_steps (.head step_seq (.one step_label)) harr₂⟩
    | lend hle hp hrun ha =>
     obtain ⟨κ1,S1,hr1,he1⟩:=hle κ S a w hr;obtain ⟨κ0,hr0,hback⟩:=UN hr1 hp;obtain ⟨e₂,a₂,w₂,hq₂,harr₂⟩:=Ad2 (P:=P) hτ hm hΓ hΛ hl hQ b k cs _ _ hrun κ0 S1 a w hr0 λκ' S' a' w' hr' he'=>by
      obtain ⟨b1,b2⟩:=hback κ' S' a' w' _ hr' he' ha;exact hw κ1 S1 a' w' b1 (he1.trans b2)
     exact ⟨e₂,a₂,w₂,hq₂,.of_steps (.head step_seq (.one step_label)) harr₂⟩
   ·cases hd
  | _=>exact plain hd h
 | _ =>intro id st r κ S a w hd;cases hd
include hτ in
theorem AbL (hm:P.follows .mixedOrders=true) (hΓ:Bu P Γ.base) (hΛ:Cr Γ) {l N:Nat} {c d:Code} (hl:findLabel c l=some (.seq .skip d)) (hd:Gb l c=some d) {id:Nat} {st:St} {r:Ex×St} {κ:Ax} {S:Nat->Prop} {a:Act} {w:World} {Q:Exit->Act->World->Prop}
  (hQ:∀ a w,Q .ret a w->Q .normal a w) (hr:Rel Γ.base κ S st a w) (h:(AA τ Γ (FZ l N c) id st).sem=some r) (hw:VJ Γ κ S st.h w r Q):(Code.scope c).wp P Q a w:=by
 intro b k cs;obtain ⟨e₂,a₂,w₂,hq₂,harr₂⟩:=Xb (P:=P) hτ hm hΓ hΛ hl hQ b k cs c id st r κ S a w hd hr h hw;exact ⟨e₂,a₂,w₂,hq₂,.of_steps (.one step_scope) harr₂⟩
def KE (fn:Func) (c:Code):Func:={ fn with body:=some c }
include hτ in
theorem AdX (hm:P.follows .mixedOrders=true) (hΓ:Bu P Γ.base) (hΛ:Cr Γ) {l N:Nat} {f:FuncId} {fn:Func} {p c d:Code} (hf:P.funcs[f]? = some fn) (hb:fn.body=some (.seq p (.scope c))) (hl:findLabel c l=some (.seq .skip d)) (hd:Gb l c=some d)
  {κ:Ax} {S:Nat->Prop} {h:List Blk} {w:World} {vs:List V} {cs:List Value} {v:V} {h':List Blk}
  (hg:Good κ S h w) (hE:EB Γ.base S w) (hv:VRs S w vs κ cs) (he:(Aj τ Γ (KE fn (.seq p (FZ l N c))) vs h).sem=some (v,h')) :
  Calls P f cs.toArray w λe w'=>∃ c κ' S',e = .returned c∧Good κ' S' h' w'∧VR S' w' v κ' c∧Ext κ S h w κ' S' h' w':=by
 unfold Aj at he;obtain ⟨⟨e,st⟩,h1,h2⟩:=Ag he;refine calls_of_wp hf hb ?_;have hlen:=hv.length;have hr:Rel Γ.base κ S ⟨vs++NW (Nat.sub fn.ntmps vs.length),h⟩ { tmps:=cs.toArray++Array.replicate (fn.ntmps-cs.toArray.size) undef,defers:=[] } w:=by
  refine ⟨hg,hE,?_,rfl⟩;have:=hv.append (Md (S:=S) (w:=w) (κ:=κ) (Nat.sub fn.ntmps vs.length));have e2:Nat.sub fn.ntmps vs.length=fn.ntmps-cs.length:=by rw [hlen]; rfl
  rw [e2] at this ⊢;simpa using this
 have fin:∀ κ' S' a' w',Rel Γ.base κ' S' st a' w'->Ext κ S h w κ' S' st.h w'->J1 τ fn st=some v->st.h=h'->a'.defers=[]∧∃ u,(results fn a'.tmps).run P w' = .ok u w'∧∃ c κ' S',(Ending.returned u) = .returned c∧Good κ' S' h' w'∧VR S' w' v κ' c∧Ext κ S h w κ' S' h' w':=by
  intro κ' S' a' w' hr' he' q1 q2;subst q2;obtain ⟨u,q3,q4⟩:=QF (P:=P) hτ hr' q1;exact ⟨hr'.defers,u,q3,u,κ',S',rfl,hr'.good,q4,he'⟩
 obtain ⟨⟨e1,st1⟩,h3,h4⟩:=Ag h1;refine wp_seq (NL (P:=P) hτ hm hΓ hΛ p 0 _ (e1,st1) κ S _ w _ hr h3 ?_);intro κ1 S1 a1 w1 hr1 he1;have last:(e,st)=(e,st)->∀ κ' S' a' w',Rel Γ.base κ' S' st a' w'->Ext κ S h w κ' S' st.h w'->(bodyPost P fn λe w'=>∃ c κ' S',e = .returned c∧Good κ' S' h' w'∧VR S' w' v κ' c∧Ext κ S h w κ' S' h' w') (Kw e) a' w':=by
  intro _ κ' S' a' w' hr' he';cases e with
  | ex j=>cases h2
  | nm =>
   simp only at h2;split at h2
   ·rename_i u hu
    have:=Ab h2;simp only [Prod.mk.injEq] at this;obtain ⟨rfl,rfl⟩:=this;exact fin κ' S' a' w' hr' he' hu rfl
   ·cases h2
  | rt =>
   simp only at h2;split at h2
   ·rename_i u hu
    have:=Ab h2;simp only [Prod.mk.injEq] at this;obtain ⟨rfl,rfl⟩:=this;exact fin κ' S' a' w' hr' he' hu rfl
   ·cases h2
 cases e1 with
 | ex j =>have:=Ab h4;simp only [Prod.mk.injEq] at this;obtain ⟨rfl,rfl⟩:=this;exact last rfl κ1 S1 a1 w1 hr1 he1
 | rt =>have:=Ab h4;simp only [Prod.mk.injEq] at this;obtain ⟨rfl,rfl⟩:=this;exact last rfl κ1 S1 a1 w1 hr1 he1
 | nm=>exact AbL (P:=P) hτ hm hΓ hΛ hl hd (λ_ _ h=>h) hr1 h4 λκ' S' a' w' hr' he'=>last rfl κ' S' a' w' hr' (he1.trans he')
end
theorem Qn {P:Program} {τ:List Ty} (hτ:TabOK P τ) (hm:P.follows .mixedOrders=true) {Γ:Cx} (hΓ:Bu P Γ.base) (hΛ:Cr Γ) {l N:Nat} {f:FuncId} {fn:Func} {p c d:Code} (hf:P.funcs[f]? = some fn)
  (hb:fn.body=some (.seq p (.scope c))) (hl:findLabel c l=some (.seq .skip d)) (hd:Gb l c=some d) (hn:fn.name ≠ "runtime.NumGoroutine"):Ap P Γ.glob f λvs=>A0 (Aj τ Γ (KE fn (.seq p (FZ l N c))) vs []):=by
 refine ⟨⟨fn,hf,hn,by rw [hb]; rfl⟩,λvs cs S w v h' hS hE hv he=>?_⟩;obtain ⟨⟨v1,h1⟩,q1,q2⟩:=Ag he;have q2:=DR q2;refine ⟨Gd q2,(AdX (P:=P) hτ hm hΓ hΛ hf hb hl hd (Good.empty hS) hE hv q1).mono ?_⟩
 rintro e w' ⟨u,κ',S',rfl,g1,g2,g3⟩
 obtain ⟨κ2,p1,p2,p3⟩:=Sz g1 g2 q2;refine ⟨u,κ2,S',rfl,p1,p2,Ext.ofNil g3.os g3.tape g3.output g3.size g3.keep (λi b hb=>?_) g3.sub g3.sup (Gd q2)⟩;obtain ⟨j,hj⟩:=p3 i b hb;exact g3.own j b hj
def Vk (l N:Nat) (fn:Func):Func :=
 match fn.body with
 | some (.seq p (.scope c))=>KE fn (.seq p (FZ l N c))
 | _=>fn
theorem U5 {P:Program} {τ:List Ty} (hτ:TabOK P τ) (hm:P.follows .mixedOrders=true) {f:FuncId} {fn:Func} (hf:P.funcs[f]? = some fn) (l N:Nat) {p c d:Code}
  (hb:fn.body=some (.seq p (.scope c))) (hd:Gb l c=some d) (hl:findLabel c l=some (.seq .skip d)) (hn:(fn.name == "runtime.NumGoroutine")=false) {G:Nat->V} {F:List V->A5}
  (h:∀ vs v h',(F vs).sem=some (v,h')->∃ vs' Γ h'',Ba vs vs'∧Γ.glob=G∧Bu P Γ.base∧Cr Γ∧(A0 (Aj τ Γ (Vk l N fn) vs' [])).sem=some (v,h'')∧Am h'' h'):Ap P G f F:=by
 have hn:fn.name ≠ "runtime.NumGoroutine":=by simpa using hn
 have hF:Vk l N fn=KE fn (.seq p (FZ l N c)):=by
  unfold Vk;simp only [hb]
 refine ⟨⟨fn,hf,hn,by rw [hb]; rfl⟩,λvs cs S w v h' hS hE hv he=>?_⟩;obtain ⟨vs',Γ,h'',h1,h2,h3,hΛ,h4,h5⟩:=h vs v h' he;subst h2;rw [hF] at h4;obtain ⟨hr,hc⟩:=(Qn hτ hm h3 hΛ hf hb hl hd hn).2 vs' cs S w v h'' hS hE (h1 S w cs hv) h4;refine ⟨h5.rows hr,hc.mono ?_⟩
 rintro e w' ⟨u,κ',S',rfl,g1,g2,g3⟩
 obtain ⟨p1,p2⟩:=h5.good g1;refine ⟨u,κ',S',rfl,p1,g2,Ext.ofNil g3.os g3.tape g3.output g3.size g3.keep (λi b hb=>?_) g3.sub g3.sup (h5.rows hr)⟩;rw [p2] at hb;exact g3.own i b hb
end Go.Sy
namespace Go.Sy
def AjF (P:Program) (G:Nat->V) (f:FuncId) (M:List V->List Blk->A5):Prop :=
 ∀ vs cs κ S h w v h',Good κ S h w->TQ G S w->VRs S w vs κ cs->(M vs h).sem=some (v,h') ->
  LY P f cs w λe w'=>∃ c κ' S',e = .returned c∧Good κ' S' (after h h') w'∧VR S' w' v κ' c∧Ext κ S h w κ' S' (after h h') w'∧Z3 κ κ' w w' h'
def Qh (P:Program) (G:Nat->V) (mt:List (Nat×(List V->List Blk->A5))):Prop:=∀ p,p ∈ mt->AjF P G p.1 p.2
theorem Qh.nil {P:Program} {G:Nat->V}:Qh P G []:=λ_ h=>by cases h
theorem Qh.cons {P:Program} {G:Nat->V} {f:Nat} {M:List V->List Blk->A5} {mt:List (Nat×(List V->List Blk->A5))} (h:AjF P G f M) (ht:Qh P G mt):Qh P G ((f,M)::mt):=λp hp=>by
 rcases List.mem_cons.1 hp with rfl | hp
 ·exact h
 ·exact ht p hp
section
variable {P:Program} {τ:List Ty} (hτ:TabOK P τ) (hm:P.follows .mixedOrders=true) {G:Nat->V} {f:FuncId} {fn:Func} {e s:Nat}
include hτ hm in
include hτ hm in
end
end Go.Sy
namespace Go.Sy
end Go.Sy
