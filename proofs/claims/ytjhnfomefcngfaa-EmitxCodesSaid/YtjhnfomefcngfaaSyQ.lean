/-
  From the evaluator to a law's row: functions said otherwise, arguments and tables read, a law's walk. Conditions: as before.
-/
import Derived.Test.YtjhnfomefcngfaaSyP
import Derived.ProofKit
import Derived.Carry
import Derived.SizedLaws
import Derived.FnData
import Derived.Lib.LaidTab
namespace Go.Sy
def Bp (vs vs':List V):Prop:=∀ S w cs,VRs S w vs noK cs->VRs S w vs' noK cs
theorem Bp.refl (vs:List V):Bp vs vs:=λ_ _ _ h=>h
inductive SayB:Blk->Blk->Prop where
 | same (b:Blk):SayB b b
 | row {e s n:Nat} {g g':Nat->V}:(∀ j,j < n->g' j = g j)->SayB (.row e s n g) (.row e s n g')
 | jag {j:Jag} {get':Nat->V} {live':Nat->Bool} {len':Nat->Nat} {mem':Nat->Nat->V}:(∀ k,k < j.n->get' k = j.get k ∨ get' k = .und)->(∀ k,k < j.n->live' k = j.live k)->(∀ k,k < j.n->len' k = j.len k) ->
   (∀ k,k < j.n->∀ q,q < j.len k->mem' k q = j.mem k q)->SayB (.jag j) (.jag { j with get:=get',live:=live',len:=len',mem:=mem' })
theorem SayB.inB {b b':Blk} (h:SayB b b') (v:Option Value) (g:Nat):inBlk v g b' ↔ inBlk v g b:=by cases h <;> exact Iff.rfl
theorem SayB.isRow {b b':Blk} (h:SayB b b') (hb:Gv b):Gv b':=by
 cases h with
 | same=>exact hb
 | row _=>exact .inl ⟨_,_,_,_,rfl⟩
 | jag _ _ _ _=>exact .inr ⟨_,rfl⟩
theorem Adv {S:Nat->Prop} {w:World} {κ:Nat->Option Value} {v:Option Value} {j:Jag} {get':Nat->V} {live':Nat->Bool} {len':Nat->Nat} {mem':Nat->Nat->V} (h1:∀ k,k < j.n->get' k = j.get k ∨ get' k = .und) (h2:∀ k,k < j.n->live' k = j.live k)
  (h3:∀ k,k < j.n->len' k = j.len k) (h4:∀ k,k < j.n->∀ q,q < j.len k->mem' k q = j.mem k q) (hB:AT S w κ v (.jag j)):AT S w κ v (.jag { j with get:=get',live:=live',len:=len',mem:=mem' }):=by
 obtain ⟨c,ms,xs,q1,z1,z2,z3,z4,z5,z6,z7,z8,z9⟩:=hB
 refine ⟨c,ms,xs,q1,z1,z2,z3,z4,z5,z6,λk hk=>?_,λk m hm=>?_,z9⟩
 ·show ∃ ci,VR S w (get' k) noK ci ∧ _
  rcases h1 k hk with he | he
  ·rw [he]
   exact z7 k hk
  ·rw [he]
   obtain ⟨ci,_,hr⟩:=z7 k hk
   exact ⟨ci,trivial,hr⟩
 ·have hk:k < j.n:=by rw [<- z4]; exact (Array.getElem?_eq_some_iff.1 hm).1
  have:=z8 k m hm
  unfold HC at this ⊢
  show (match live' k with | true=>_ | false=>_)
  rw [h2 k hk]
  split
  ·rename_i hlv
   rw [hlv] at this
   obtain ⟨y1,ys,y2,y3⟩:=this
   refine ⟨y1,ys,by show w.ownsRow 0 j.e' j.s' m (len' k) ys; rw [h3 k hk]; exact y2,?_⟩
   show Ck S w j.s' (len' k) (mem' k) ys
   rw [h3 k hk]
   exact λq hq=>by rw [h4 k hk q hq]; exact y3 q hq
  ·rename_i hlv
   rw [hlv] at this
   exact this
theorem SayB.holds {b b':Blk} (h:SayB b b') {S:Nat->Prop} {w:World} {κ:Nat->Option Value} {v:Option Value} (hB:AT S w κ v b):AT S w κ v b':=by
 cases h with
 | same=>exact hB
 | row h =>
  obtain ⟨q0,c,xs,q1,q2,q3⟩:=hB
  exact ⟨q0,c,xs,q1,q2,λk hk=>by rw [h k hk]; exact q3 k hk⟩
 | jag h1 h2 h3 h4=>exact Adv h1 h2 h3 h4 hB
def A8 (h h':List Blk):Prop:=h.length = h'.length ∧ ∀ (i:Nat) (b:Blk),h[i]? = some b->∃ b',h'[i]? = some b' ∧ SayB b b'
theorem A8.refl (h:List Blk):A8 h h:=⟨rfl,λ_ b hi=>⟨b,hi,.same b⟩⟩
theorem A8.consB {b b':Blk} {l l':List Blk} (h:SayB b b') (hl:A8 l l'):A8 (b :: l) (b' :: l'):=by
 refine ⟨by simp [hl.1],λi b1 hi=>?_⟩
 cases i with
 | zero =>
  simp at hi
  subst hi
  exact ⟨b',rfl,h⟩
 | succ i=>simpa using hl.2 i b1 (by simpa using hi)
theorem A8.cons {e s n:Nat} {g g':Nat->V} {l l':List Blk} (h:∀ j,j < n->g' j = g j) (hl:A8 l l'):A8 (Blk.row e s n g :: l) (Blk.row e s n g' :: l'):=.consB (.row h) hl
theorem A8.one {e s n:Nat} {g g':Nat->V} (h:∀ j,j < n->g' j = g j):A8 [Blk.row e s n g] [Blk.row e s n g']:=.cons h (.refl [])
theorem A8.rows {h h':List Blk} (hh:A8 h h') (hr:M6 h):M6 h':=by
 intro i b hb
 have hl:i < h.length:=by rw [hh.1]; exact (List.getElem?_eq_some_iff.1 hb).1
 obtain ⟨b',h1,h2⟩:=hh.2 i _ (List.getElem?_eq_getElem hl)
 rw [h1] at hb
 simp only [Option.some.injEq] at hb
 subst hb
 exact h2.isRow (hr i _ (List.getElem?_eq_getElem hl))
theorem A8.good {h h':List Blk} (hh:A8 h h') {κ:Nat->Option Value} {S:Nat->Prop} {w:World} (hg:Good κ S h w):Good κ S h' w ∧ ∀ i k,AH κ h' i k ↔ AH κ h i k:=by
 have hown:∀ i k,AH κ h' i k ↔ AH κ h i k:=by
  intro i k
  cases hi:h[i]? with
  | none =>
   have:h'[i]? = none:=by
    rw [List.getElem?_eq_none_iff] at hi ⊢
    rw [<- hh.1]; exact hi
   exact ⟨λq=>absurd q (Dt this),λq=>absurd q (Dt hi)⟩
  | some b =>
   obtain ⟨b',h1,h2⟩:=hh.2 i b hi
   rw [AB hi,AB h1]
   exact h2.inB _ _
 refine ⟨⟨?_,?_,?_,?_⟩,hown⟩
 ·intro i b hb
  have hl:i < h.length:=by rw [hh.1]; exact (List.getElem?_eq_some_iff.1 hb).1
  obtain ⟨b',h1,h2⟩:=hh.2 i _ (List.getElem?_eq_getElem hl)
  rw [h1] at hb
  simp only [Option.some.injEq] at hb
  subst hb
  exact h2.holds (hg.blk i _ (List.getElem?_eq_getElem hl))
 ·intro i j g hij hi hj
  rw [hown] at hi hj
  exact hg.sep i j g hij hi hj
 ·intro b hb
  exact ⟨(hg.out b hb).1,λi hi=>(hg.out b hb).2 i ((hown i b).1 hi)⟩
 ·intro i hi
  exact hg.dom i (by rw [hh.1]; exact hi)
theorem Av {P:Program} {τ:List Ty} (hτ:TabOK P τ) (hm:P.follows .mixedOrders = true) {f:FuncId} {fn:Func} (hf:P.funcs[f]? = some fn)
  (hb:fn.body.isSome = true) (hn:(fn.name == "runtime.NumGoroutine") = false) {G:Nat->V} {F:List V->T (V × List Blk)}
  (h:∀ vs v h',(F vs).sem = some (v,h')->∃ vs' Γ h'',Bp vs vs' ∧ Γ.glob = G ∧ Bk P Γ.base ∧ BM Γ ∧ (Ar (Ai τ Γ fn vs' [])).sem = some (v,h'') ∧ A8 h'' h'):A7 P G f F:=by
 obtain ⟨c,hb⟩:=Option.isSome_iff_exists.1 hb
 have hn:fn.name ≠ "runtime.NumGoroutine":=by simpa using hn
 refine ⟨⟨fn,hf,hn,by rw [hb]; rfl⟩,λvs cs S w v h' hS hE hv he=>?_⟩
 obtain ⟨vs',Γ,h'',h1,h2,h3,hΛ,h4,h5⟩:=h vs v h' he
 subst h2
 obtain ⟨hr,hc⟩:=(Jo hτ hm h3 hΛ hf hb hn).2 vs' cs S w v h'' hS hE (h1 S w cs hv) h4
 refine ⟨h5.rows hr,hc.mono ?_⟩
 rintro e w' ⟨u,κ',S',rfl,g1,g2,g3⟩
 obtain ⟨p1,p2⟩:=h5.good g1
 refine ⟨u,κ',S',rfl,p1,g2,Ext.ofNil g3.os g3.tape g3.output g3.size g3.keep (λi b hb=>?_) g3.sub g3.sup (h5.rows hr)⟩
 rw [p2] at hb
 exact g3.own i b hb
theorem AP {P:Program} {τ:List Ty} (hτ:TabOK P τ) (hm:P.follows .mixedOrders = true) {f:FuncId} {fn:Func} (hf:P.funcs[f]? = some fn)
  (hb:fn.body.isSome = true) (hn:(fn.name == "runtime.NumGoroutine") = false) {Γ:Cx} (hΓ:Bk P Γ.base ∧ BM Γ):A7 P Γ.glob f λvs=>Ar (Ai τ Γ fn vs []):=by
 obtain ⟨c,hb⟩:=Option.isSome_iff_exists.1 hb
 exact Jo hτ hm hΓ.1 hΓ.2 hf hb (by simpa using hn)
def Lh (W:World):Nat->Prop:=λb=>b < W.heap.size
theorem Qj {P:Program} {G:Nat->V} {f:FuncId} {F:List V->T (V × List Blk)} (hp:A7 P G f F) {vs:List V} {cs:List Value} {W:World} {h':List Blk} (hE:RK G (Lh W) W)
  (hv:VRs (Lh W) W vs noK cs) (he:(F vs).sem = some (bV true,h')):Calls P f cs.toArray W λe w'=>e = .returned (.bool true) ∧ RowKit.Below W.heap.size W w':=by
 refine (hp.2 vs cs (Lh W) W _ h' (λ_ h=>h) hE hv he).2.mono ?_
 rintro e w' ⟨c,κ',S',rfl,_,g2,g3⟩
 have g2:c = .bool true:=g2
 subst g2
 exact ⟨rfl,g3.os,g3.tape,g3.output,g3.size,λk hk=>g3.keep k hk (λi=>D1 _ _ _)⟩
theorem Na {w:World} {a:Addr} {v:Value} (h:w.cell? a = some v):a.block < w.heap.size:=by
 rcases Nat.lt_or_ge a.block w.heap.size with hl | hl
 ·exact hl
 ·simp [World.cell?,Array.getElem?_eq_none hl] at h
def AV (loops:List (Nat × Lp)) (id:Nat) (f:St->T (Ex × St)) (st:St):T (Ex × St) :=
 match Ku id loops with
 | some l=>A4 f l l.fuel st
 | none=>.fail
def AI (G:Nat->V) (tbl:List (Nat × (List V->T (V × List Blk)))) (loops:List (Nat × Lp)):Cx:=⟨Am tbl,AV loops,G⟩
theorem AO {P:Program} {G:Nat->V} {tbl:List (Nat × (List V->T (V × List Blk)))} (h:AA P G tbl) (loops:List (Nat × Lp)):Bk P (AI G tbl loops).base ∧ BM (AI G tbl loops) :=
 ⟨DW rfl h,λid f st r hr=>by
  have hr:(AV loops id f st).sem = some r:=hr
  unfold AV at hr
  split at hr
  ·exact ⟨_,_,_,LE.refl _,hr⟩
  ·cases hr⟩
def T.path {α:Type}:List Bool->T α->Option (List Bool × α)
 | [],.leaf a=>some ([],a)
 | true :: ds,.br b x _=>match T.path ds x with
  | some (cs,a)=>some (b :: cs,a)
  | none=>none
 | false :: ds,.br b _ y=>match T.path ds y with
  | some (cs,a)=>some (b :: cs,a)
  | none=>none
 | _,_=>none
theorem AM {α:Type}:∀ {ds cs:List Bool} {t:T α} {a:α},T.path ds t = some (cs,a)->cs = ds->t.sem = some a
 | [],cs,.leaf a,r,h,_=>by
  simp [T.path] at h
  rw [h.2]; rfl
 | true :: ds,cs,.br b x y,r,h,hc=>by
  simp only [T.path] at h
  split at h
  ·rename_i cs' a' hp
   simp only [Option.some.injEq,Prod.mk.injEq] at h
   obtain ⟨rfl,rfl⟩:=h
   simp only [List.cons.injEq] at hc
   obtain ⟨rfl,hc⟩:=hc
   show sel true x.sem y.sem = _
   exact AM hp hc
  ·cases h
 | false :: ds,cs,.br b x y,r,h,hc=>by
  simp only [T.path] at h
  split at h
  ·rename_i cs' a' hp
   simp only [Option.some.injEq,Prod.mk.injEq] at h
   obtain ⟨rfl,rfl⟩:=h
   simp only [List.cons.injEq] at hc
   obtain ⟨rfl,hc⟩:=hc
   show sel false x.sem y.sem = _
   exact AM hp hc
  ·cases h
 | [],_,.br _ _ _,_,h,_=>by simp [T.path] at h
 | [],_,.fail,_,h,_=>by simp [T.path] at h
 | true :: _,_,.leaf _,_,h,_=>by simp [T.path] at h
 | false :: _,_,.leaf _,_,h,_=>by simp [T.path] at h
 | true :: _,_,.fail,_,h,_=>by simp [T.path] at h
 | false :: _,_,.fail,_,h,_=>by simp [T.path] at h
structure Kn where
 b:Bool
 c:Bool
 h:b = c
theorem spath_of {α:Type} {t:T α} {v:α} (ds cs:List Bool) (h:t.path ds = some (cs,v)) (hc:cs = ds):t.sem = some v:=AM h hc
def kn {b c:Bool} (h:b = c):Kn:=⟨b,c,h⟩
def kT:Kn:=⟨true,true,rfl⟩
def kF:Kn:=⟨false,false,rfl⟩
def kN (k:Kn):Kn:=⟨AG k.b,AG k.c,congrArg AG k.h⟩
def kA (k l:Kn):Kn:=⟨Ak k.b l.b,Ak k.c l.c,by rw [k.h,l.h]⟩
def kO (k l:Kn):Kn:=⟨bor k.b l.b,bor k.c l.c,by rw [k.h,l.h]⟩
def kB (k l:Kn):Kn:=⟨JM k.b l.b,JM k.c l.c,by rw [k.h,l.h]⟩
def kI (x:Int):Kn:=⟨ieq x x,true,by simp [ieq]⟩
def kJ (n:Nat):Kn:=⟨AD n n,true,Nat.beq_refl n⟩
theorem Aa {α:Type} {ks:List Kn} {t:T α} {a:α} (h:T.path (ks.map Kn.c) t = some (ks.map Kn.b,a)):t.sem = some a :=
 AM h (by
  clear h
  induction ks with
  | nil=>rfl
  | cons k ks ih=>rw [List.map_cons,List.map_cons,k.h,ih])
theorem XK {f:St->T (Ex × St)} {l:Lp} {m:Nat} {st st1:St} (h:(f st).sem = some (.nm,st1)):(A4 f l (m+1) st).sem = (A4 f l m (KN l.ks l.n st1)).sem:=by
 show ((f st).bind _).sem = _
 rw [De,h]
theorem XI {f:St->T (Ex × St)} {l:Lp} {m:Nat} {st st1:St} {e:Ex} (he:e ≠ .nm) (h:(f st).sem = some (e,st1)):(A4 f l (m+1) st).sem = some (e,KN l.ke l.ne st1):=by
 show ((f st).bind _).sem = _
 rw [De,h]
 cases e with
 | nm=>exact absurd rfl he
 | ex i=>rfl
 | rt=>rfl
theorem XJ {f:St->T (Ex × St)} {l:Lp} {m:Nat} {st st2:St} {ds cs:List Bool} (h:((f st).bind λr=>T.leaf (r.1,KN l.ks l.n r.2)).path ds = some (cs,(.nm,st2))) (hc:cs = ds) :
  (A4 f l (m+1) st).sem = (A4 f l m st2).sem:=by
 obtain ⟨⟨e,st1⟩,h1,h2⟩:=An (AM h hc)
 have:=Ac h2
 simp only [Prod.mk.injEq] at this
 obtain ⟨rfl,rfl⟩:=this
 exact XK h1
theorem SY {f:St->T (Ex × St)} {l:Lp} {m:Nat} {st st2:St} {e:Ex} {ds cs:List Bool} (h:((f st).bind λr=>T.leaf (r.1,KN l.ke l.ne r.2)).path ds = some (cs,(e,st2))) (hc:cs = ds) (he:e ≠ .nm) :
  (A4 f l (m+1) st).sem = some (e,st2):=by
 obtain ⟨⟨e',st1⟩,h1,h2⟩:=An (AM h hc)
 have:=Ac h2
 simp only [Prod.mk.injEq] at this
 obtain ⟨rfl,rfl⟩:=this
 exact XI he h1
theorem OV {τ:List Ty} {call:FuncId->List V->St->T (V × Res)} {G:Nat->V} {fn:Func} {vs:List V} {L L':Nat->(St->T (Ex × St))->St->T (Ex × St)}
  (h:∀ id f f' st,(∀ st,(f st).sem = (f' st).sem)->(L id f st).sem = (L' id f' st).sem):(Ar (Ai τ ⟨call,L,G⟩ fn vs [])).sem = (Ar (Ai τ ⟨call,L',G⟩ fn vs [])).sem:=by
 refine Dd ?_ λ_=>rfl
 unfold Ai
 cases fn.body with
 | none=>rfl
 | some c=>exact Dd (Tu (Γ:=⟨call,L,G⟩) h c 0 _) λ_=>rfl
theorem Ta {f f':St->T (Ex × St)} (h:∀ st,(f st).sem = (f' st).sem) (l:Lp):∀ (m:Nat) (st:St),(A4 f l m st).sem = (A4 f' l m st).sem
 | 0,_=>rfl
 | m+1,st=>by
  refine Dd (h st) λr=>?_
  cases r.1 with
  | nm=>exact Ta h l m _
  | ex i=>rfl
  | rt=>rfl
def gI:V->Option Int
 | .val (.int .i64 n)=>some n
 | _=>none
def gB:V->Option Bool
 | .val (.bool b)=>some b
 | _=>none
def gS:V->Option (List UInt8)
 | .str l=>some l
 | _=>none
theorem FZ {v:V} {n:Int} (h:gI v = some n):v = iV n:=by
 unfold gI at h
 split at h
 ·simp at h; subst h; rfl
 ·cases h
theorem Ro {v:V} {b:Bool} (h:gB v = some b):v = bV b:=by
 unfold gB at h
 split at h
 ·simp at h; subst h; rfl
 ·cases h
theorem Ad1 {v:V} {l:List UInt8} (h:gS v = some l):v = .str l:=by
 unfold gS at h
 split at h
 ·simp at h; subst h; rfl
 ·cases h
theorem GT {α:Type} {f g:Nat->α} {n:Nat} (h:(List.range n).map f = (List.range n).map g) (k:Nat) (hk:k < n):f k = g k:=by
 have:=congrArg (·[k]?) h
 simpa [hk] using this
section
variable {H:Type} {enc:TypeId × Value->H} {P:Program} {W:World} {sp:Nat->Bool} {held:Bool} {r:Reach} {b0:Nat} {t e:TypeId} {v:Value} {d:DataW H} {ps:List MemPlace}
theorem read_agg {α:Type} {f:α->List Value} {fs:Array Field} (ht:P.underlying t = some (.struct fs))
  (hel:∀ fuel cs x,DataW.trod enc P W 0 sp held fuel t cs = some x->∃ a:α,cs = f a) (hval:Value.okWide P W r b0 t v) (hd:DataW.Trod enc P W 0 sp held t v d ps):∃ a:α,v = .agg (f a).toArray:=by
 obtain ⟨cs,rfl,_⟩:=WideShapes.okWide_struct ht hval
 obtain ⟨fuel,hf⟩:=hd
 obtain ⟨a,ha⟩:=hel fuel _ _ hf
 simp only [Value.cells] at ha
 exact ⟨a,by rw [<- ha]⟩
theorem read_slice {α:Type} [Inhabited α] {f:α->List Value} {g:α->V} {s:Nat} (ht:P.underlying t = some (.slice e)) (hs:P.cellsOf e = s) (hs0:0 < s) (hone:∀ a,∀ u ∈ f a,u.oneCell' = true)
  (hg:∀ (S:Nat->Prop) (w:World) a,∃ ci,VR S w (g a) noK ci ∧ ci.cells.toList = f a)
  (hel:∀ fuel cs x,DataW.trod enc P W 0 sp held fuel e cs = some x->∃ a:α,cs = f a) (hval:Value.okWide P W r b0 t v) (hd:DataW.Trod enc P W 0 sp held t v d ps) :
  ∃ (n:Nat) (xs:Nat->α),VR (Lh W) W (.sl s n λi=>g (xs i)) noK v ∧ (n = 0 ∨ ∃ els rest,d = .slice els rest ∧ els.length = n):=by
 obtain ⟨a,len,cap,rfl⟩:=WideShapes.okWide_slice ht hval
 obtain ⟨fuel,hf⟩:=hd
 rcases DataW.trod_slice ht hf with ⟨hcs,_⟩ | ⟨a',len',cap',elems,rest,n,_,hcs,hx,_,hl,_,hlen,hE,_,_⟩
 ·simp [Value.cells] at hcs
  obtain ⟨rfl,rfl,rfl⟩:=hcs
  exact ⟨0,λ_=>default,⟨none,0,rfl,Nat.le_refl _,.inl rfl⟩,.inl rfl⟩
 ·simp [Value.cells] at hcs
  obtain ⟨rfl,rfl,rfl⟩:=hcs
  simp only [Prod.mk.injEq] at hx
  have hex:∀ i,i < len->∃ x:α,W.cells? 0 (a'.add (i * s)) s = some (f x):=by
   intro i hi
   have:=hE i hi
   have hi':i < elems.length:=by omega
   rw [List.getElem?_eq_getElem hi',Option.bind_eq_some_iff,hs] at this
   obtain ⟨cs,h1,h2⟩:=this
   obtain ⟨x,rfl⟩:=hel _ _ _ h2
   exact ⟨x,h1⟩
  refine ⟨len,λi=>if h:i < len then (hex i h).choose else default,⟨some a',cap,rfl,hl,?_⟩,.inr ⟨_,_,hx.1,by simp [hlen]⟩⟩
  by_cases hz:len = 0
  ·exact .inl hz
  right
  obtain ⟨b,off,spot⟩:=a'
  have hspot:spot = none:=by
   have:=(World.cells?_some (hex 0 (by omega)).choose_spec)
   have h2:=this.2.2 0 (by omega)
   have hl:0 < (f (hex 0 (by omega)).choose).length:=by omega
   rw [List.getElem?_eq_getElem hl] at h2
   simpa [Addr.add] using World.cell?_spot h2
  subst hspot
  refine ⟨b,off,rfl,λi hi=>?_⟩
  have hc:=World.cells?_some (hex i hi).choose_spec
  obtain ⟨ci,q1,q2⟩:=hg (Lh W) W (hex i hi).choose
  refine ⟨ci,by simp only [hi,dif_pos]; exact q1,?_,?_,?_⟩
  ·rw [<- Array.length_toList,q2]; exact hc.2.1
  ·rw [q2]; exact hone _
  ·rw [q2]
   intro j u hj
   have hjs:j < s:=by
    have:=(List.getElem?_eq_some_iff.1 hj).1
    have h3:=hc.2.1
    omega
   have:=hc.2.2 j hjs
   rw [hj] at this
   have e1:((⟨b,off,none⟩:Addr).add (i * s)).add j = ⟨b,off+i * s+j,none⟩:=by
    rw [Cj,Cj]
   rw [e1] at this
   exact ⟨Na this,this⟩
end
theorem RQ {H:Type} {enc:TypeId × Value->H} {P:Program} {w:World} {base:Nat} {sp:Nat->Bool} {held:Bool} {fuel:Nat} {t e:TypeId} {n:Nat} {cs:List Value} {zs:List (List UInt8)} {p:List MemPlace}
  (ht:P.underlying t = some (.array n e)) (he:P.underlying e = some .string) (hce:P.cellsOf e = 1) (hct:P.cellsOf t = n)
  (h:DataW.trod enc P w base sp held fuel t cs = some (.agg (zs.map λz=>.lit (.string z)),p)):cs = zs.map λz=>Value.string ⟨z.toArray⟩:=by
 cases fuel with
 | zero=>simp [DataW.trod] at h
 | succ fuel =>
  simp only [DataW.trod,ht,hce,hct,Nat.mul_one] at h
  split at h
  ·rename_i hl
   obtain ⟨xs,hm,hx⟩:=Option.map_eq_some_iff.1 h
   have hxs:xs.map (·.1) = zs.map λz=>(DataW.lit (.string z):DataW H):=by
    have:=congrArg Prod.fst hx
    simpa using this
   have hxl:xs.length = n:=by simpa using Lib.mapM_length hm
   have hzl:zs.length = n:=by
    have:=congrArg List.length hxs
    simp at this
    omega
   apply List.ext_getElem?
   intro i
   by_cases hi:i < n
   ·obtain ⟨b,hb,hf⟩:=Lib.mapM_at hm i i (by simp [hi])
    obtain ⟨z,hc,rfl,_⟩:=DataW.trod_string he hf
    have h1:cs[i]? = some (.string z):=by
     have:=congrArg (·[0]?) hc
     simpa [List.getElem?_take,List.getElem?_drop] using this
    have h2:(xs.map (·.1))[i]? = some (DataW.lit (.string z.data.toList):DataW H):=by simp [hb]
    rw [hxs] at h2
    simp only [List.getElem?_map,Option.map_eq_some_iff,DataW.lit.injEq,Lit.string.injEq] at h2
    obtain ⟨z',hz',rfl⟩:=h2
    simp [h1,hz']
   ·rw [List.getElem?_eq_none (by omega),List.getElem?_eq_none (by simp; omega)]
  ·cases h
def Y6 (zs:List (List UInt8)):V:=.pp (.agg (zs.map V.str))
theorem LZ {S:Nat->Prop} {w:World} {κ:Nat->Option Value}:∀ zs:List (List UInt8),VRs S w (zs.map V.str) κ (zs.map λz=>Value.string ⟨z.toArray⟩)
 | []=>rfl
 | z :: zs=>⟨.string ⟨z.toArray⟩,zs.map λz=>Value.string ⟨z.toArray⟩,rfl,rfl,LZ zs⟩
theorem texts_ok {P:Program} {W:World} {name:String} {zs:List (List UInt8)} {g:Nat} {t e:TypeId} {n:Nat} {ps:List MemPlace} {rest:List (String × DataW Unit)}
  (hg:P.globalNamed name = some g) (hty:(P.globals[g]?).map (·.type) = some t) (ht:P.underlying t = some (.array n e)) (he:P.underlying e = some .string) (hce:P.cellsOf e = 1) (hct:P.cellsOf t = n)
  (h:DataW.LaidVars P W ((name,.agg (zs.map λz=>.lit (.string z))) :: rest) ps) :
  VR (Lh W) W (Y6 zs) noK (.pointer (some ⟨g,0,none⟩)) ∧ ∃ qs,DataW.LaidVars P W rest qs:=by
 obtain ⟨g',t',cs,fuel,p,q,hg',ht',hvar,hd,hr,_⟩:=h
 obtain rfl:=Option.some.inj (hg.symm.trans hg')
 obtain rfl:=Option.some.inj (hty.symm.trans ht')
 have hcs:=RQ ht he hce hct hd
 refine ⟨⟨g,0,.agg (zs.map λz=>Value.string ⟨z.toArray⟩).toArray,rfl,⟨_,rfl,LZ zs⟩,λj u hj=>?_⟩,q,hr⟩
 have hj:(zs.map λz=>Value.string ⟨z.toArray⟩)[j]? = some u:=by
  simpa only [Value.cells] using hj
 have h1:=World.var?_cell hg hvar j
 have h2:cs[j]? = some u:=by
  rw [<- Array.getElem?_toList,hcs]
  exact hj
 rw [h2] at h1
 rw [Nat.zero_add]
 exact ⟨Na h1,h1⟩
end Go.Sy
