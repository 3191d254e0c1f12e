/-
  The evaluator's operations are the model's: types, parts, loads, arithmetic. No conditions.
-/
import Derived.Test.YtkbgidbledjejaaGreatSyC
import Derived.Maps.AppendAt
import Derived.Laws.StructEq
import Derived.RegionTactic
import Derived.ChangeKeysEq
import Derived.Laws.MakeOwn
namespace Go.Sy
structure TabOK (P:Program) (τ:List Ty):Prop where
 tab:∀ j ty,τ[j]? = some ty->AbL P j=some ty
 same:P=Is
section
variable {P:Program} {τ:List Ty} (hτ:TabOK P τ)
include hτ
theorem TabOK.info {j:Nat} {ty:Ty} (h:τ[j]? = some ty):∃ i d,P.info? j=some i∧P.underlying j=some d∧ty.k=kOf P d∧ty.size=i.size∧ty.bytes=i.bytes ∧
  ty.zero=(match i.zero with | some z=>ofValue z | none=>.und)∧ty.plain=Ho P j:=by
 have:=hτ.tab j ty h;unfold AbL at this;split at this
 ·rename_i i d hi hd
  simp at this;subst this;exact ⟨i,d,hi,hd,rfl,rfl,rfl,rfl,rfl⟩
 ·cases this
end
theorem IH {P:Program} {k e:Nat} (x:K) (h:kOf P (.map k e)=x):x = .other ∨ x = .imap e ∨ ∃ s,x = .gmap s e:=by
 subst h;simp only [kOf];split
 ·exact .inr (.inl rfl)
 ·exact .inr (.inr ⟨_,rfl⟩)
 ·exact .inr (.inr ⟨_,rfl⟩)
 ·exact .inl rfl
theorem Ee {P:Program} {d:TypeDesc} {e:Nat} (h:kOf P d = .sl e):d = .slice e:=by
 cases d
 case map k e=>rcases IH _ h with h | h | ⟨_,h⟩ <;> cases h
 all_goals (simp [kOf] at h <;> try rw [h])
theorem Ud {P:Program} {d:TypeDesc} {k:IntKind} (h:kOf P d = .int k):d = .int k:=by
 cases d
 case map k e=>rcases IH _ h with h | h | ⟨_,h⟩ <;> cases h
 all_goals (simp [kOf] at h <;> try rw [h])
theorem Qr {P:Program} {d:TypeDesc} (h:kOf P d = .bool):d = .bool:=by
 cases d
 case map k e=>rcases IH _ h with h | h | ⟨_,h⟩ <;> cases h
 all_goals first | rfl | (simp [kOf] at h)
theorem Kj {P:Program} {d:TypeDesc} (h:kOf P d = .str):d = .string:=by
 cases d
 case map k e=>rcases IH _ h with h | h | ⟨_,h⟩ <;> cases h
 all_goals first | rfl | (simp [kOf] at h)
theorem LY {P:Program} {d:TypeDesc} {n e:Nat} (h:kOf P d = .arr n e):d = .array n e:=by
 cases d
 case map k e=>rcases IH _ h with h | h | ⟨_,h⟩ <;> cases h
 all_goals (simp [kOf] at h <;> try rw [h.1,h.2])
theorem Qq {P:Program} {d:TypeDesc} {fs:List (Nat×Nat)} (h:kOf P d = .st fs):∃ gs,d = .struct gs∧fs=gs.toList.map λf=>(f.offset,f.type):=by
 cases d
 case map k e=>rcases IH _ h with h | h | ⟨_,h⟩ <;> cases h
 all_goals (simp [kOf] at h <;> try exact ⟨_,rfl,h.symm⟩)
theorem FZ {P:Program} {d:TypeDesc} {e:Nat} (h:kOf P d = .imap e):∃ k,d = .map k e∧P.underlying k=some (.int .i64)∧P.underlying e=some (.int .i64):=by
 cases d <;> simp only [kOf] at h <;> try cases h
 rename_i k e;split at h
 ·rename_i h1 h2
  cases h;exact ⟨k,rfl,h1,h2⟩
 ·cases h
 ·cases h
 ·cases h
def Abw (P:Program) (s:Bool) (k:TypeId):Prop:=P.underlying k=some (match s with
 | true=>.string
 | false=>.int .i64)
theorem LX {P:Program} {d:TypeDesc} {s:Bool} {e:Nat} (h:kOf P d = .gmap s e):∃ k,d = .map k e∧Abw P s k:=by
 cases d <;> simp only [kOf] at h <;> try cases h
 rename_i k e;split at h
 ·cases h
 ·rename_i h1 h2
  cases h;exact ⟨k,rfl,h1⟩
 ·rename_i h1
  cases h;exact ⟨k,rfl,h1⟩
 ·cases h
section
variable {P:Program} {τ:List Ty} (hτ:TabOK P τ)
theorem AS {t:Nat} {i:TypeInfo} (h:P.info? t=some i) (w:World):(sizeOf t).run P w = .ok i.size w:=by
 simp [sizeOf,typeInfo,h]
theorem Hn {t:Nat} {d:TypeDesc} (h:P.underlying t=some d) (w:World):(isAgg t).run P w = .ok (Ug (kOf P d)) w:=by
 unfold isAgg;rw [Sem.run_bind,run_underlying h w];cases d
 case map k e =>
  have:Ug (kOf P (.map k e))=false:=by
   rcases IH _ (Eq.refl (kOf P (.map k e))) with h | h | ⟨_,h⟩ <;> rw [h] <;> rfl
  rw [this];rfl
 all_goals rfl
theorem Dl (b o j:Nat):(⟨b,o,none⟩:Addr).add j=⟨b,o+j,none⟩:=by
 unfold Addr.add;split
 ·subst_vars; rfl
 ·rfl
theorem H6 {c:Value} (h:c.oneCell'=true):c.cells=#[c]:=by cases c <;> simp [Value.oneCell'] at h <;> rfl
section
variable {S:Nat->Prop} {w:World} {κ:Ai}
theorem GY (l:List Value) (off n j:Nat):((l.drop off).take n)[j]? = if j<n then l[off+j]? else none:=by
 rw [List.getElem?_take,List.getElem?_drop]
include hτ in
theorem Ew {t off:Nat} {cs:List V} {v:V} {ca:List Value} (hp:HS τ t cs off=some v) (hcs:VRs S w cs κ ca) :
  ∃ c,(part t ca.toArray off).run P w = .ok c w∧VR S w v κ c ∧
   (∀ (b o:Nat),(∀ j u,ca[j]? = some u->w.cell? ⟨b,o+j,none⟩=some u)->(loadVar t ⟨b,o+off,none⟩).run P w = .ok c w) ∧
   ((∀ u ∈ ca,u.oneCell'=true)->(∀ j u,c.cells[j]? = some u->ca[off+j]? = some u)∧(∀ u ∈ c.cells.toList,u.oneCell'=true)) ∧
   (∃ ty,τ[t]? = some ty∧(Ug ty.k=true->c.cells.size=ty.size)):=by
 unfold HS at hp;split at hp
 ·rename_i ty hty
  obtain ⟨i,d,hi,hd,hk,hs,_,_,_⟩:=hτ.info hty;split at hp
  ·rename_i hagg
   split at hp
   ·rename_i hle
    simp at hp;subst hp;have hle':off+ty.size <= cs.length:=by simpa using hle
    have hlen:=hcs.length;have hcs':VRs S w ((cs.drop off).take ty.size) κ ((ca.drop off).take ty.size):=(hcs.drop off).take ty.size;have hl2:((ca.drop off).take ty.size).length=ty.size:=by simp; omega
    rw [hk] at hagg;refine ⟨.agg ((ca.drop off).take ty.size).toArray,?_,⟨_,rfl,hcs'⟩,?_,?_,⟨ty,hty,λ_=>by simpa [Value.cells] using hl2⟩⟩
    ·simp only [part,Sem.run_bind,Hn hd,hagg,Result.andThen_ok,if_true,AS hi,Sem.run_pure,<- hs]
     congr 2;apply Array.ext';simp [List.extract_eq_take_drop]
    ·intro b o hcell
     have hld:=run_loadCells_list (P:=P) w ⟨b,o+off,none⟩ ((ca.drop off).take ty.size) (λj u hj=>by
      rw [Dl,Nat.add_assoc];rw [GY] at hj;split at hj
      ·exact hcell _ _ hj
      ·cases hj)
     rw [hl2] at hld;simp only [loadVar,Sem.run_bind,Hn hd,hagg,Result.andThen_ok,if_true,AS hi,<- hs,hld,Sem.run_pure]
    ·intro h1
     refine ⟨λj u hj=>?_,λu hu=>?_⟩
     ·simp only [Value.cells,List.getElem?_toArray,GY] at hj
      split at hj
      ·exact hj
      ·cases hj
     ·simp only [Value.cells] at hu
      exact h1 u (List.mem_of_mem_drop (List.mem_of_mem_take hu))
   ·cases hp
  ·rename_i hagg
   obtain ⟨c,hc,hv⟩:=hcs.get hp;rw [hk] at hagg;refine ⟨c,?_,hv,?_,?_,⟨ty,hty,λh=>by rw [hk,hagg] at h; cases h⟩⟩
   ·simp [part,Hn hd,hagg,hc]
   ·intro b o hcell
    simp [loadVar,Hn hd,hagg,hcell off c hc]
   ·intro h1
    have hcc:=H6 (h1 c (List.mem_of_getElem? hc));rw [hcc];refine ⟨λj u hj=>?_,λu hu=>?_⟩
    ·cases j with
     | zero=>simp at hj; subst hj; simpa using hc
     | succ j=>simp at hj
    ·simp at hu; subst hu; exact h1 u (List.mem_of_getElem? hc)
 ·cases hp
end
end
end Go.Sy
namespace Go.Sy
theorem CJ {α β:Type} (f:α->T β):∀ (t:T α),(t.bind f).sem=match t.sem with | some a=>(f a).sem | none=>none
 | .leaf a=>rfl
 | .br b x y=>by
  cases b
  ·exact CJ f y
  ·exact CJ f x
 | .fail=>rfl
 | .ask none _=>rfl
 | .ask (some r) k=>CJ f (k r)
theorem Ad {α β:Type} {f:α->T β} {t:T α} {r:β} (h:(t.bind f).sem=some r):∃ a,t.sem=some a∧(f a).sem=some r:=by
 rw [CJ] at h;cases ht:t.sem with
 | none=>rw [ht] at h; cases h
 | some a=>rw [ht] at h; exact ⟨a,rfl,h⟩
theorem Ab {α:Type} {b:Bool} {x:T α} {r:α} (h:(T.br b x .fail).sem=some r):b=true∧x.sem=some r:=by
 cases b
 ·cases h
 ·exact ⟨rfl,h⟩
theorem NS {α:Type} {b:Bool} {x:T α} {r:α} (h:(T.br b .fail x).sem=some r):b=false∧x.sem=some r:=by
 cases b
 ·exact ⟨rfl,h⟩
 ·cases h
theorem Aa {α:Type} {a r:α} (h:(T.leaf a).sem=some r):r=a:=by
 simp only [T.sem,Option.some.injEq] at h; exact h.symm
theorem Df {α:Type} {a:Option α} {r:α} (h:(T.ofOpt a).sem=some r):a=some r:=by
 cases a with
 | none=>cases h
 | some a=>simp only [T.ofOpt,T.sem] at h; exact h
theorem Acr {st:St} {t:T V} {r:V×St} (h:(keep st t).sem=some r):∃ v,t.sem=some v∧r=(v,st):=by
 obtain ⟨v,h1,h2⟩:=Ad h;exact ⟨v,h1,Aa h2⟩
theorem Zm {k k':IntKind} (h:XH k k'=true):k=k':=by cases k <;> cases k' <;> simp [XH] at h <;> rfl
section
variable {P:Program} {τ:List Ty} (hτ:TabOK P τ) {S:Nat->Prop} {w:World} {κ:Ai}
theorem Bl {v c:Value} (h:VR S w (.val v) κ c):c=v:=h
theorem JI {l:List UInt8} {c:Value} (h:VR S w (.str l) κ c):c = .string ⟨l.toArray⟩:=h
theorem EV (l:List UInt8):(⟨l.toArray⟩:ByteArray).toList=l:=by rw [ByteArray.toList_eq]
include hτ in
theorem AaY {x y:V} {b:Bool} {cx cy:Value} {t:Nat} {ty:Ty} (hty:τ[t]? = some ty) (h:XR ty.k x y=some b) (hx:VR S w x κ cx) (hy:VR S w y κ cy) (d:Nat) :
  (Op.equalIn (d+1) t cx cy).run P w = .ok b w∧cx.oneCell'=true∧cy.oneCell'=true:=by
 obtain ⟨i,dd,_,hd,hk,_⟩:=hτ.info hty;have hu:=run_underlying hd w;unfold XR at h;split at h
 ·rename_i k0 k a k' b' hk0
  rw [hk0] at hk;have hdd:=Ud hk.symm;subst hdd;split at h
  ·rename_i hk
   have hk:=Zm hk;subst hk;simp at h; subst h;rw [Bl hx,Bl hy];refine ⟨?_,rfl,rfl⟩;simp only [Op.equalIn,Sem.run_bind,hu,Result.andThen_ok];simp;rfl
  ·cases h
 ·rename_i a b' hk0
  rw [hk0] at hk;have hdd:=Qr hk.symm;subst hdd;simp at h; subst h;rw [Bl hx,Bl hy];refine ⟨?_,rfl,rfl⟩;simp only [Op.equalIn,Sem.run_bind,hu,Result.andThen_ok];simp;rfl
 ·rename_i a b' hk0
  rw [hk0] at hk;have hdd:=Kj hk.symm;subst hdd;simp at h; subst h;rw [JI hx,JI hy];refine ⟨?_,rfl,rfl⟩;simp only [Op.equalIn,Sem.run_bind,hu,Result.andThen_ok];simp;rw [beq_toListBytes,EV,EV];rfl
 ·cases h
theorem U6 {t:TypeId} {i:TypeInfo} (h:P.info? t=some i):P.cellsOf t=i.size:=by simp [Program.cellsOf,h]
include hτ in
theorem Wk (D:Nat) {f:V->V->Option Bool} {e:TypeId} {size:Nat} {av bs:List V} {la lb:List Value} (ha:VRs S w av κ la) (hb:VRs S w bs κ lb)
  (hf:∀ u v b cu cv,f u v=some b->VR S w u κ cu->VR S w v κ cv->(Op.equalIn D e cu cv).run P w = .ok b w):∀ (m i:Nat) (x:Bool),Wl τ f e size av bs m i=some x ->
  (Op.eqItems D e size la.toArray lb.toArray (List.range' i m)).run P w = .ok x w
 | 0,i,x,h=>by
  simp [Wl] at h;subst h;rfl
 | m+1,i,x,h=>by
  simp only [Wl] at h;split at h
  ·rename_i u v hu hv
   split at h
   ·rename_i y z hy hz
    simp at h;subst h;obtain ⟨cu,p1,q1,_⟩:=Ew (P:=P) hτ hu ha;obtain ⟨cv,p2,q2,_⟩:=Ew (P:=P) hτ hv hb;have p1:(part e la.toArray (i * size)).run P w = .ok cu w:=p1;have p2:(part e lb.toArray (i * size)).run P w = .ok cv w:=p2;have ih:=Wk D ha hb hf m (i+1) z hz;simp only [List.range'_succ,Op.eqItems,Sem.run_bind,p1,p2,hf u v y cu cv hy q1 q2,Result.andThen_ok];cases y
    ·simp [Av]
    ·simpa [Av] using ih
   ·cases h
  ·cases h
include hτ in
theorem Zy (D:Nat) {f:TypeId->V->V->Option Bool} {av bs:List V} {la lb:List Value} (ha:VRs S w av κ la) (hb:VRs S w bs κ lb)
  (hf:∀ t u v b cu cv,f t u v=some b->VR S w u κ cu->VR S w v κ cv->(Op.equalIn D t cu cv).run P w = .ok b w):∀ (fs:List Field) (x:Bool),(∀ g,g ∈ fs->g.name ≠ "_")->Aem τ f (fs.map λg=>(g.offset,g.type)) av bs=some x ->
  (Op.eqFields D la.toArray lb.toArray fs).run P w = .ok x w
 | [],x,_,h=>by
  simp [Aem] at h;subst h;simp [Op.eqFields]
 | g::fs,x,hn,h=>by
  simp only [List.map_cons,Aem] at h;split at h
  ·rename_i u v hu hv
   split at h
   ·rename_i y z hy hz
    simp at h;subst h;obtain ⟨cu,p1,q1,_⟩:=Ew (P:=P) hτ hu ha;obtain ⟨cv,p2,q2,_⟩:=Ew (P:=P) hτ hv hb;have p1:(part g.type la.toArray g.offset).run P w = .ok cu w:=p1;have p2:(part g.type lb.toArray g.offset).run P w = .ok cv w:=p2;have ih:=Zy D ha hb hf fs z (λg' hg'=>hn g' (List.mem_cons_of_mem _ hg')) hz;simp only [Op.eqFields,Sem.run_ite,if_pos (hn g (by simp)),Sem.run_bind,p1,p2,hf _ u v y cu cv hy q1 q2,Result.andThen_ok];cases y
    ·simp [Av]
    ·simpa [Av] using ih
   ·cases h
  ·cases h
include hτ in
theorem Uu:∀ (d k:Nat) (t:TypeId) (x y:V) (b:Bool) (cx cy:Value),eqV τ d t x y=some b->VR S w x κ cx->VR S w y κ cy->(Op.equalIn (k+d) t cx cy).run P w = .ok b w
 | 0,k,t,x,y,b,cx,cy,h,_,_=>by cases h
 | d+1,k,t,x,y,b,cx,cy,h,hx,hy=>by
  simp only [eqV] at h;split at h
  ·rename_i ty hty
   split at h
   ·rename_i n e av bs hk0
    obtain ⟨i,dd,hi,hd,hk,_⟩:=hτ.info hty;rw [hk0] at hk;have:=LY hk.symm;subst this;split at h
    ·rename_i te hte
     obtain ⟨ti,_,hti,_,_,hts,_⟩:=hτ.info hte;obtain ⟨la,rfl,ha⟩:=hx;obtain ⟨lb,rfl,hb⟩:=hy;rw [show k+(d+1)=(k+d)+1 from rfl,run_equalIn_array w (k+d) la.toArray lb.toArray hd hti,U6 hti,List.range_eq_range',<- hts];exact Wk (P:=P) hτ (k+d) ha hb (λu v b cu cv h1 h2 h3=>Uu d k e u v b cu cv h1 h2 h3) n 0 b h
    ·cases h
   ·rename_i fs av bs hk0
    obtain ⟨i,dd,hi,hd,hk,_,_,_,hpl⟩:=hτ.info hty;rw [hk0] at hk;obtain ⟨gs,rfl,rfl⟩:=Qq hk.symm;split at h
    ·rename_i hp
     rw [hpl] at hp;simp only [Ho,hd,Bool.and_eq_true,Bool.not_eq_true'] at hp;obtain ⟨⟨hp1,hp2⟩,hp3⟩:=hp;have hfo:P.underlying t=some (.struct (P.fieldsOf t)):=by simp [Program.fieldsOf,hd]
     have hfo2:P.fieldsOf t=gs:=by simp [Program.fieldsOf,hd]
     obtain ⟨la,rfl,ha⟩:=hx;obtain ⟨lb,rfl,hb⟩:=hy;rw [show k+(d+1)=(k+d)+1 from rfl,run_equalIn_agg w (k+d) t _ _ hfo hp2,hfo2];refine Zy (P:=P) hτ (k+d) ha hb (λt u v b cu cv h1 h2 h3=>Uu d k t u v b cu cv h1 h2 h3) gs.toList b (λg hg=>?_) h;have:=List.all_eq_true.1 hp1 g hg;rw [Bool.and_eq_true] at this;simpa using this.1
    ·cases h
   ·exact (AaY (P:=P) hτ hty h hx hy (k+d)).1
  ·cases h
theorem AaZ {t:Nat} (hd:P.underlying t=some .bool) (a b:Bool):(binOp .eql t (.bool a) (.bool b)).run P w = .ok (.bool (JD a b)) w:=by
 show ((Op.equalIn 10000 t (.bool a) (.bool b)) >>= λr=>pure (.bool r):Sem Value).run P w=_;rw [Sem.run_bind,run_equalIn_bool' w 9999 t a b hd];rfl
theorem Aa3 {t:Nat} (hd:P.underlying t=some .bool) (a b:Bool):(binOp .neq t (.bool a) (.bool b)).run P w = .ok (.bool (AL (JD a b))) w:=by
 show ((Op.equalIn 10000 t (.bool a) (.bool b)) >>= λr=>pure (.bool (!r)):Sem Value).run P w=_;rw [Sem.run_bind,run_equalIn_bool' w 9999 t a b hd];rfl
include hτ in
theorem Ahm {op:BinOp} {t:Nat} {lit:Bool} {x y v:V} {cx cy:Value} (h:(AkS τ op t lit x y).sem=some v) (hx:VR S w x κ cx) (hy:VR S w y κ cy) (xo yo:Operand) :
  ∃ c,(do eqGuard op t xo yo cx cy; binOp op t cx cy:Sem Value).run P w = .ok c w∧VR S w v κ c:=by
 unfold AkS at h;split at h
 ·rename_i k a k' b
  rw [Bl hx,Bl hy];simp only [Sem.run_bind,eqGuard_at_int,Sem.run_pure,Result.andThen_ok];split at h
  ·obtain ⟨h1,h2⟩:=Ab h
   rw [Aa h2];have h1:0 <= b:=by simpa [ile] using h1
   refine ⟨_,?_,rfl⟩;simp [binOp_shl,Op.shift,wr,An6];omega
  ·obtain ⟨h1,h2⟩:=Ab h
   rw [Aa h2];have h1:0 <= b:=by simpa [ile] using h1
   refine ⟨_,?_,rfl⟩;simp [binOp_shr,Op.shift,Nv];omega
  ·split at h
   ·cases h
   ·rename_i hk
    have hk:=Zm hk;subst hk;split at h
    ·rw [Aa h]; exact ⟨_,by rw [binOp_add]; rfl,rfl⟩
    ·rw [Aa h]; exact ⟨_,by rw [binOp_sub]; rfl,rfl⟩
    ·rw [Aa h]; exact ⟨_,by rw [binOp_mul]; rfl,rfl⟩
    ·have hb:b ≠ 0∧v = .val (.int k (wr k (Qs a b))):=by
      split at h
      ·split at h
       ·cases h
       ·rename_i hz
        refine ⟨λe=>?_,Aa h⟩;subst e; cases hz
      ·obtain ⟨h1,h2⟩:=NS h
       exact ⟨by simpa [ieq] using h1,Aa h2⟩
     rw [hb.2];exact ⟨_,by rw [binOp_quo]; simp [Op.intDiv,hb.1]; rfl,rfl⟩
    ·have hb:b ≠ 0∧v = .val (.int k (Aw a b)):=by
      split at h
      ·split at h
       ·cases h
       ·rename_i hz
        refine ⟨λe=>?_,Aa h⟩;subst e; cases hz
      ·obtain ⟨h1,h2⟩:=NS h
       exact ⟨by simpa [ieq] using h1,Aa h2⟩
     rw [hb.2];exact ⟨_,by rw [binOp_rem]; simp [Op.intDiv,hb.1]; rfl,rfl⟩
    ·rw [Aa h]; exact ⟨_,by rw [binOp_and]; rfl,rfl⟩
    ·rw [Aa h]; exact ⟨_,by rw [binOp_or]; rfl,rfl⟩
    ·rw [Aa h]; exact ⟨_,by rw [binOp_xor]; rfl,rfl⟩
    ·rw [Aa h]; exact ⟨_,by rw [binOp_andNot]; rfl,rfl⟩
    ·rw [Aa h]; exact ⟨_,by rw [binOp_eql]; rfl,rfl⟩
    ·rw [Aa h]; exact ⟨_,by rw [binOp_neq]; rfl,rfl⟩
    ·rw [Aa h]; exact ⟨_,by rw [binOp_lss]; rfl,rfl⟩
    ·rw [Aa h]; exact ⟨_,by rw [binOp_leq]; rfl,rfl⟩
    ·rw [Aa h]; exact ⟨_,by rw [binOp_gtr]; rfl,rfl⟩
    ·rw [Aa h]; exact ⟨_,by rw [binOp_geq]; rfl,rfl⟩
    ·cases h
 ·rename_i a b
  rw [Bl hx,Bl hy];simp only [Sem.run_bind,eqGuard_at_bool,Sem.run_pure,Result.andThen_ok];split at h
  ·rename_i ty hty
   obtain ⟨i,dd,_,hd,hk,_⟩:=hτ.info hty;split at h
   ·rename_i hkk
    rw [hkk] at hk;have:=Qr hk.symm;subst this;rw [Aa h];exact ⟨_,AaZ (P:=P) hd a b,rfl⟩
   ·rename_i hkk
    rw [hkk] at hk;have:=Qr hk.symm;subst this;rw [Aa h];exact ⟨_,Aa3 (P:=P) hd a b,rfl⟩
   ·cases h
  ·cases h
 ·rename_i a b
  rw [JI hx,JI hy];simp only [Sem.run_bind,eqGuard_at_string,Sem.run_pure,Result.andThen_ok];split at h
  ·obtain ⟨h1,h2⟩:=Ab h
   rw [Aa h2];have h1:a.length+b.length <= 9223372036854775807:=by simpa [Y7] using h1
   refine ⟨.string ⟨(a++b).toArray⟩,?_,rfl⟩;have e1:(⟨a.toArray⟩:ByteArray).size=a.length:=by simp [ByteArray.size]
   have e2:(⟨b.toArray⟩:ByteArray).size=b.length:=by simp [ByteArray.size]
   have e3:(⟨a.toArray⟩:ByteArray)++⟨b.toArray⟩=⟨(a++b).toArray⟩:=by
    apply ByteArray.ext;simp
   simp [binOp,Op.stringOp,e1,e2,e3];omega
  ·rw [Aa h]; exact ⟨_,by show (Op.stringOp .eql _ _).run P w=_; simp only [Op.stringOp,EV]; exact rfl,rfl⟩
  ·rw [Aa h]; exact ⟨_,by show (Op.stringOp .neq _ _).run P w=_; simp only [Op.stringOp,EV]; exact rfl,rfl⟩
  ·rw [Aa h]; exact ⟨_,by show (Op.stringOp .lss _ _).run P w=_; simp only [Op.stringOp,EV]; exact rfl,rfl⟩
  ·rw [Aa h]; exact ⟨_,by show (Op.stringOp .leq _ _).run P w=_; simp only [Op.stringOp,EV]; exact rfl,rfl⟩
  ·rw [Aa h]; exact ⟨_,by show (Op.stringOp .gtr _ _).run P w=_; simp only [Op.stringOp,EV]; exact rfl,rfl⟩
  ·rw [Aa h]; exact ⟨_,by show (Op.stringOp .geq _ _).run P w=_; simp only [Op.stringOp,EV]; exact rfl,rfl⟩
  ·cases h
 ·rename_i a b
  obtain ⟨la,rfl,ha⟩:=hx;obtain ⟨lb,rfl,hb⟩:=hy;split at h
  ·rename_i ty hty
   obtain ⟨i,dd,_,hd,hk,_,_,_,hpl⟩:=hτ.info hty;split at h
   ·rename_i hp
    rw [hpl] at hp;have hp3:P.eqGuardType P.depth t=false:=by
     unfold Ho at hp;split at hp
     ·rw [Bool.and_eq_true,Bool.not_eq_true'] at hp
      exact hp.2
     ·rw [Bool.and_eq_true,Bool.not_eq_true'] at hp
      exact hp.2
     ·cases hp
    split at h
    ·rename_i x hc
     rw [Aa h];have:=Uu (P:=P) hτ 5 9995 t (.agg a) (.agg b) x _ _ hc ⟨la,rfl,ha⟩ ⟨lb,rfl,hb⟩;refine ⟨.bool x,?_,rfl⟩;rw [Sem.run_bind,run_eqGuard_agg w .eql t xo yo _ _ hp3];simp only [Result.andThen_ok,run_eql_struct,this]
    ·rename_i x hc
     rw [Aa h];have:=Uu (P:=P) hτ 5 9995 t (.agg a) (.agg b) x _ _ hc ⟨la,rfl,ha⟩ ⟨lb,rfl,hb⟩;refine ⟨.bool (!x),?_,rfl⟩;rw [Sem.run_bind,run_eqGuard_agg w .neq t xo yo _ _ hp3];simp only [Result.andThen_ok,run_neq_struct,this]
    ·cases h
   ·cases h
  ·cases h
 ·cases h
theorem AbK {op:UnOp} {x v:V} {cx:Value} (h:(unV op x).sem=some v) (hx:VR S w x κ cx):∃ c,(Op.unary op cx).run P w = .ok c w∧VR S w v κ c:=by
 unfold unV at h;split at h
 ·rw [Bl hx]
  split at h
  ·rw [Aa h]; exact ⟨.int _ _,rfl,rfl⟩
  ·cases h
 ·rw [Bl hx]
  split at h
  ·rw [Aa h]; exact ⟨.bool _,rfl,rfl⟩
  ·cases h
 ·cases h
include hτ in
theorem Ae4 {src dst:Nat} {x v:V} {cx:Value} (h:(Ae5 τ src dst x).sem=some v) (hx:VR S w x κ cx):∃ c,(convert src dst cx).run P w = .ok c w∧VR S w v κ c:=by
 unfold Ae5 at h;split at h
 ·rw [Bl hx]
  split at h
  ·rename_i t1 t2 h1 h2
   obtain ⟨_,d1,_,hd1,_⟩:=hτ.info h1;obtain ⟨_,d2,_,hd2,hk,_⟩:=hτ.info h2;split at h
   ·rename_i k hkk
    rw [hkk] at hk;have:=Ud hk.symm;subst this;rw [Aa h];exact ⟨_,by simp [convert,run_underlying hd1,run_underlying hd2,Conv.intToInt]; rfl,rfl⟩
   ·cases h
  ·cases h
 ·rw [JI hx]
  split at h
  ·rename_i t1 t2 h1 h2
   obtain ⟨_,d1,_,hd1,_⟩:=hτ.info h1;obtain ⟨_,d2,_,hd2,hk,_⟩:=hτ.info h2;split at h
   ·rename_i hkk
    rw [hkk] at hk;have:=Kj hk.symm;subst this;rw [Aa h];exact ⟨_,by simp [convert,run_underlying hd1,run_underlying hd2],rfl⟩
   ·cases h
  ·cases h
 ·cases h
end
end Go.Sy
namespace Go.Sy
theorem We (off:Nat):∀ (new:List Value) (k:Nat) (cells:Array Value),off+k+new.length <= cells.size ->
  ((new.zipIdx k).foldl (λcs (cj:Value×Nat)=>cs.setIfInBounds (off+cj.2) cj.1) cells).toList=cells.toList.take (off+k)++new++cells.toList.drop (off+k+new.length)
 | [],k,cells,_=>by simp
 | v::new,k,cells,h=>by
  simp only [List.zipIdx_cons,List.foldl_cons];rw [We off new (k+1) (cells.setIfInBounds (off+k) v) (by simp at h ⊢; omega)];have:=list_seg_step cells.toList (off+k) v new (by simp at h ⊢; omega);simpa [Nat.add_assoc] using this
theorem Mi (off:Nat) (new cells:Array Value) (h:off+new.size <= cells.size) :
  (new.zipIdx.foldl (λcs (cj:Value×Nat)=>cs.setIfInBounds (off+cj.2) cj.1) cells).toList=cells.toList.take off++new.toList++cells.toList.drop (off+new.size):=by
 have:=We off new.toList 0 cells (by simpa using h);simp only [Nat.add_zero,Array.length_toList] at this;rw [<- this,<- Array.foldl_toList];congr 2;simp
section
variable {P:Program} {τ:List Ty} (hτ:TabOK P τ) {S:Nat->Prop} {w:World} {κ:Ai}
theorem Hg {vs new:List V} {l m:List Value} (h:VRs S w vs κ l) (hn:VRs S w new κ m) (off:Nat) :
  VRs S w (Dc vs off new) κ (l.take off++m++l.drop (off+m.length)):=by
 unfold Dc;rw [List.append_assoc];refine (h.take off).append (hn.append ?_);rw [hn.length];exact h.drop _
inductive PartsR (S:Nat->Prop) (w:World) (κ:Ai):List (Nat×V)->List (Nat×Value)->Prop where
 | nil:PartsR S w κ [] []
 | cons {i:Nat} {v:V} {c:Value} {l:List (Nat×V)} {m:List (Nat×Value)}:VR S w v κ c->PartsR S w κ l m->PartsR S w κ ((i,v)::l) ((i,c)::m)
theorem fill_ok {place:Nat->Option (Nat×Nat)}:∀ {parts:List (Nat×V)} {cparts:List (Nat×Value)} {cells out:List V} {arr:Array Value},
  SR place cells parts=some out->PartsR S w κ parts cparts->VRs S w cells κ arr.toList ->
  ∃ arr',Instr.fill place arr cparts=some arr'∧VRs S w out κ arr'.toList
 | [],_,cells,out,arr,h,hp,hc=>by
  cases hp;simp [SR] at h;subst h;exact ⟨arr,rfl,hc⟩
 | (i,v)::rest,_,cells,out,arr,h,hp,hc=>by
   cases hp with
   | cons hv hrest =>
    rename_i c m;simp only [SR] at h;split at h
    ·rename_i off size cs hpl hcs
     split at h
     ·rename_i h1 h2
      have h1:cs.length=size:=Nat.eq_of_beq_eq_true h1;have h2:off+size <= cells.length:=by simpa using h2
      obtain ⟨hr,_⟩:=Cp hcs hv;have hl:=hr.length;have hl':=hc.length;have hsz:c.cells.size=size:=by rw [<- h1,<- hl]; simp
      have hb:off+c.cells.size <= arr.size:=by simp at hl'; omega
      have hcond:¬ (c.cells.size ≠ size || decide (off+c.cells.size > arr.size))=true:=by
       simp [hsz];omega
      have hf:=Mi off c.cells arr hb;obtain ⟨arr',e1,e2⟩:=fill_ok (arr:=c.cells.zipIdx.foldl (λcs (cj:Value×Nat)=>cs.setIfInBounds (off+cj.2) cj.1) arr) h hrest (by
       rw [hf];have:=Hg hc hr off;simpa using this)
      refine ⟨arr',?_,e2⟩;simp only [Instr.fill,hpl];rw [if_neg hcond];exact e1
     ·cases h
    ·cases h
include hτ in
theorem Ss:∀ {fs:List Field} {places:List (Nat×Nat)},LI τ (fs.map λf=>(f.offset,f.type))=some places ->
  (fs.mapM λf=>do pure (f.offset,<- sizeOf f.type):Sem (List (Nat×Nat))).run P w = .ok places w
 | [],places,h=>by
  simp [LI] at h;subst h;simp
 | f::fs,places,h=>by
  simp only [List.map_cons,LI] at h;split at h
  ·rename_i ty l h1 h2
   simp at h;subst h;obtain ⟨i,d,hi,_,_,hs,_⟩:=hτ.info h1;have ih:=Ss h2;simp only [List.mapM_cons,Sem.run_bind,AS hi,Result.andThen_ok,Sem.run_pure,ih,hs]
  ·cases h
include hτ in
theorem QV {t:Nat} {parts:List (Nat×V)} {cparts:Array (Nat×Value)} {v:V} (h:Yr τ t parts=some v) (hp:PartsR S w κ parts cparts.toList) :
  ∃ c,(Instr.build t cparts).run P w = .ok c w∧VR S w v κ c:=by
 unfold Yr at h;split at h
 ·rename_i ty hty
  obtain ⟨i,d,hi,hd,hk,_,_,hz,_⟩:=hτ.info hty;have hzero:∀ zero,ty.zero = .agg zero->∃ za:Array Value,i.zero=some (.agg za)∧VRs S w zero κ za.toList:=by
   intro zero hzz;rw [hzz] at hz;split at hz
   ·rename_i z hzi
    cases z with
    | agg za =>simp [ofValue] at hz;subst hz;exact ⟨za,hzi,Le _⟩
    | string s=>simp [ofValue,Oh] at hz
    | slice a l c =>simp only [ofValue] at hz;unfold Oh at hz;split at hz <;> cases hz
    | _=>simp [ofValue,Oh] at hz
   ·cases hz
  split at h
  ·rename_i zero fs hzz hkk
   obtain ⟨za,hza,hzr⟩:=hzero zero hzz;rw [hkk] at hk;obtain ⟨gs,rfl,rfl⟩:=Qq hk.symm;split at h
   ·rename_i places hpl
    split at h
    ·rename_i cs hf
     simp at h;subst h;obtain ⟨arr',e1,e2⟩:=fill_ok hf hp hzr;refine ⟨.agg arr',?_,⟨arr'.toList,by simp,e2⟩⟩;have hm:(gs.mapM λf=>do pure (f.offset,<- sizeOf f.type):Sem (Array (Nat×Nat))).run P w = .ok places.toArray w:=by
      rw [Array.mapM_eq_mapM_toList,Sem.run_map,Ss (P:=P) hτ hpl];rfl
     have e1':Instr.fill (λx=>places.toArray[x]?) za cparts.toList=some arr':=by simpa using e1
     simp only [Instr.build,Sem.run_bind,zeroValue,typeInfo,run_program,Result.andThen_ok,hi,Sem.run_pure,hza,Value.cells,run_underlying hd,hm,e1']
    ·cases h
   ·cases h
  ·rename_i zero n e hzz hkk
   obtain ⟨za,hza,hzr⟩:=hzero zero hzz;rw [hkk] at hk;have:=LY hk.symm;subst this;split at h
   ·rename_i te hte
    obtain ⟨i',d',hi',_,_,hs',_⟩:=hτ.info hte;split at h
    ·rename_i cs hf
     simp at h;subst h;obtain ⟨arr',e1,e2⟩:=fill_ok hf hp hzr;refine ⟨.agg arr',?_,⟨arr'.toList,by simp,e2⟩⟩;have e1':Instr.fill (λx=>some (x * i'.size,i'.size)) za cparts.toList=some arr':=by rw [<- hs']; exact e1
     simp only [Instr.build,Sem.run_bind,zeroValue,typeInfo,run_program,Result.andThen_ok,hi,Sem.run_pure,hza,Value.cells,run_underlying hd,AS hi',e1']
    ·cases h
   ·cases h
  ·cases h
 ·cases h
end
end Go.Sy
