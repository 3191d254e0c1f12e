/-
  The evaluator's slices, indexes, fields and literals of slices are the model's. No conditions.
-/
import Derived.Test.YtkbgidbledjejaaGreatSyI
namespace Go.Sy
def HE (P:Program) (a:Act) (o:Oper) (S:Nat->Prop) (w:World) (κ:Ai) (v:V):Prop :=
 ∃ c,(execOp a.eval o).run P w = .ok (.value c) w∧VR S w v κ c
section
variable {P:Program} {τ:List Ty} (hτ:TabOK P τ) {Γ:Cx0} {S:Nat->Prop} {w:World} {κ:Ai} {st:St} {a:Act} {o:Oper}
 {K:Act->World->Prop} {Q:Exit->Act->World->Prop} {r:V×St}
theorem JX {α:Type} {i:Int} {f:Nat->T α} {x:α}:∀ {n k:Nat},(Ng i f n k).sem=some x->∃ j,k <= j∧j<k+n∧i=(j:Int)∧(f j).sem=some x
 | 0,_,h=>by cases h
 | n+1,k,h=>by
  simp only [Ng,T.sem,sel] at h;cases hb:ieq i (Int.ofNat k)
  ·rw [hb] at h
   obtain ⟨j,h1,h2,h3,h4⟩:=JX (n:=n) (k:=Nat.succ k) h;exact ⟨j,by omega,by omega,h3,h4⟩
  ·rw [hb] at h
   have:i=Int.ofNat k:=by simpa [ieq] using hb
   exact ⟨k,Nat.le_refl _,by omega,this,h⟩
theorem J1 {i:Int} {n:Nat} (h:J2 i n=true):0 <= i∧i<(n:Int):=by
 cases i with
 | ofNat k =>
  have:k<n:=by simpa [J2] using h
  exact ⟨Int.natCast_nonneg k,by exact Int.ofNat_lt.2 this⟩
 | negSucc k=>cases h
theorem Bf {x y:Bool} (h:Av x y=true):x=true∧y=true:=by simpa [Av] using h
theorem Ca {x y:Int} (h:ile x y=true):x <= y:=by simpa [ile] using h
theorem II {x y:Int} (h:ilt x y=true):x<y:=by simpa [ilt] using h
include hτ in
theorem YJ {t off:Nat} {v0 v:V} {b o':Nat} {cv:Value} (h:EQ τ t v0 off=some v) (h1:VR S w v0 (λ_=>none) cv) (h2:At S w b o' cv.cells.toList) :
  VR S w (.pp v) κ (.pointer (some ⟨b,o'+off,none⟩)):=by
 unfold EQ at h;split at h
 ·rename_i cs hcs
  obtain ⟨hr,hone⟩:=Cp hcs h1;obtain ⟨c,_,h3,_,h5,_⟩:=Ew (P:=P) hτ h hr;refine ⟨b,o'+off,c,rfl,h3,λj u hj=>?_⟩;have:=(h5 hone).1 j u (by simpa using hj);have:=h2 (off+j) u this;rwa [<- Nat.add_assoc] at this
 ·cases h
include hτ in
theorem Mn {s f:Nat} {x:V} {cx:Value} (hx:VR S w x κ cx) (hrun:(execOp a.eval o).run P w=((Instr.fieldAt s cx f).run P w).andThen λv w'=>.ok (.value v) w')
  {r:V} (h:(FH τ s f x).sem=some r):HE P a o S w κ r:=by
 unfold FH at h;split at h
 ·rename_i ty hty
  obtain ⟨_,d,_,hd,hk,_⟩:=hτ.info hty;split at h
  ·rename_i fs hkk
   rw [hkk] at hk;obtain ⟨gs,rfl,rfl⟩:=Qq hk.symm;split at h
   ·rename_i off ft hf
    obtain ⟨fd,hfd,e1,e2⟩:∃ fd:Field,gs[f]? = some fd∧fd.offset=off∧fd.type=ft:=by
     simp at hf;obtain ⟨fd,h1,h2,h3⟩:=hf;exact ⟨fd,h1,h2,h3⟩
    split at h
    ·rename_i te hte
     obtain ⟨i,_,hi,_,_,hs,_⟩:=hτ.info hte;split at h
     ·rename_i hpos
      have hpos:0<i.size:=by rw [<- hs]; simpa using hpos
      have place:∀ g o',cx = .pointer (some ⟨g,o',none⟩)->(execOp a.eval o).run P w = .ok (.value (.pointer (some ⟨g,o'+off,none⟩))) w:=by
       intro g o' hcx;rw [hrun,hcx];have hsz:=AS (t:=fd.type) (by rw [e2]; exact hi) w;have hne:¬ i.size=0:=by omega
       simp only [Instr.fieldAt,Sem.run_bind,run_underlying hd,Result.andThen_ok,hfd,Instr.sureAddr,Sem.run_pure,fieldPlace,hsz,if_neg hne,Sem.run_ite,Dl,e1]
      split at h
      ·rename_i id o'
       obtain ⟨g,hk1,hcx⟩:=hx;rw [Aa h];exact ⟨_,place g o' hcx,g,hk1,rfl⟩
      ·rename_i id s' i' o'
       obtain ⟨g,n,cap,hk1,hcx⟩:=hx;rw [Aa h];exact ⟨_,place g _ hcx,g,n,cap,hk1,by rw [Nat.add_assoc]; rfl⟩
      ·rename_i id s' i' o'
       obtain ⟨g,n,cap,ms,hk1,hcx⟩:=hx;rw [Aa h];exact ⟨_,place g _ hcx,g,n,cap,ms,hk1,by rw [Nat.add_assoc]; rfl⟩
      ·rename_i id i' s' k' o'
       obtain ⟨o2,ms,g,n,cap,hk1,hm,hcx⟩:=hx;rw [Aa h];exact ⟨_,place g _ hcx,o2,ms,g,n,cap,hk1,hm,by rw [Nat.add_assoc]; rfl⟩
      ·rename_i v0
       split at h
       ·rename_i v hv
        obtain ⟨b,o',cv,hcx,h1,h2⟩:=hx;rw [Aa h];exact ⟨_,place b o' hcx,YJ (P:=P) hτ hv h1 h2⟩
       ·cases h
      ·cases h
     ·cases h
    ·cases h
   ·cases h
  ·cases h
 ·cases h
include hτ in
theorem Aeg {s f:Nat} {x v:V} {cx:Value} (hx:VR S w x κ cx) (hrun:(execOp a.eval o).run P w=((Instr.field s cx f).run P w).andThen λv w'=>.ok (.value v) w')
  (h:(XP τ s f x).sem=some v):HE P a o S w κ v:=by
 unfold XP at h;split at h
 ·rename_i ty hty
  obtain ⟨_,d,_,hd,hk,_⟩:=hτ.info hty;split at h
  ·rename_i fs cs hkk
   rw [hkk] at hk;obtain ⟨gs,rfl,rfl⟩:=Qq hk.symm;split at h
   ·rename_i off ft hf
    obtain ⟨fd,hfd,e1,e2⟩:∃ fd:Field,gs[f]? = some fd∧fd.offset=off∧fd.type=ft:=by
     simp at hf;obtain ⟨fd,h1,h2,h3⟩:=hf;exact ⟨fd,h1,h2,h3⟩
    obtain ⟨ca,rfl,hr⟩:=hx;obtain ⟨c,h1,h2,_⟩:=Ew (P:=P) hτ (Df h) hr;refine ⟨c,?_,h2⟩;rw [hrun];simp only [Instr.field,Sem.run_bind,run_underlying hd,Result.andThen_ok,hfd,asAgg,Sem.run_pure,e1,e2,h1]
   ·cases h
  ·cases h
 ·cases h
include hτ in
theorem AdA (hg:Good κ S st.h w) {t:Nat} {x v:V} {cx:Value} (hx:VR S w x κ cx) (h:(lenV τ st t x).sem=some v) (ty:TypeId) :
  ∃ c,(Builtin.len_ #[t] ty #[cx]).run P w = .ok c w∧VR S w v κ c:=by
 unfold lenV at h;split at h
 ·rename_i ty' hty
  obtain ⟨_,d,_,hd,hk,_⟩:=hτ.info hty;have hu:=run_underlying hd w;split at h
  ·rename_i l hkk
   rw [hkk] at hk;have:=Kj hk.symm;subst this;rw [Aa h,JI hx];exact ⟨_,by simp [Builtin.len_,hu,goInt]; rfl,rfl⟩
  ·rename_i e s n g hkk
   rw [hkk] at hk;have:=Ee hk.symm;subst this;obtain ⟨b,cap,rfl,_⟩:=hx;rw [Aa h];exact ⟨_,by simp [Builtin.len_,hu,goInt],rfl⟩
  ·rename_i e hkk
   rw [hkk] at hk;have:=Ee hk.symm;subst this;rw [Aa h,show cx = .slice none 0 0 from hx];exact ⟨_,by simp [Builtin.len_,hu,goInt],rfl⟩
  ·rename_i e _ k hkk
   rw [hkk] at hk;have:=Ee hk.symm;subst this;obtain ⟨_,_,_,_,_,rfl⟩:=hx;rw [Aa h];exact ⟨_,by simp [Builtin.len_,hu,goInt],rfl⟩
  ·rename_i e id hkk
   rw [hkk] at hk;have:=Ee hk.symm;subst this;split at h
   ·rename_i e' s n g hh
    rw [Aa h];obtain ⟨_,c0,xs,hk0,ho,_⟩:=E2 hg hh;obtain ⟨hk',_⟩:=hx;rw [hk0] at hk';simp at hk';subst hk';have hsl:∃ base cap,c0 = .slice base n cap:=by
     rcases ho.2 with ⟨rfl,h0⟩ | ⟨g',cap,cur,rfl,_⟩
     ·exact ⟨none,0,by rw [h0]⟩
     ·exact ⟨_,cap,rfl⟩
    obtain ⟨base,cap,rfl⟩:=hsl;exact ⟨_,by simp [Builtin.len_,hu,goInt],rfl⟩
   ·rename_i lk e' s n g hh
    rw [Aa h];obtain ⟨_,c0,xs,hk0,ho,_⟩:=ZK hg hh (.inr ⟨_,rfl⟩);obtain ⟨hk',_⟩:=hx;rw [hk0] at hk';simp at hk';subst hk';have hsl:∃ base cap,c0 = .slice base n cap:=by
     rcases ho.2 with ⟨rfl,h0⟩ | ⟨g',cap,cur,rfl,_⟩
     ·exact ⟨none,0,by rw [h0]⟩
     ·exact ⟨_,cap,rfl⟩
    obtain ⟨base,cap,rfl⟩:=hsl;exact ⟨_,by simp [Builtin.len_,hu,goInt],rfl⟩
   ·cases h
  ·rename_i e id hkk
   rw [hkk] at hk;have:=Ee hk.symm;subst this;split at h
   ·rename_i j hh
    rw [Aa h];obtain ⟨c0,ms,xs,hk0,hj⟩:=Cd hg hh;obtain ⟨ms',hk',_⟩:=hx;rw [hk0] at hk';obtain ⟨rfl,rfl⟩:=AC hk';obtain ⟨base,cap,rfl⟩:=Br hj.2.2.2.2.1;exact ⟨_,by simp [Builtin.len_,hu,goInt],rfl⟩
   ·cases h
  ·rename_i e id i hkk
   rw [hkk] at hk;have:=Ee hk.symm;subst this;split at h
   ·rename_i j hh
    obtain ⟨hl,h2⟩:=Ab h;rw [Aa h2];obtain ⟨c0,ms,xs,hk0,hj⟩:=Cd hg hh;obtain ⟨o',ms',hk',hm,hs0⟩:=hx;rw [hk0] at hk';obtain ⟨rfl,rfl⟩:=AC hk';have hin:i<j.n:=by
     obtain ⟨a0,n0,cap0,rfl⟩:=hs0;exact hj.ltS hm
    obtain ⟨_,ys,ho,_⟩:=hj.mem hm hin hl;obtain ⟨base,cap,rfl⟩:=Br ho;exact ⟨_,by simp [Builtin.len_,hu,goInt],rfl⟩
   ·cases h
  ·rename_i n e hkk
   rw [hkk] at hk;have:=LY hk.symm;subst this;rw [Aa h];exact ⟨_,by simp [Builtin.len_,hu,goInt],rfl⟩
  ·rename_i e id i hkk
   rw [hkk] at hk;obtain ⟨k,rfl,_,_⟩:=FZ hk.symm;split at h
   ·rename_i j hh
    split at h
    ·rename_i q hq
     obtain ⟨hin,h⟩:=Ab h;obtain ⟨hl,h⟩:=Ab h;obtain ⟨c0,ms,xs,hk0,hj⟩:=Cd hg hh;obtain ⟨o',ms',hk',hm,hs0⟩:=hx;rw [hk0] at hk';obtain ⟨rfl,rfl⟩:=AC hk';rw [(hj.half hq).1] at hm;have hM:=(hj.map hq hm).2;rw [hl] at hM;obtain ⟨b,ob,rfl,hb,hX⟩:=hM;unfold RP at hX;split at hX
     ·obtain ⟨es,clock,rfl,_,hes,_⟩:=hX
      rw [Aa h,<- hes];exact ⟨_,by simp [Builtin.len_,hu,goInt,MapKept.run_getObj_map hb],rfl⟩
     ·exact hX.elim
    ·cases h
   ·cases h
  ·cases h
 ·cases h
theorem FX (k:IntKind) (i:Int):(asIntOf (.int k i)).run P w = .ok (k,i) w:=rfl
theorem Eu {t e:Nat} {te:TypeInfo} {n cap:Nat} {b o':Nat} {k:IntKind} {i:Int} (hd:P.underlying t=some (.slice e)) (hte:P.info? e=some te) (h0:0 <= i) (h1:i<(n:Int)) :
  (Instr.indexAt t (.slice (some ⟨b,o',none⟩) n cap) (.int k i)).run P w = .ok (.pointer (some ⟨b,o'+i.toNat * te.size,none⟩)) w:=by
 simp only [Instr.indexAt,Sem.run_bind,FX,Result.andThen_ok,run_underlying hd,Sem.run_pure];rw [if_pos ⟨h0,h1⟩];simp only [Sem.run_bind,AS hte,Result.andThen_ok,Sem.run_pure,Dl]
theorem H2 {t e:Nat} {te:TypeInfo} {n:Nat} {b o':Nat} {k:IntKind} {i:Int} (hd:P.underlying t=some (.array n e)) (hte:P.info? e=some te) (h0:0 <= i) (h1:i<(n:Int)) :
  (Instr.indexAt t (.pointer (some ⟨b,o',none⟩)) (.int k i)).run P w = .ok (.pointer (some ⟨b,o'+i.toNat * te.size,none⟩)) w:=by
 simp only [Instr.indexAt,Sem.run_bind,FX,Result.andThen_ok,run_underlying hd,Sem.run_pure,Instr.sureAddr];rw [if_pos ⟨h0,h1⟩];simp only [Sem.run_bind,AS hte,Result.andThen_ok,Sem.run_pure,Dl]
include hτ in
theorem Ma (hg:Good κ S st.h w) {t:Nat} {lit:Bool} {x y:V} {cx cy:Value} (hx:VR S w x κ cx) (hy:VR S w y κ cy)
  (hrun:(execOp a.eval o).run P w=((Instr.indexAt t cx cy).run P w).andThen λv w'=>.ok (.value v) w')
  {r:V} (h:(KT τ st t lit x y).sem=some r):HE P a o S w κ r:=by
 unfold KT at h;split at h
 ·rename_i k i ty hty
  rw [Bl hy] at hrun;obtain ⟨_,d,_,hd,hk,_⟩:=hτ.info hty;split at h
  ·rename_i e hkk
   rw [hkk] at hk;have:=Ee hk.symm;subst this;split at h
   ·rename_i te hte
    obtain ⟨ti,_,hti,_,_,hts,_⟩:=hτ.info hte;split at h
    ·rename_i s n g
     split at h
     ·rename_i hs
      have hs:s=te.size:=Nat.eq_of_beq_eq_true hs;obtain ⟨hb,h2⟩:=Ab h;obtain ⟨hb1,hb2⟩:=Bf hb;have hb1:=Ca hb1;have hb2:i<(n:Int):=II hb2;obtain ⟨ay,cap,rfl,_,hel⟩:=hx;have hlt:toN i<n:=by unfold toN; omega
      rcases hel with h0 | ⟨b,o',rfl,hel⟩
      ·omega
      ·obtain ⟨ci,q1,q2,q3,q4⟩:=hel (toN i) hlt
       rw [Aa h2];refine ⟨_,?_,⟨b,o'+toN i * s,ci,rfl,q1,q4⟩⟩;rw [hrun,Eu hd hti hb1 hb2,hs,hts];rfl
     ·cases h
    ·rename_i id n0
     split at h
     ·rename_i e' s n g hh
      split at h
      ·rename_i hs
       have hs:s=te.size:=Nat.eq_of_beq_eq_true hs;obtain ⟨hb,h2⟩:=Ab h;obtain ⟨hb1,hb2⟩:=Bf hb;have hb1:=Ca hb1;have hb2:i<(n0:Int):=II hb2;obtain ⟨_,c0,xs,hk0,ho,_⟩:=E2 hg hh;obtain ⟨a0,n1,cap0,hk',hle,rfl⟩:=hx;rw [hk0] at hk';simp at hk';subst hk';obtain ⟨b1,cap1,h3⟩:=Br ho;simp at h3;obtain ⟨rfl,rfl,rfl⟩:=h3;obtain ⟨gb,cap,cur,h4,_⟩:=D1 ho (by omega);simp at h4;obtain ⟨rfl,rfl⟩:=h4;rw [Aa h2];refine ⟨_,?_,⟨gb,n1,cap0,hk0,rfl⟩⟩;rw [hrun,Eu hd hti hb1 hb2,hs,hts,Nat.zero_add];rfl
      ·cases h
     ·cases h
    ·rename_i id
     split at h
     ·rename_i e' s n g hh
      split at h
      ·rename_i hs
       have hs:s=te.size:=Nat.eq_of_beq_eq_true hs;obtain ⟨hb,h2⟩:=Ab h;obtain ⟨hb1,hb2⟩:=Bf hb;have hb1:=Ca hb1;have hb2:i<(n:Int):=II hb2;obtain ⟨_,c0,xs,hk0,ho,_⟩:=E2 hg hh;obtain ⟨hk',_⟩:=hx;rw [hk0] at hk';simp at hk';subst hk';obtain ⟨gb,cap,cur,rfl,_⟩:=D1 ho (by omega);rw [Aa h2];refine ⟨_,?_,⟨gb,n,cap,hk0,rfl⟩⟩;rw [hrun,Eu hd hti hb1 hb2,hs,hts,Nat.zero_add];rfl
      ·cases h
     ·rename_i e' s n g hh
      split at h
      ·rename_i hs
       have hs:s=te.size:=Nat.eq_of_beq_eq_true hs;obtain ⟨hb,h2⟩:=Ab h;obtain ⟨hb1,hb2⟩:=Bf hb;have hb1:=Ca hb1;have hb2:i<(n:Int):=II hb2;obtain ⟨_,c0,xs,hk0,ho,_⟩:=ZK hg hh (.inr ⟨_,rfl⟩);obtain ⟨hk',_⟩:=hx;rw [hk0] at hk';simp at hk';subst hk';obtain ⟨gb,cap,cur,rfl,_⟩:=D1 ho (by omega);rw [Aa h2];refine ⟨_,?_,⟨gb,n,cap,hk0,rfl⟩⟩;rw [hrun,Eu hd hti hb1 hb2,hs,hts,Nat.zero_add];rfl
      ·cases h
     ·cases h
    ·rename_i id
     split at h
     ·rename_i j hh
      split at h
      ·rename_i hs
       have hs:j.size=te.size:=Nat.eq_of_beq_eq_true hs;obtain ⟨hb,h2⟩:=Ab h;obtain ⟨hb1,hb2⟩:=Bf hb;have hb1:=Ca hb1;have hb2:i<(j.n:Int):=II hb2;obtain ⟨c0,ms,xs,hk0,hj⟩:=Cd hg hh;obtain ⟨ms',hk',_⟩:=hx;rw [hk0] at hk';obtain ⟨rfl,rfl⟩:=AC hk';obtain ⟨gb,cap,cur,rfl,_⟩:=D1 hj.2.2.2.2.1 (by omega);rw [Aa h2];refine ⟨_,?_,⟨gb,j.n,cap,ms,hk0,rfl⟩⟩;rw [hrun,Eu hd hti hb1 hb2,hs,hts,Nat.zero_add];rfl
      ·cases h
     ·cases h
    ·rename_i id q
     split at h
     ·rename_i j hh
      split at h
      ·rename_i hs
       have hs:j.s'=te.size:=Nat.eq_of_beq_eq_true hs;obtain ⟨hl,h2⟩:=Ab h;obtain ⟨hb,h2⟩:=Ab h2;obtain ⟨hb1,hb2⟩:=Bf hb;have hb1:=Ca hb1;have hb2:i<(j.len q:Int):=II hb2;obtain ⟨c0,ms,xs,hk0,hj⟩:=Cd hg hh;obtain ⟨o',ms',hk',hm,hs0⟩:=hx;rw [hk0] at hk';obtain ⟨rfl,rfl⟩:=AC hk';have hin:q<j.n:=by
        obtain ⟨a0,n0,cap0,rfl⟩:=hs0;exact hj.ltS hm
       obtain ⟨_,ys,ho,_⟩:=hj.mem hm hin hl;obtain ⟨gb,cap,cur,rfl,_⟩:=D1 ho (by omega);rw [Aa h2];refine ⟨_,?_,⟨c0,ms,gb,j.len q,cap,hk0,hm,rfl⟩⟩;rw [hrun,Eu hd hti hb1 hb2,hs,hts,Nat.zero_add];rfl
      ·cases h
     ·cases h
    ·cases h
   ·cases h
  ·rename_i len e hkk
   rw [hkk] at hk;have:=LY hk.symm;subst this;split at h
   ·rename_i te hte
    obtain ⟨ti,_,hti,_,_,hts,_⟩:=hτ.info hte;split at h
    ·rename_i id off
     obtain ⟨g,hk0,hcx⟩:=hx;have fin:∀ (j:Nat),0 <= i->i<(len:Int)->j=toN i->r = .ptr id (Nat.add off (Nat.mul j te.size))->HE P a o S w κ r:=by
      intro j h0 h1 hj hr;rw [hr];refine ⟨_,?_,⟨g,hk0,rfl⟩⟩;rw [hrun,hcx,H2 hd hti h0 h1,hj,hts];rfl
     split at h
     ·split at h
      ·rename_i hl
       obtain ⟨l1,l2⟩:=J1 hl;exact fin _ l1 l2 rfl (Aa h)
      ·cases h
     ·obtain ⟨j,j1,j2,j3,j4⟩:=JX h
      exact fin j (by omega) (by omega) (by unfold toN; omega) (Aa j4)
    ·rename_i v0
     obtain ⟨b,o',cv,hcx,q1,q2⟩:=hx;have fin:∀ (j:Nat) (v:V),0 <= i->i<(len:Int)->j=toN i->EQ τ e v0 (Nat.mul j te.size)=some v->r = .pp v->HE P a o S w κ r:=by
      intro j v h0 h1 hj hv hr;rw [hr];refine ⟨_,?_,YJ (P:=P) hτ hv q1 q2⟩;rw [hrun,hcx,H2 hd hti h0 h1,hj,hts];rfl
     split at h
     ·split at h
      ·rename_i hl
       obtain ⟨l1,l2⟩:=J1 hl;split at h
       ·rename_i v hv
        exact fin _ v l1 l2 rfl hv (Aa h)
       ·cases h
      ·cases h
     ·split at h
      ·rename_i ps hl hps
       obtain ⟨hb,h2⟩:=Ab h;obtain ⟨hb1,hb2⟩:=Bf hb;have hb1:=Ca hb1;have hb2:i<(len:Int):=II hb2;obtain ⟨p1,p2⟩:=NY hps;have hj:toN i<len:=by unfold toN; omega
       have hp:=p2 (toN i) hj;rw [Nat.zero_add] at hp;exact fin (toN i) _ hb1 hb2 rfl (by rw [Vq _ _ (by omega)]; exact hp) (Aa h2)
      ·obtain ⟨j,j1,j2,j3,j4⟩:=JX h
       split at j4
       ·rename_i v hv
        exact fin j v (by omega) (by omega) (by unfold toN; omega) hv (Aa j4)
       ·cases j4
    ·rename_i id s
     obtain ⟨gb,n0,cap,hk0,hcx⟩:=hx;split at h
     ·rename_i e' s' n g hh
      split at h
      ·rename_i hs1 hs2 hs3
       have hs2:s=te.size:=Nat.eq_of_beq_eq_true hs2;have hs3:n=len:=Nat.eq_of_beq_eq_true hs3;obtain ⟨hb,h2⟩:=Ab h;obtain ⟨hb1,hb2⟩:=Bf hb;have hb1:=Ca hb1;have hb2:i<(n:Int):=II hb2;rw [Aa h2];refine ⟨_,?_,⟨gb,n0,cap,hk0,rfl⟩⟩;rw [hrun,hcx,H2 hd hti hb1 (by omega),hs2,hts];simp [Result.andThen,toN]
      ·cases h
     ·cases h
    ·cases h
   ·cases h
  ·cases h
 ·cases h
include hτ in
theorem AdS {t:Nat} {lit:Bool} {x y v:V} {cx cy:Value} (hx:VR S w x κ cx) (hy:VR S w y κ cy)
  (hrun:(execOp a.eval o).run P w=((Instr.index t cx cy).run P w).andThen λv w'=>.ok (.value v) w')
  (h:(XG τ t lit x y).sem=some v):HE P a o S w κ v:=by
 unfold XG at h;split at h
 ·rename_i k i ty hty
  rw [Bl hy] at hrun;obtain ⟨_,d,_,hd,hk,_⟩:=hτ.info hty;split at h
  ·rename_i l hkk
   rw [hkk] at hk;have:=Kj hk.symm;subst this;obtain ⟨hb,h2⟩:=Ab h;obtain ⟨hb1,hb2⟩:=Bf hb;have hb1:=Ca hb1;have hb2:i<(l.length:Int):=II hb2;have hlt:i.toNat<l.length:=by omega
   rw [Aa h2];refine ⟨_,?_,rfl⟩;rw [hrun,JI hx];have hg:(⟨l.toArray⟩:ByteArray)[i.toNat]? = some l[i.toNat]:=by
    rw [getElem?_pos (⟨l.toArray⟩:ByteArray) i.toNat (by simpa [ByteArray.size] using hlt)];rfl
   simp only [Instr.index,Sem.run_bind,FX,Result.andThen_ok,run_underlying hd];rw [if_pos hb1,hg];simp [Ov,toN,hlt]
  ·rename_i len e cs hkk
   rw [hkk] at hk;have:=LY hk.symm;subst this;split at h
   ·rename_i te hte
    obtain ⟨ti,_,hti,_,_,hts,_⟩:=hτ.info hte;obtain ⟨ca,rfl,hr⟩:=hx;have fin:∀ (j:Nat),0 <= i->i<(len:Int)->j=toN i->HS τ e cs (Nat.mul j te.size)=some v->HE P a o S w κ v:=by
     intro j h0 h1 hj hv;obtain ⟨c,q1,q2,_⟩:=Ew (P:=P) hτ hv hr;refine ⟨c,?_,q2⟩;rw [hrun];simp only [Instr.index,Sem.run_bind,FX,Result.andThen_ok,run_underlying hd];rw [if_pos ⟨h0,h1⟩];have q1':(part e ca.toArray (i.toNat * ti.size)).run P w = .ok c w:=by
      rw [<- hts];rw [hj] at q1;exact q1
     simp only [Sem.run_bind,AS hti,Result.andThen_ok,q1']
    split at h
    ·split at h
     ·rename_i hl
      obtain ⟨l1,l2⟩:=J1 hl;exact fin _ l1 l2 rfl (Df h)
     ·cases h
    ·obtain ⟨j,j1,j2,j3,j4⟩:=JX h
     exact fin j (by omega) (by omega) (by unfold toN; omega) (Df j4)
   ·cases h
  ·cases h
 ·cases h
end
end Go.Sy
namespace Go.Sy
def HI (P:Program) (f:FuncId):Prop:=∃ fn,P.funcs[f]? = some fn∧fn.name ≠ "runtime.NumGoroutine"∧fn.body.isSome=true
def Ou (P:Program) (f:FuncId) (cs:List Value) (w:World) (R:Ending->World->Prop):Prop :=
 (HI P f∧Calls P f cs.toArray w R) ∨ ∃ c w',(callFunc f cs.toArray).run P w = .ok (.value c) w'∧R (.returned c) w'
theorem Ou.mono {P:Program} {f:FuncId} {cs:List Value} {w:World} {R R':Ending->World->Prop} (h:Ou P f cs w R) (hr:∀ e w',R e w'->R' e w'):Ou P f cs w R' :=
 h.elim (λh=>.inl ⟨h.1,h.2.mono hr⟩) λ⟨c,w',h1,h2⟩=>.inr ⟨c,w',h1,hr _ _ h2⟩
def ZS (κ κ':Ai) (w w':World) (l:List Blk):Prop :=
 (∀ id c,κ id=some c->κ' id=some c)∧(AdF (.more l)=true->∀ b,b<w.heap.size->w'.heap[b]? = w.heap[b]?)
def W9 (κ κ':Ai) (S':Nat->Prop) (w w':World) (l:List Value):Res->Prop
 | .more l=>ZS κ κ' w w' l
 | .all st'=>VRs S' w' st'.t κ' l
def Bb (P:Program) (Γ:Cx0):Prop:=∀ f vs cs κ S (st:St) l w v r,Good κ S st.h w->CC Γ S w->VRs S w vs κ cs->VRs S w st.t κ l->(Γ.call f vs st).sem=some (v,r) ->
 Ou P f cs w λe w'=>∃ c κ' S',e = .returned c∧Good κ' S' (Hf st r).h w'∧VR S' w' v κ' c∧Ext κ S st.h w κ' S' (Hf st r).h w'∧W9 κ κ' S' w w' l r
section
variable {P:Program} {τ:List Ty} (hτ:TabOK P τ) {Γ:Cx0} {S:Nat->Prop} {w:World} {κ:Ai} {st:St} {a:Act} {o:Oper}
 {K:Act->World->Prop} {Q:Exit->Act->World->Prop} {r:V×St}
theorem M6 {f:FuncId} (h:HI P f) (args:Array Value) (w:World):(callFunc f args).run P w = .ok (.enter f args) w:=by
 obtain ⟨fn,h1,h2,h3⟩:=h;have h4:fn.body.isNone=false:=by
  cases hb:fn.body with
  | none=>rw [hb] at h3; cases h3
  | some _=>rfl
 have h5:(fn.name == "runtime.NumGoroutine")=false:=by simpa using h2
 simp only [callFunc,Sem.run_bind,run_program,Result.andThen_ok,h1,h5,h4,Bool.false_eq_true,if_false,Sem.run_pure]
def Afa (a:Act) (o:Oper) (κ:Ai) (S:Nat->Prop) (h:List Blk) (w:World) (K:Act->World->Prop) (h':List Blk) (v:V):Prop :=
 ∀ κ' S' c w',Good κ' S' h' w'->VR S' w' v κ' c->Ext κ S h w κ' S' h' w'->(∀ id c,κ id=some c->κ' id=some c)->K (a.put o.dst c) w'
theorem Xe (hg:Good κ S st.h w) {v:V} (h:HE P a o S w κ v) (hp:Afa a o κ S st.h w K st.h v):o.wp P a w K Q:=by
 obtain ⟨c,h1,h2⟩:=h;unfold Oper.wp;rw [h1];exact hp κ S c w hg h2 (Ext.refl _ _ _ _) (λ_ _ h=>h)
theorem U8 (hΓ:Bb P Γ) (hg:Good κ S st.h w) (hE:CC Γ S w) (ht:VRs S w st.t κ a.tmps.toList) {c:Call} {f:Operand} (ho:o.op = .call c) (hc:c.callee = .value f) {g:FuncId} {caps:List V}
  (hf:ev Γ st f = .fn g caps) {v:V} {r:Res} (h1:(Γ.call g (args Γ st c.args.toList++caps) st).sem=some (v,r))
  (hp:∀ κ' S' c w',Good κ' S' (Hf st r).h w'->VR S' w' v κ' c->Ext κ S st.h w κ' S' (Hf st r).h w'->W9 κ κ' S' w w' a.tmps.toList r->K (a.put o.dst c) w'):o.wp P a w K Q:=by
 have hfv:=AT hE ht f;rw [hf] at hfv;obtain ⟨ca,hfe,hcap⟩:=hfv;have hargs:VRs S w (args Γ st c.args.toList++caps) κ (c.args.toList.map a.eval++ca):=(Fv hE ht _).append hcap;have harr:(c.args.toList.map a.eval++ca).toArray=#[]++c.args.map a.eval++ca.toArray:=by
  apply Array.ext';simp
 rcases hΓ g _ _ κ S st _ w v r hg hE hargs ht h1 with ⟨hen,hcalls⟩ | ⟨c0,w',hval,cv,κ',S',he,q1,q2,q3,q4⟩
 ·have hrun:(execOp a.eval o).run P w = .ok (.enter g (c.args.toList.map a.eval++ca).toArray) w:=by
   unfold execOp;simp only [ho,resolve,hc,hfe,Deferred.ofValue,Sem.run_bind,Sem.run_pure,Result.andThen_ok,invoke,M6 hen,harr]
  unfold Oper.wp;rw [hrun];refine hcalls.mono ?_
  rintro e w' ⟨cv,κ',S',rfl,q1,q2,q3,q4⟩
  exact hp κ' S' cv w' q1 q2 q3 q4
 ·cases he
  have hrun:(execOp a.eval o).run P w = .ok (.value c0) w':=by
   unfold execOp;simp only [ho,resolve,hc,hfe,Deferred.ofValue,Sem.run_bind,Sem.run_pure,Result.andThen_ok,invoke,<- harr,hval]
  unfold Oper.wp;rw [hrun];exact hp κ' S' c0 w' q1 q2 q3 q4
theorem JU {k:IntKind} {i:Int} {y:Nat} (code:BoundsCode) (h0:0 <= i) (h1:i <= (y:Int)):(Instr.sliceBound (.int k i) y code).run P w = .ok i.toNat w:=by
 simp only [Instr.sliceBound,Sem.run_bind,FX,Result.andThen_ok];rw [if_pos ⟨h0,h1⟩];rfl
theorem I0 (b:Bool) (len cap:Nat) (lo hi:Option (IntKind×Int)) (L H:Nat) (hh:∀ p,hi=some p->0 <= p.2∧p.2 <= (cap:Int)∧H=p.2.toNat) (hn:hi=none->H=len)
  (hl:∀ p,lo=some p->0 <= p.2∧p.2 <= (H:Int)∧L=p.2.toNat) (hln:lo=none->L=0) :
  (Instr.sliceBounds b len cap (lo.map λp=>.int p.1 p.2) (hi.map λp=>.int p.1 p.2) none).run P w = .ok (L,H,cap) w:=by
 cases hi with
 | none =>
  have hn:=hn rfl;subst hn;cases lo with
  | none =>have hln:=hln rfl;subst hln;rfl
  | some p =>obtain ⟨h1,h2,h3⟩:=hl p rfl;subst h3;simp only [Instr.sliceBounds,Option.map_some,Option.map_none,Sem.run_bind,Sem.run_pure,Result.andThen_ok,JU _ h1 h2]
 | some q =>
  obtain ⟨h4,h5,h6⟩:=hh q rfl;subst h6;cases lo with
  | none =>have hln:=hln rfl;subst hln;simp only [Instr.sliceBounds,Option.map_some,Option.map_none,Sem.run_bind,Sem.run_pure,Result.andThen_ok,JU _ h4 h5]
  | some p =>obtain ⟨h1,h2,h3⟩:=hl p rfl;subst h3;simp only [Instr.sliceBounds,Option.map_some,Sem.run_bind,Sem.run_pure,Result.andThen_ok,JU _ h4 h5,JU _ h1 h2]
include hτ in
theorem Aco (hg:Good κ S st.h w) {t:Nat} {x:V} {lo hi:Option V} {cx:Value} {clo chi:Option Value} (hx:VR S w x κ cx)
  (hlo:∀ v,lo=some v->∃ c,clo=some c∧VR S w v κ c) (hlo':lo=none->clo=none) (hhi:∀ v,hi=some v->∃ c,chi=some c∧VR S w v κ c) (hhi':hi=none->chi=none)
  (hrun:(execOp a.eval o).run P w=((Instr.sliceAt t cx clo chi none).run P w).andThen λv w'=>.ok (.value v) w')
  {r:V} (h:(Xa τ st t x lo hi).sem=some r):HE P a o S w κ r:=by
 unfold Xa at h;split at h
 ·rename_i ty hty
  obtain ⟨_,d,_,hd,hk,_⟩:=hτ.info hty;split at h
  ·rename_i l hkk
   rw [hkk] at hk;have:=Kj hk.symm;subst this;have hcx:=JI hx;subst hcx;have hsz:(⟨l.toArray⟩:ByteArray).size=l.length:=by simp [ByteArray.size]
   have hext:∀ i j:Nat,(⟨l.toArray⟩:ByteArray).extract i j=⟨((l.take j).drop i).toArray⟩:=by
    intro i j;apply ByteArray.ext;apply Array.ext';simp [ByteArray.data_extract,List.drop_take]
   have fin:∀ (plo phi:Option (IntKind×Int)) (L H:Nat),clo=plo.map (λp=>.int p.1 p.2)->chi=phi.map (λp=>.int p.1 p.2) ->
     (∀ p,phi=some p->0 <= p.2∧p.2 <= (l.length:Int)∧H=p.2.toNat)->(phi=none->H=l.length)->(∀ p,plo=some p->0 <= p.2∧p.2 <= (H:Int)∧L=p.2.toNat)->(plo=none->L=0) ->
     r = .str ((l.take H).drop L)->HE P a o S w κ r:=by
    intro plo phi L H e1 e2 b1 b2 b3 b4 hr;rw [hr];refine ⟨.string ⟨((l.take H).drop L).toArray⟩,?_,rfl⟩;rw [hrun,e1,e2];have hb:=I0 (P:=P) (w:=w) false l.length l.length plo phi L H b1 b2 b3 b4;simp only [Instr.sliceAt,Sem.run_bind,run_underlying hd,Result.andThen_ok,Instr.slice,Option.isSome_none,Bool.false_eq_true,if_false,hsz,hb,Sem.run_pure,hext]
   split at h
   ·refine fin none none 0 l.length (hlo' rfl) (hhi' rfl) (λ_ h=>by cases h) (λ_=>rfl) (λ_ h=>by cases h) (λ_=>rfl) ?_
    rw [Aa h]; simp
   ·rename_i k x
    obtain ⟨c1,hc1,hv1⟩:=hlo _ rfl;obtain ⟨hb,h2⟩:=Ab h;obtain ⟨hb1,hb2⟩:=Bf hb;have hb1:=Ca hb1;have hb2:x <= (l.length:Int):=Ca hb2;refine fin (some (k,x)) none (toN x) l.length (by rw [hc1,Bl hv1]; rfl) (hhi' rfl) (λ_ h=>by cases h) (λ_=>rfl) (λp hp=>by cases hp; exact ⟨hb1,hb2,rfl⟩) (λh=>by cases h) ?_;rw [Aa h2]; simp [K2]
   ·rename_i k x
    obtain ⟨c1,hc1,hv1⟩:=hhi _ rfl;obtain ⟨hb,h2⟩:=Ab h;obtain ⟨hb1,hb2⟩:=Bf hb;have hb1:=Ca hb1;have hb2:x <= (l.length:Int):=Ca hb2;refine fin none (some (k,x)) 0 (toN x) (hlo' rfl) (by rw [hc1,Bl hv1]; rfl) (λp hp=>by cases hp; exact ⟨hb1,hb2,rfl⟩) (λh=>by cases h) (λ_ h=>by cases h) (λ_=>rfl) ?_;rw [Aa h2]; simp [K0]
   ·rename_i k x k' y
    obtain ⟨c1,hc1,hv1⟩:=hlo _ rfl;obtain ⟨c2,hc2,hv2⟩:=hhi _ rfl;obtain ⟨hb,h2⟩:=Ab h;obtain ⟨hb1,hb⟩:=Bf hb;obtain ⟨hb2,hb3⟩:=Bf hb;have hb1:=Ca hb1;have hb2:=Ca hb2;have hb3:y <= (l.length:Int):=Ca hb3;refine fin (some (k,x)) (some (k',y)) (toN x) (toN y) (by rw [hc1,Bl hv1]; rfl) (by rw [hc2,Bl hv2]; rfl) (λp hp=>by cases hp; exact ⟨by show 0 <= y; omega,hb3,rfl⟩) (λh=>by cases h)
     (λp hp=>by cases hp; exact ⟨hb1,by unfold toN; show x <= _; omega,rfl⟩) (λh=>by cases h) ?_
    rw [Aa h2]; simp [K0,K2]
   ·cases h
  ·rename_i e s n g hkk
   rw [hkk] at hk;have:=Ee hk.symm;subst this;obtain ⟨ay,cap,rfl,hcap,hel⟩:=hx;split at h
   ·rename_i te hte
    obtain ⟨ti,_,hti,_,_,hts,_⟩:=hτ.info hte;split at h
    ·rename_i hs
     have hs:s=ti.size:=by rw [<- hts]; exact Nat.eq_of_beq_eq_true hs
     have fin:∀ (plo phi:Option (IntKind×Int)) (L H:Nat) (g':Nat->V),clo=plo.map (λp=>.int p.1 p.2)->chi=phi.map (λp=>.int p.1 p.2) ->
       (∀ p,phi=some p->0 <= p.2∧p.2 <= (n:Int)∧H=p.2.toNat)->(phi=none->H=n)->(∀ p,plo=some p->0 <= p.2∧p.2 <= (H:Int)∧L=p.2.toNat)->(plo=none->L=0) ->
       (∀ i,g' i=g (L+i))->r = .sl s (H-L) g'->HE P a o S w κ r:=by
      intro plo phi L H g' e1 e2 b1 b2 b3 b4 hg' hr;have hHn:H <= n:=by
       cases phi with
       | none=>rw [b2 rfl]; exact Nat.le_refl _
       | some p=>obtain ⟨q1,q2,q3⟩:=b1 p rfl; omega
      rw [hr];refine ⟨.slice (if cap=L then ay else ay.map (·.add (L * ti.size))) (H-L) (cap-L),?_,?_⟩
      ·rw [hrun,e1,e2]
       have hb:=I0 (P:=P) (w:=w) true n cap plo phi L H (λp hp=>by obtain ⟨q1,q2,q3⟩:=b1 p hp; exact ⟨q1,by omega,q3⟩) b2 b3 b4;simp only [Instr.sliceAt,Sem.run_bind,run_underlying hd,Result.andThen_ok,Instr.slice,hb,AS hti,Sem.run_pure]
      ·refine ⟨_,_,rfl,by omega,?_⟩
       by_cases hz:H-L=0
       ·exact .inl hz
       ·right
        rcases hel with h0 | ⟨b,o',rfl,hel⟩
        ·omega
        ·refine ⟨b,o'+L * s,?_,λi hi=>?_⟩
         ·rw [if_neg (by omega),Option.map_some,Dl,hs]
         ·obtain ⟨ci,q1,q2,q3,q4⟩:=hel (L+i) (by omega)
          refine ⟨ci,by rw [hg']; exact q1,q2,q3,?_⟩;rw [show o'+L * s+i * s=o'+(L+i) * s by rw [Nat.add_mul,Nat.add_assoc]];exact q4
     split at h
     ·refine fin none none 0 n g (hlo' rfl) (hhi' rfl) (λ_ h=>by cases h) (λ_=>rfl) (λ_ h=>by cases h) (λ_=>rfl) (λi=>by rw [Nat.zero_add]) ?_
      rw [Aa h]; simp
     ·rename_i k x
      obtain ⟨c1,hc1,hv1⟩:=hlo _ rfl;obtain ⟨hb,h2⟩:=Ab h;obtain ⟨hb1,hb2⟩:=Bf hb;have hb1:=Ca hb1;have hb2:x <= (n:Int):=Ca hb2;exact fin (some (k,x)) none (toN x) n _ (by rw [hc1,Bl hv1]; rfl) (hhi' rfl) (λ_ h=>by cases h) (λ_=>rfl) (λp hp=>by cases hp; exact ⟨hb1,hb2,rfl⟩) (λh=>by cases h) (λ_=>rfl) (Aa h2)
     ·rename_i k x
      obtain ⟨c1,hc1,hv1⟩:=hhi _ rfl;obtain ⟨hb,h2⟩:=Ab h;obtain ⟨hb1,hb2⟩:=Bf hb;have hb1:=Ca hb1;have hb2:x <= (n:Int):=Ca hb2;exact fin none (some (k,x)) 0 (toN x) _ (hlo' rfl) (by rw [hc1,Bl hv1]; rfl) (λp hp=>by cases hp; exact ⟨hb1,hb2,rfl⟩) (λh=>by cases h) (λ_ h=>by cases h) (λ_=>rfl) (λi=>by rw [Nat.zero_add]) (Aa h2)
     ·rename_i k x k' y
      obtain ⟨c1,hc1,hv1⟩:=hlo _ rfl;obtain ⟨c2,hc2,hv2⟩:=hhi _ rfl;obtain ⟨hb,h2⟩:=Ab h;obtain ⟨hb1,hb⟩:=Bf hb;obtain ⟨hb2,hb3⟩:=Bf hb;have hb1:=Ca hb1;have hb2:=Ca hb2;have hb3:y <= (n:Int):=Ca hb3;exact fin (some (k,x)) (some (k',y)) (toN x) (toN y) _ (by rw [hc1,Bl hv1]; rfl) (by rw [hc2,Bl hv2]; rfl) (λp hp=>by cases hp; exact ⟨by show 0 <= y; omega,hb3,rfl⟩) (λh=>by cases h)
       (λp hp=>by cases hp; exact ⟨hb1,by unfold toN; show x <= _; omega,rfl⟩) (λh=>by cases h) (λ_=>rfl) (Aa h2)
     ·cases h
    ·cases h
   ·cases h
  ·rename_i e s n m g hkk
   rw [hkk] at hk;have:=Ee hk.symm;subst this;obtain ⟨ay,cap,rfl,hnm,hcap,hel⟩:=hx;split at h
   ·rename_i te hte
    obtain ⟨ti,_,hti,_,_,hts,_⟩:=hτ.info hte;split at h
    ·rename_i hs
     split at h
     ·rename_i k x
      obtain ⟨c1,hc1,hv1⟩:=hhi _ rfl;obtain ⟨hb,h2⟩:=Ab h;obtain ⟨hb1,hb2⟩:=Bf hb;have hb1:=Ca hb1;have hb2:x <= (m:Int):=Ca hb2;have htx:toN x=x.toNat:=rfl;have hr:=Aa h2;subst hr;refine ⟨.slice (if cap=0 then ay else ay.map (·.add (0 * ti.size))) (toN x-0) (cap-0),?_,?_⟩
      ·rw [hrun,show clo=(none:Option (IntKind×Int)).map (λp=>Value.int p.1 p.2) from hlo' rfl,show chi=(some (k,x)).map (λp=>Value.int p.1 p.2) by rw [hc1,Bl hv1]; rfl]
       have hb:=I0 (P:=P) (w:=w) true n cap none (some (k,x)) 0 (toN x) (λp hp=>by cases hp; exact ⟨hb1,by show x <= _; omega,rfl⟩) (λh=>by cases h) (λ_ h=>by cases h) (λ_=>rfl);simp only [Instr.sliceAt,Sem.run_bind,run_underlying hd,Result.andThen_ok,Instr.slice,hb,AS hti,Sem.run_pure]
      ·refine ⟨_,_,rfl,by omega,?_⟩
       by_cases hz:toN x=0
       ·exact .inl hz
       ·right
        rcases hel with h0 | ⟨b,o',rfl,hel⟩
        ·omega
        ·refine ⟨b,o',?_,λi hi=>hel i (by omega)⟩
         rw [if_neg (by omega),Option.map_some,Dl,Nat.zero_mul,Nat.add_zero]
     ·cases h
    ·cases h
   ·cases h
  ·rename_i e id hkk
   rw [hkk] at hk;have:=Ee hk.symm;subst this;split at h
   ·rename_i e' s n g hh
    split at h
    ·rename_i te hte
     obtain ⟨ti,_,hti,_,_,hts,_⟩:=hτ.info hte;split at h
     ·split at h
      ·rename_i k x
       obtain ⟨c1,hc1,hv1⟩:=hhi _ rfl;obtain ⟨hb,h2⟩:=Ab h;obtain ⟨hb1,hb2⟩:=Bf hb;have hb1:=Ca hb1;have hb2:x <= (n:Int):=Ca hb2;have htx:toN x=x.toNat:=rfl;have hr:=Aa h2;subst hr;obtain ⟨_,c0,xs,hk0,ho,_⟩:=E2 hg hh;obtain ⟨hk',_⟩:=hx;rw [hk0] at hk';simp at hk';subst hk';have hsl:∃ ay cap,c0 = .slice ay n cap∧n <= cap∧(ay=none->cap=0)∧∀ a,ay=some a->a.add 0=a:=by
        rcases ho.2 with ⟨rfl,h0⟩ | ⟨g',cap,cur,rfl,_,_,hnc,_⟩
        ·exact ⟨none,0,by rw [h0],by omega,λ_=>rfl,λ_ h=>by cases h⟩
        ·exact ⟨_,cap,rfl,hnc,λh=>(by cases h),λa h=>by simp at h; subst h; rw [Dl,Nat.add_zero]⟩
       obtain ⟨ay,cap,rfl,hcap,hnn,hadd⟩:=hsl;refine ⟨.slice (if cap=0 then ay else ay.map (·.add (0 * ti.size))) (toN x-0) (cap-0),?_,ay,n,cap,hk0,by omega,?_⟩
       ·rw [hrun,show clo=(none:Option (IntKind×Int)).map (λp=>Value.int p.1 p.2) from hlo' rfl,show chi=(some (k,x)).map (λp=>Value.int p.1 p.2) by rw [hc1,Bl hv1]; rfl]
        have hbd:=I0 (P:=P) (w:=w) true n cap none (some (k,x)) 0 (toN x) (λp hp=>by cases hp; exact ⟨hb1,by show x <= _; omega,rfl⟩) (λh=>by cases h) (λ_ h=>by cases h) (λ_=>rfl);simp only [Instr.sliceAt,Sem.run_bind,run_underlying hd,Result.andThen_ok,Instr.slice,hbd,AS hti,Sem.run_pure]
       ·cases ay with
        | none=>simp
        | some a0=>rw [Nat.zero_mul,Option.map_some,hadd _ rfl]; simp
      ·cases h
     ·cases h
    ·cases h
   ·cases h
  ·cases h
 ·cases h
end
end Go.Sy
