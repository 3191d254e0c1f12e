/-
  The evaluator's operations on own memory are the model's: new blocks, loads, stores. No conditions.
-/
import Derived.Test.YtkbgidbledjejaaGreatSyF
import Derived.Laws.BytesString
namespace Go.Sy
def CC (Γ:Cx0) (S:Nat->Prop) (w:World):Prop:=∀ g,VR S w (Γ.glob g) noK (.pointer (some ⟨g,0,none⟩))
theorem OC (κ:Ai):∀ id c,noK id=some c->κ id=some c:=λ_ _ h=>by cases h
def F4 (a:Act) (o:Oper) (κ:Ai) (S:Nat->Prop) (st:St) (w:World) (K:Act->World->Prop) (r:V×St):Prop :=
 ∀ κ' S' c w',Good κ' S' r.2.h w'->VRs S' w' r.2.t κ' a.tmps.toList->VR S' w' r.1 κ' c->Ext κ S st.h w κ' S' r.2.h w'->K (a.put o.dst c) w'
section
variable {P:Program} {τ:List Ty} (hτ:TabOK P τ) {Γ:Cx0} {S:Nat->Prop} {w:World} {κ:Ai} {st:St} {a:Act} {o:Oper}
 {K:Act->World->Prop} {Q:Exit->Act->World->Prop} {r:V×St}
theorem AT (hE:CC Γ S w) (ht:VRs S w st.t κ a.tmps.toList) (x:Operand):VR S w (ev Γ st x) κ (a.eval x):=by
 cases x with
 | tmp t =>have:=ht.nth t undef;simpa [ev,Act.eval] using this
 | const v=>exact C4 v
 | global g=>exact VR.mono (λb hb=>⟨hb,rfl⟩) _ _ _ _ (OC κ) (hE g)
 | func f=>exact ⟨[],rfl,rfl⟩
theorem Fv (hE:CC Γ S w) (ht:VRs S w st.t κ a.tmps.toList):∀ (l:List Operand),VRs S w (args Γ st l) κ (l.map a.eval)
 | []=>rfl
 | x::l=>⟨_,_,rfl,AT hE ht x,Fv hE ht l⟩
theorem N6 (hE:CC Γ S w) (ht:VRs S w st.t κ a.tmps.toList):∀ (l:List (Nat×Operand)),PartsR S w κ (evs Γ st l) (l.map λp=>(p.1,a.eval p.2))
 | []=>.nil
 | (_,x)::l=>.cons (AT hE ht x) (N6 hE ht l)
theorem Ada (hg:Good κ S st.h w) (ht:VRs S w st.t κ a.tmps.toList) {v:V} {c:Value} (hrun:(execOp a.eval o).run P w = .ok (.value c) w) (hv:VR S w v κ c)
  (hp:F4 a o κ S st w K (v,st)):o.wp P a w K Q:=by
 unfold Oper.wp;rw [hrun];exact hp κ S c w hg ht hv (Ext.refl _ _ _ _)
theorem Ni (hg:Good κ S st.h w) (ht:VRs S w st.t κ a.tmps.toList) {b:Blk} {v:Nat->V} {c:Value} {w':World} (hrun:(execOp a.eval o).run P w = .ok (.value c) w')
  (hw:∀ k,k<w.heap.size->w'.heap[k]? = w.heap[k]?) (hsz:w.heap.size <= w'.heap.size) (hos:w'.os=w.os) (htape:w'.tape=w.tape) (hout:w'.output=w.output)
  (hB:A7 S w' (AZ κ st.h.length c) (some c) b) (hc:Ak (some c)=none ∨ Ak (some c)=some w.heap.size)
  (hv:VR S w' (v st.h.length) (AZ κ st.h.length c) c) (h:(Ea st b v).sem=some r) (hp:F4 a o κ S st w K r) (hnx:∀ e s n g,b ≠ .xrow false e s n g:=by simp) (hpl:F6 b:=by trivial):o.wp P a w K Q:=by
 have hr:=Aa h;subst hr;unfold Oper.wp;rw [hrun];refine hp (AZ κ st.h.length c) S c w' (hg.push b c hw hsz hB hc hpl) ?_ hv (Ext.push b c hw hsz hos htape hout hc hpl hnx);exact VR.mono_go (λb hb=>⟨hb,hw b (hg.out b hb).1⟩) _ _ _ _ (hg.addK_sub c) ht
theorem YQ (hg:Good κ S st.h w) (ht:VRs S w st.t κ a.tmps.toList) {b:Blk} {v:Nat->V} {c k:Value} {w':World} (hrun:(execOp a.eval o).run P w = .ok (.value c) w')
  (hw:∀ k,k<w.heap.size->w'.heap[k]? = w.heap[k]?) (hsz:w.heap.size <= w'.heap.size) (hos:w'.os=w.os) (htape:w'.tape=w.tape) (hout:w'.output=w.output)
  (hB:A7 S w' (AZ κ st.h.length k) (some k) b) (hc:∀ g,inBlk (some k) g b->w.heap.size <= g)
  (hv:VR S w' (v st.h.length) (AZ κ st.h.length k) c) (h:(Ea st b v).sem=some r) (hp:F4 a o κ S st w K r) (hnx:¬ CB b):o.wp P a w K Q:=by
 have hr:=Aa h;subst hr;unfold Oper.wp;rw [hrun];refine hp (AZ κ st.h.length k) S c w' (hg.push' b k hw hsz hB hc) ?_ hv (Ext.push' b k hw hsz hos htape hout hc hnx);exact VR.mono_go (λb hb=>⟨hb,hw b (hg.out b hb).1⟩) _ _ _ _ (hg.addK_sub k) ht
theorem Bj (j:Jag):¬ CB (.jag j):=λh=>by rcases h with ⟨_,_,_,_,h⟩ | ⟨_,h⟩ <;> cases h
theorem Ue (e size off e' s':Nat) (hs:0<size) (ho:off<size) (hs':0<s') (get:Nat->V) (live:Nat->Bool) (len:Nat->Nat) (mem:Nat->Nat->V) :
  HH S w ⟨e,size,0,get,off,e',s',live,len,mem,none⟩ (.slice none 0 0) #[] [] :=
 ⟨hs,hs',⟨ho,λq h=>by cases h⟩,rfl,World.ownsRow_nil w 0 _ _,by simp,λi hi=>absurd hi (Nat.not_lt_zero _),λi m hm=>by simp at hm,λi m g hm=>by simp at hm⟩
theorem NR {τ:List Ty}:∀ {l:List (Nat×Nat)} {off e' s':Nat},Jo τ l=some (off,e',s')->0<s'∧∃ t ty te,(off,t) ∈ l∧τ[t]? = some ty∧ty.k = .sl e'∧τ[e']? = some te∧te.size=s'
 | [],_,_,_,h=>by cases h
 | (o,t)::l,off,e',s',h=>by
   have rec':Jo τ l=some (off,e',s')->0<s'∧∃ t1 ty te,(off,t1) ∈ (o,t)::l∧τ[t1]? = some ty∧ty.k = .sl e'∧τ[e']? = some te∧te.size=s':=λh=>by
    obtain ⟨h0,t1,ty,te,h1,h2⟩:=NR h;exact ⟨h0,t1,ty,te,List.mem_cons_of_mem _ h1,h2⟩
   unfold Jo at h;split at h
   ·rename_i ty hty
    split at h
    ·rename_i e hk
     split at h
     ·rename_i te hte
      split at h
      ·rename_i hpos
       simp only [Option.some.injEq,Prod.mk.injEq] at h;obtain ⟨rfl,rfl,rfl⟩:=h;exact ⟨by simpa using hpos,t,ty,te,List.mem_cons_self,hty,hk,hte,rfl⟩
      ·exact rec' h
     ·exact rec' h
    ·exact rec' h
   ·exact rec' h
theorem Hm {τ:List Ty} {off e' s':Nat}:∀ {l:List (Nat×Nat)},Hz τ l=some (off,e',s')->0<s'∧((∃ t1 ty te,(off,t1) ∈ l∧τ[t1]? = some ty∧ty.k = .sl e'∧τ[e']? = some te∧te.size=s') ∨ ∃ o t ty fs,(o,t) ∈ l∧τ[t]? = some ty∧ty.k = .st fs)
 | (o,t)::l,h=>by
   have rec':Hz τ l=some (off,e',s')->0<s'∧((∃ t1 ty te,(off,t1) ∈ (o,t)::l∧τ[t1]? = some ty∧ty.k = .sl e'∧τ[e']? = some te∧te.size=s') ∨ ∃ o2 t2 ty fs,(o2,t2) ∈ (o,t)::l∧τ[t2]? = some ty∧ty.k = .st fs):=λh=>by
    obtain ⟨h0,h1⟩:=Hm h;refine ⟨h0,h1.imp ?_ ?_⟩
    ·rintro ⟨t1,ty,te,h1,h2⟩
     exact ⟨t1,ty,te,List.mem_cons_of_mem _ h1,h2⟩
    ·rintro ⟨o2,t2,ty,fs,h1,h2⟩
     exact ⟨o2,t2,ty,fs,List.mem_cons_of_mem _ h1,h2⟩
   unfold Hz at h;split at h
   ·rename_i ty hty
    split at h
    ·rename_i e hk
     split at h
     ·rename_i te hte
      split at h
      ·rename_i hpos
       simp only [Option.some.injEq,Prod.mk.injEq] at h;obtain ⟨rfl,rfl,rfl⟩:=h;exact ⟨by simpa using hpos,.inl ⟨t,ty,te,List.mem_cons_self,hty,hk,hte,rfl⟩⟩
      ·exact rec' h
     ·exact rec' h
    ·rename_i fs hk
     split at h
     ·rename_i o2 e2 s2 hs
      simp only [Option.some.injEq,Prod.mk.injEq] at h;obtain ⟨_,rfl,rfl⟩:=h;exact ⟨(NR hs).1,.inr ⟨o,t,ty,fs,List.mem_cons_self,hty,hk⟩⟩
     ·exact rec' h
    ·exact rec' h
   ·exact rec' h
theorem WZ {τ:List Ty} {e off e' s':Nat} (h:Iy τ e=some (off,e',s')):0<s':=by
 unfold Iy at h;split at h
 ·split at h
  ·exact (Hm h).1
  ·exact (Hm h).1
  ·cases h
 ·cases h
theorem Sb {τ:List Ty} {e e2:Nat} {te:Ty} (he:τ[e]? = some te) (hk:te.k = .sl e2) {off e' s':Nat} (h:Iy τ e=some (off,e',s')):off=0∧e'=e2∧0<s'∧∃ te',τ[e']? = some te'∧te'.size=s':=by
 unfold Iy at h;rw [he] at h;simp only [hk] at h;obtain ⟨h0,h⟩:=Hm h;rcases h with ⟨t,ty,te',h1,h2,h3,h4,h5⟩ | ⟨o2,t2,ty,fs,h1,h2,h3⟩
 rotate_left
 ·simp at h1
  obtain ⟨rfl,rfl⟩:=h1;rw [he] at h2;simp at h2;subst h2;rw [hk] at h3;cases h3
 simp at h1;obtain ⟨rfl,rfl⟩:=h1;rw [he] at h2;simp at h2;subst h2;rw [hk] at h3;simp at h3;exact ⟨rfl,h3.symm,h0,te',h4,h5⟩
theorem Ag2 (hg:Good κ S st.h w) (ht:VRs S w st.t κ a.tmps.toList) {b:Blk} {v:Nat->V} {c k:Value} {w':World} (hrun:(execOp a.eval o).run P w = .ok (.value c) w')
  (hw:∀ k,k<w.heap.size->w'.heap[k]? = w.heap[k]?) (hsz:w.heap.size <= w'.heap.size) (hos:w'.os=w.os) (htape:w'.tape=w.tape) (hout:w'.output=w.output)
  (hB:A7 S w' (AZ κ st.h.length k) (some k) b) (hc:Ak (some k)=none ∨ Ak (some k)=some w.heap.size)
  (hv:VR S w' (v st.h.length) (AZ κ st.h.length k) c) (h:(Ea st b v).sem=some r) (hp:F4 a o κ S st w K r) (hnx:∀ e s n g,b ≠ .xrow false e s n g:=by simp) (hpl:F6 b:=by trivial):o.wp P a w K Q:=by
 have hr:=Aa h;subst hr;unfold Oper.wp;rw [hrun];refine hp (AZ κ st.h.length k) S c w' (hg.push b k hw hsz hB hc hpl) ?_ hv (Ext.push b k hw hsz hos htape hout hc hpl hnx);exact VR.mono_go (λb hb=>⟨hb,hw b (hg.out b hb).1⟩) _ _ _ _ (hg.addK_sub k) ht
theorem Ol {S:Nat->Prop} {w:World} {κ:Ai}:∀ (n:Nat) (cs:List V) (ca:List Value),QC cs n=true->VRs S w cs κ ca->ca=List.replicate n (.bool false)
 | 0,cs,ca,h,hv=>by
  unfold QC at h;split at h
  ·exact hv
  ·rename_i hn _
   omega
  ·cases h
 | n+1,cs,ca,h,hv=>by
  unfold QC at h;split at h
  ·rename_i hn
   omega
  ·rename_i l m hm
   obtain ⟨c,l',rfl,h1,h2⟩:=hv;have hm:m=n:=by omega
   subst hm;rw [show c = .bool false from h1,Ol m l l' h h2];rfl
  ·cases h
theorem OV {S:Nat->Prop} {w:World} {κ:Ai}:∀ (n:Nat) (cs:List V) (ca:List Value),OW cs n=true->VRs S w cs κ ca->ca=List.replicate n (.int .i64 0)
 | 0,cs,ca,h,hv=>by
  unfold OW at h;split at h
  ·exact hv
  ·rename_i hn _
   omega
  ·cases h
 | n+1,cs,ca,h,hv=>by
  unfold OW at h;split at h
  ·rename_i hn
   omega
  ·rename_i l m hm
   obtain ⟨c,l',rfl,h1,h2⟩:=hv;have hm:m=n:=by omega
   subst hm;rw [show c = .int .i64 0 from h1,OV m l l' h h2];rfl
  ·cases h
theorem B7 (w:World) (ob:Obj):∀ k,k<w.heap.size->(w.alloc ob).heap[k]? = w.heap[k]?:=λk hk=>heap_alloc_old w ob k hk
theorem AcZ (hg:Good κ S st.h w) (ht:VRs S w st.t κ a.tmps.toList) {x:V} {cx:Value} {cs:List V} {t:TypeId} (hx:VR S w x κ cx) (hcs:x.cells=some cs)
  (hrun:(execOp a.eval o).run P w = .ok (.value (.pointer (some ⟨w.heap.size,0,none⟩))) (w.alloc (.cells cx.cells t)))
  (h:(Ea st (.cells cs) (.ptr · 0)).sem=some r) (hp:F4 a o κ S st w K r):o.wp P a w K Q:=by
 have hw:=B7 w (.cells cx.cells t);have hS:∀ b,S b->S b∧(w.alloc (.cells cx.cells t)).heap[b]? = w.heap[b]?:=λb hb=>⟨hb,hw b (hg.out b hb).1⟩;refine Ni (v:=(V.ptr · 0)) hg ht hrun hw (by simp) rfl rfl rfl ?_ (.inr rfl) ⟨w.heap.size,by simp [AZ],rfl⟩ h hp
 exact ⟨w.heap.size,t,cx.cells,rfl,heap_alloc_new w _,VR.mono_go hS _ _ _ _ (hg.addK_sub _) (Cp hcs hx).1⟩
theorem Adb (hg:Good κ S st.h w) (ht:VRs S w st.t κ a.tmps.toList) {x:V} {cx:Value} {cs:List V} {t:TypeId} {n:Nat} (hx:VR S w x κ cx) (hcs:x.cells=some cs) (hn:n <= 1000000) {z:V} {zc:Value} (hz:∀ S w κ,VR S w z κ zc) (hz1:zc.cells=#[zc]) (hz2:zc.oneCell'=true) (hf:∀ ca,VRs S w cs κ ca->ca=List.replicate n zc)
  (hrun:(execOp a.eval o).run P w = .ok (.value (.pointer (some ⟨w.heap.size,0,none⟩))) (w.alloc (.cells cx.cells t)))
  (h:(Ea st (.row t 1 n λ_=>z) λid=>.ept id 1 0 0).sem=some r) (hp:F4 a o κ S st w K r):o.wp P a w K Q:=by
 have hw:=B7 w (.cells cx.cells t);have hca:=hf _ (Cp hcs hx).1;have hsz:cx.cells.size=n:=by
  have:=congrArg List.length hca;simpa using this
 refine Ag2 (v:=λid=>V.ept id 1 0 0) (k:=.slice (some ⟨w.heap.size,0,none⟩) n n) hg ht hrun hw (by simp) rfl rfl rfl ?_ (.inr rfl) ⟨w.heap.size,n,n,by simp [AZ],rfl⟩ h hp;refine ⟨by omega,_,cx.cells.toList,rfl,⟨by simp [hsz],.inr ⟨w.heap.size,n,cx.cells,rfl,Nat.zero_le _,heap_alloc_new w _,Nat.le_refl _,?_,by simp [hsz],by rw [List.take_of_length_le (by simp [hsz])]⟩⟩,?_⟩
 ·unfold maxLen; omega
 ·intro i hi
  refine ⟨zc,hz _ _ _,by rw [hz1]; rfl,λu hu=>?_,λj hj=>?_⟩
  ·rw [hz1] at hu
   have hu:u ∈ [zc]:=hu;simp only [List.mem_singleton] at hu;subst hu;exact hz2
  ·have hj:j=0:=by omega
   subst hj;rw [hca,hz1];simp [hi]
theorem YU (hg:Good κ S st.h w) (ht:VRs S w st.t κ a.tmps.toList) {x:V} {cx:Value} (hx:VR S w x κ cx) (hrun:(execOp a.eval o).run P w = .ok (.value cx) w)
  (h:(Oc τ st o.type x).sem=some r) (hp:F4 a o κ S st w K r):o.wp P a w K Q:=by
 have same:r=(x,st)->o.wp P a w K Q:=λe=>by
  subst e;exact Ada hg ht hrun hx hp
 unfold Oc at h;split at h
 ·have hcx:cx = .slice none 0 0:=hx
  subst hcx;split at h
  ·split at h
   ·split at h
    ·rename_i te hte
     split at h
     ·rename_i hpos
      have row:∀ e,(Ea st (.row e te.size 0 λ_=>.und) .ref).sem=some r->o.wp P a w K Q:=λe h=>by
       refine Ni (v:=V.ref) hg ht hrun (λ_ _=>rfl) (Nat.le_refl _) rfl rfl rfl ?_ (.inl rfl) ⟨by simp [AZ],.inl ⟨none,0,0,rfl⟩⟩ h hp;exact ⟨by simpa using hpos,_,[],rfl,World.ownsRow_nil w 0 _ _,λi hi=>absurd hi (Nat.not_lt_zero _)⟩
      split at h
      ·rename_i e2 hk2
       split at h
       ·rename_i off e' s' hsl
        obtain ⟨rfl,_,hs',_⟩:=Sb hte hk2 hsl;refine YQ (v:=V.jref) (k:=.tuple #[.slice none 0 0,.agg #[]]) hg ht hrun (λ_ _=>rfl) (Nat.le_refl _) rfl rfl rfl ?_ ?_ ⟨#[],by simp [AZ],none,0,0,rfl⟩ h hp (Bj _)
        ·exact ⟨_,_,[],rfl,Ue _ _ _ _ _ (by simpa using hpos) (by simpa using hpos) hs' _ _ _ _⟩
        ·rintro g ⟨c,ms,e,hg⟩
         obtain ⟨rfl,rfl⟩:=AC e;rcases hg with hg | ⟨i,m,hm,_⟩
         ·cases hg
         ·simp at hm
       ·exact same (Aa h)
      ·exact row _ h
     ·exact same (Aa h)
    ·exact same (Aa h)
   ·exact same (Aa h)
  ·exact same (Aa h)
 ·exact same (Aa h)
theorem Kq (hg:Good κ S st.h w) {id off:Nat} {cs:List V} {cx:Value} (hh:st.h[id]? = some (.cells cs)) (hx:VR S w (.ptr id off) κ cx) :
  ∃ g e ca,κ id=some (.pointer (some ⟨g,0,none⟩))∧cx = .pointer (some ⟨g,off,none⟩)∧w.heap[g]? = some (.cells ca e (0,0))∧VRs S w cs κ ca.toList:=by
 obtain ⟨g,hk,e⟩:=hx;obtain ⟨g',e',ca,hk',hw,hr⟩:=hg.blk id _ hh;rw [hk] at hk';simp at hk';subst hk';exact ⟨g,e',ca,hk,e,hw,hr⟩
theorem E2 (hg:Good κ S st.h w) {id e s n:Nat} {g:Nat->V} (hh:st.h[id]? = some (.row e s n g)) :
  0<s∧∃ c xs,κ id=some c∧w.ownsRow 0 e s c n xs∧CS S w s n g xs:=hg.blk id _ hh
theorem ZK (hg:Good κ S st.h w) {id e s n:Nat} {b:Blk} {g:Nat->V} (hh:st.h[id]? = some b) (hb:Ge b e s n g) :
  0<s∧∃ c xs,κ id=some c∧w.ownsRow 0 e s c n xs∧CS S w s n g xs:=hb.holds (hg.blk id _ hh)
theorem Cd (hg:Good κ S st.h w) {id:Nat} {j:Jag} (hh:st.h[id]? = some (.jag j)):∃ (c:Value) (ms:Array Value) (xs:List Value),κ id=some (.tuple #[c,.agg ms])∧HH S w j c ms xs:=hg.blk id _ hh
theorem HH.mem {j:Jag} {c:Value} {ms:Array Value} {xs:List Value} (h:HH S w j c ms xs) {i:Nat} {m:Value} (hm:ms[i]? = some m) (hi:i<j.n) (hl:j.live i=true) :
  xs[i * j.size+j.off]? = some m∧∃ ys,w.ownsRow 0 j.e' j.s' m (j.len i) ys∧CS S w j.s' (j.len i) (j.mem i) ys:=by
 obtain ⟨_,_,_,_,_,_,_,h8,_⟩:=h;rcases h8 i m hm with ⟨_,this⟩ | ⟨q,k,_,rfl,_⟩
 ·unfold HF at this
  rw [hl] at this;exact this
 ·omega
theorem HH.map {j:Jag} {c:Value} {ms:Array Value} {xs:List Value} (h:HH S w j c ms xs) {q:Mp} (hq:j.mp=some q) {i:Nat} {m:Value} (hm:ms[j.n+i]? = some m):O2 w j q xs i m:=by
 obtain ⟨_,_,_,_,_,_,_,h8,_⟩:=h;rcases h8 _ m hm with ⟨hi,_⟩ | ⟨q',k,h1,h2,h3⟩
 ·omega
 ·rw [hq] at h1
  cases h1;obtain rfl:i=k:=by omega
  exact h3
theorem HH.half {j:Jag} {c:Value} {ms:Array Value} {xs:List Value} (h:HH S w j c ms xs) {q:Mp} (hq:j.mp=some q):ms.size / 2=j.n∧ms.size=j.n+j.n:=by
 have:=h.2.2.2.1;unfold mpN at this;rw [hq] at this;simp only at this;omega
theorem HH.at {j:Jag} {c:Value} {ms:Array Value} {xs:List Value} (h:HH S w j c ms xs) {i:Nat} (hi:i<j.n):∃ m,ms[i]? = some m :=
 have hs:i<ms.size:=by rw [h.2.2.2.1]; omega
 ⟨ms[i],by simp [hs]⟩
theorem HH.atM {j:Jag} {c:Value} {ms:Array Value} {xs:List Value} (h:HH S w j c ms xs) {q:Mp} (hq:j.mp=some q) {i:Nat} (hi:i<j.n):∃ m,ms[j.n+i]? = some m :=
 have hs:j.n+i<ms.size:=by rw [(h.half hq).2]; omega
 ⟨ms[j.n+i],by simp [hs]⟩
theorem O2.form {w:World} {j:Jag} {q:Mp} {xs:List Value} {i:Nat} {m:Value} (h:O2 w j q xs i m):m = .map none ∨ ∃ b,m = .map (some b):=by
 obtain ⟨_,h⟩:=h;split at h
 ·obtain ⟨b,_,rfl,_⟩:=h
  exact .inr ⟨b,rfl⟩
 ·exact .inl h
theorem HH.ltS {j:Jag} {c:Value} {ms:Array Value} {xs:List Value} (h:HH S w j c ms xs) {i:Nat} {a} {n cap:Nat} (hm:ms[i]? = some (.slice a n cap)):i<j.n:=by
 rcases h.2.2.2.2.2.2.2.1 i _ hm with ⟨hi,_⟩ | ⟨q,k,_,_,h3⟩
 ·exact hi
 ·rcases h3.form with h | ⟨_,h⟩ <;> cases h
theorem HF.re {w':World} {j j':Jag} {xs xs':List Value} {i:Nat} {m:Value} (h:HF S w j xs i m) (hS:∀ b,S b->S b∧w'.heap[b]? = w.heap[b]?) (hb:∀ g,Ak (some m)=some g->w'.heap[g]? = w.heap[g]?)
  (e1:j'.size=j.size) (e2:j'.off=j.off) (e3:j'.e'=j.e') (e4:j'.s'=j.s') (l1:j'.live i=j.live i) (l2:j'.len i=j.len i) (l3:j'.mem i=j.mem i) (hx:xs'[i * j.size+j.off]? = xs[i * j.size+j.off]?):HF S w' j' xs' i m:=by
 have:=h.mono hS hb;unfold HF at this ⊢;rw [e1,e2,e3,e4,l1,l2,l3,hx];exact this
theorem O2.re {w':World} {j j':Jag} {q q':Mp} {xs xs':List Value} {i:Nat} {m:Value} (h:O2 w j q xs i m) (hb:∀ g,Ak (some m)=some g->w'.heap[g]? = w.heap[g]?)
  (e1:j'.size=j.size) (e2:q'.off=q.off) (e3:q'.t=q.t) (l1:q'.live i=q.live i) (l2:q'.len i=q.len i) (l3:q'.hs i=q.hs i) (l4:q'.get i=q.get i) (hx:xs'[i * j.size+q.off]? = xs[i * j.size+q.off]?):O2 w' j' q' xs' i m:=by
 have:=h.mono hb;unfold O2 at this ⊢;rw [e1,e2,e3,l1,l2,l3,l4,hx];exact this
theorem AnL {id:Nat} {j:Jag} {c:Value} {ms:Array Value} {xs:List Value} (hk:κ id=some (.tuple #[c,.agg ms])) (hj:HH S w j c ms xs) {i:Nat} (hi:i<j.n) (hl:j.live i=true) {cs:List V} (hc:(Zk j id i).cells=some cs) :
  ∃ ci,VR S w (Zk j id i) κ ci∧ci.cells.size=j.size∧(∀ u ∈ ci.cells.toList,u.oneCell'=true)∧∀ k,k<j.size->xs[i * j.size+k]? = ci.cells[k]?:=by
 obtain ⟨m,hm⟩:=hj.at hi;obtain ⟨h1,ys,h2,_⟩:=hj.mem hm hi hl;obtain ⟨a,cap,rfl⟩:=Br h2;have hv:VR S w (.mref id i) κ (.slice a (j.len i) cap):=⟨c,ms,hk,hm,_,_,_,rfl⟩;obtain ⟨ci,e1,e2,e3,e4⟩:=hj.2.2.2.2.2.2.1 i hi;have hoff:=hj.2.2.1.1;unfold Zk at hc ⊢;split
 ·rename_i hs
  refine ⟨_,hv,by rw [hs]; rfl,λu hu=>?_,λk hk'=>?_⟩
  ·have hu:u ∈ [Value.slice a (j.len i) cap]:=hu
   simp only [List.mem_singleton] at hu;subst hu;rfl
  ·rw [hs] at hk' hoff
   obtain rfl:k=0:=by omega
   rw [show j.off=0 by omega] at h1;rw [h1];rfl
 ·rename_i hs
  split
  ·rename_i cs0 hget
   rw [hget] at e1;obtain ⟨ca,rfl,hca⟩:=e1;have hlen:ca.length=j.size:=by simpa [Value.cells] using e2
   have hca':VRs S w cs0 κ ca:=VR.mono_go (λb hb=>⟨hb,rfl⟩) _ _ _ _ (λ_ _ h=>by cases h) hca;split
   ·rename_i hmp
    refine ⟨.agg (ca.set j.off (.slice a (j.len i) cap)).toArray,⟨_,rfl,VRs.set _ hca' hv⟩,by simp [Value.cells,hlen],λu hu=>?_,λk hk'=>?_⟩
    ·simp only [Value.cells] at hu
     rcases List.mem_or_eq_of_mem_set hu with hu | rfl
     ·exact e3 u (by simpa [Value.cells] using hu)
     ·rfl
    ·simp only [Value.cells,List.getElem?_toArray,List.getElem?_set]
     by_cases hko:j.off=k
     ·subst hko
      rw [if_pos rfl,if_pos (by omega),h1]
     ·rw [if_neg hko,e4 k hk' (Ne.symm hko) (λq hq=>by rw [hmp] at hq; cases hq)]
      simp [Value.cells]
   ·rename_i q hmp
    obtain ⟨mm,hmm⟩:=hj.atM hmp hi;have hM:=hj.map hmp hmm;have hvm:VR S w (.mmap id i) κ mm:=⟨c,ms,hk,by rw [(hj.half hmp).1]; exact hmm,hM.form⟩;have hqo:=hj.2.2.1.2 q hmp;refine ⟨.agg ((ca.set j.off (.slice a (j.len i) cap)).set q.off mm).toArray,⟨_,rfl,VRs.set _ (VRs.set _ hca' hv) hvm⟩,by simp [Value.cells,hlen],λu hu=>?_,λk hk'=>?_⟩
    ·simp only [Value.cells] at hu
     rcases List.mem_or_eq_of_mem_set hu with hu | rfl
     ·rcases List.mem_or_eq_of_mem_set hu with hu | rfl
      ·exact e3 u (by simpa [Value.cells] using hu)
      ·rfl
     ·rcases hM.form with rfl | ⟨b,rfl⟩ <;> rfl
    ·simp only [Value.cells,List.getElem?_toArray,List.getElem?_set,List.length_set]
     by_cases hkq:q.off=k
     ·subst hkq
      rw [if_pos rfl,if_pos (by omega),hM.1]
     ·rw [if_neg hkq]
      by_cases hko:j.off=k
      ·subst hko
       rw [if_pos rfl,if_pos (by omega),h1]
      ·rw [if_neg hko,e4 k hk' (Ne.symm hko) (λq' hq=>by rw [hmp] at hq; cases hq; exact Ne.symm hkq)]
       simp [Value.cells]
  ·rename_i hne
   exfalso
   split at hc
   ·rename_i hs1
    exact hs hs1
   ·split at hc
    ·rename_i hget
     exact hne _ hget
    ·cases hc
theorem D1 {e s n:Nat} {c:Value} {xs:List Value} (ho:w.ownsRow 0 e s c n xs) (hn:0<n) :
  ∃ g cap cur,c = .slice (some ⟨g,0,none⟩) n cap∧w.heap[g]? = some (.cells cur e (0,0))∧n <= cap∧cap <= maxLen∧cur.size=cap * s∧cur.toList.take (n * s)=xs:=by
 rcases ho.2 with ⟨_,h0⟩ | ⟨g,cap,cur,hv,_,hg,h1,h2,h3,h4⟩
 ·omega
 ·exact ⟨g,cap,cur,hv,hg,h1,h2,h3,h4⟩
include hτ in
theorem Zc (hg:Good κ S st.h w) {t:TypeId} {x r:V} {cx:Value} (hx:VR S w x κ cx)
  (h:(Ad8 τ st t x).sem=some r):∃ c,(Instr.loadAt t cx).run P w = .ok c w∧VR S w r κ c:=by
 have fin:∀ (v:V) (c:Value),r=v->(Instr.loadAt t cx).run P w = .ok c w->VR S w v κ c->∃ c,(Instr.loadAt t cx).run P w = .ok c w∧VR S w r κ c:=λv c e hr hv=>by
  subst e;exact ⟨c,hr,hv⟩
 unfold Ad8 at h;split at h
 ·rename_i id off
  split at h
  ·rename_i cs hh
   split at h
   ·rename_i v hv
    obtain ⟨g,e,ca,_,hcx,hgw,hr⟩:=Kq hg hh hx;obtain ⟨c,_,h2,h3,_⟩:=Ew (P:=P) hτ hv hr;refine fin v c (Aa h) ?_ h2;subst hcx;have:=h3 g 0 (λj u hj=>by
     rw [Nat.zero_add,cell_of_row w g j ca e (0,0) hgw];simpa using hj)
    simp only [Nat.zero_add] at this;simp only [Instr.loadAt,Instr.sureAddr,Sem.run_bind,Sem.run_pure,Result.andThen_ok,this]
   ·cases h
  ·cases h
 ·rename_i v0
  split at h
  ·rename_i v hv
   obtain ⟨b,o',cv,hcx,h1,h2⟩:=hx;unfold EQ at hv;split at hv
   ·rename_i cs hcs
    obtain ⟨hr,_⟩:=Cp hcs h1;obtain ⟨c,_,h3,h4,_⟩:=Ew (P:=P) hτ hv hr;refine fin v c (Aa h) ?_ (VR.mono (λb hb=>⟨hb,rfl⟩) _ _ _ _ (OC κ) h3);subst hcx;have:=h4 b o' (λj u hj=>(h2 j u hj).2);simp only [Nat.add_zero] at this;simp only [Instr.loadAt,Instr.sureAddr,Sem.run_bind,Sem.run_pure,Result.andThen_ok,this]
   ·cases hv
  ·cases h
 ·rename_i id s i off
  split at h
  ·rename_i e s' n g hh
   split at h
   ·rename_i v hs hv
    have hs:s=s':=Nat.eq_of_beq_eq_true hs;subst hs;obtain ⟨h1,h2⟩:=Ab h;have hin:i<n:=by simpa [nlt] using h1
    obtain ⟨_,c0,xs,hk,ho,he⟩:=E2 hg hh;obtain ⟨gb,cap,cur,rfl,hgw,hnc,_,hsz,htake⟩:=D1 ho (by omega);obtain ⟨gb',n',cap',hk',hcx⟩:=hx;rw [hk] at hk';simp at hk';obtain ⟨rfl,_⟩:=hk';obtain ⟨ci,h3,h4,h5,h6⟩:=he i hin;unfold EQ at hv;split at hv
    ·rename_i cs hcs
     obtain ⟨hr,_⟩:=Cp hcs h3;obtain ⟨c,_,h7,h8,_⟩:=Ew (P:=P) hτ hv hr;refine fin v c (Aa h2) ?_ (VR.mono (λb hb=>⟨hb,rfl⟩) _ _ _ _ (OC κ) h7);subst hcx;have:=h8 gb (i * s) (λj u hj=>by
      rw [cell_of_row w gb _ cur e (0,0) hgw];have hj':j<s:=by
       have:=(List.getElem?_eq_some_iff.1 hj).1;simp at this; omega
      have hx:=h6 j hj';rw [<- htake] at hx;have hlt:i * s+j<n * s:=by
       have:(i+1) * s <= n * s:=Nat.mul_le_mul_right _ hin;rw [Nat.add_mul] at this;omega
      rw [List.getElem?_take,if_pos hlt] at hx;simp only [Array.getElem?_toList] at hx hj;rw [hx];exact hj)
     simp only [Instr.loadAt,Instr.sureAddr,Sem.run_bind,Sem.run_pure,Result.andThen_ok,this]
    ·cases hv
   ·cases h
  ·cases h
 ·rename_i id s i off
  split at h
  ·rename_i j hh
   split at h
   ·rename_i v hs hv
    have hs:s=j.size:=Nat.eq_of_beq_eq_true hs;subst hs;obtain ⟨h1,h2⟩:=Ab h;obtain ⟨hl,h2⟩:=Ab h2;have hin:i<j.n:=by simpa [nlt] using h1
    obtain ⟨c0,ms,xs,hk,hj⟩:=Cd hg hh;obtain ⟨gb,cap,cur,rfl,hgw,hnc,_,hsz,htake⟩:=D1 hj.2.2.2.2.1 (by omega);obtain ⟨gb',n',cap',ms',hk',hcx⟩:=hx;rw [hk] at hk';obtain ⟨e1,rfl⟩:=AC hk';simp at e1;obtain ⟨rfl,_⟩:=e1;unfold EQ at hv;split at hv
    ·rename_i cs hcs
     obtain ⟨ci,h3,h4,h5,h6⟩:=AnL hk hj hin hl hcs;obtain ⟨hr,_⟩:=Cp hcs h3;obtain ⟨c,_,h7,h8,_⟩:=Ew (P:=P) hτ hv hr;refine fin v c (Aa h2) ?_ h7;subst hcx;have:=h8 gb (i * j.size) (λk u hj'=>by
      rw [cell_of_row w gb _ cur _ (0,0) hgw];have hk2:k<j.size:=by
       have:=(List.getElem?_eq_some_iff.1 hj').1;simp at this; omega
      have hx:=h6 k hk2;rw [<- htake] at hx;have hlt:i * j.size+k<j.n * j.size:=by
       have:(i+1) * j.size <= j.n * j.size:=Nat.mul_le_mul_right _ hin;rw [Nat.add_mul] at this;omega
      rw [List.getElem?_take,if_pos hlt] at hx;simp only [Array.getElem?_toList] at hx hj';rw [hx];exact hj')
     simp only [Instr.loadAt,Instr.sureAddr,Sem.run_bind,Sem.run_pure,Result.andThen_ok,this]
    ·cases hv
   ·cases h
  ·cases h
 ·rename_i id i s k off
  split at h
  ·rename_i j hh
   split at h
   ·rename_i v hs hv
    have hs:s=j.s':=Nat.eq_of_beq_eq_true hs;subst hs;obtain ⟨hl,h2⟩:=Ab h;obtain ⟨h1,h2⟩:=Ab h2;have hin:k<j.len i:=by simpa [nlt] using h1
    obtain ⟨c0,ms,xs,hk,hj⟩:=Cd hg hh;obtain ⟨o,ms',gb,n',cap',hk',hm,hcx⟩:=hx;rw [hk] at hk';obtain ⟨rfl,rfl⟩:=AC hk';obtain ⟨_,ys,ho,he⟩:=hj.mem hm (hj.ltS hm) hl;obtain ⟨gb',cap,cur,e1,hgw,hnc,_,hsz,htake⟩:=D1 ho (by omega);simp at e1;obtain ⟨rfl,_⟩:=e1;obtain ⟨ci,h3,h4,h5,h6⟩:=he k hin;unfold EQ at hv;split at hv
    ·rename_i cs hcs
     obtain ⟨hr,_⟩:=Cp hcs h3;obtain ⟨c,_,h7,h8,_⟩:=Ew (P:=P) hτ hv hr;refine fin v c (Aa h2) ?_ (VR.mono (λb hb=>⟨hb,rfl⟩) _ _ _ _ (OC κ) h7);subst hcx;have:=h8 gb (k * j.s') (λq u hj'=>by
      rw [cell_of_row w gb _ cur _ (0,0) hgw];have hk2:q<j.s':=by
       have:=(List.getElem?_eq_some_iff.1 hj').1;simp at this; omega
      have hx:=h6 q hk2;rw [<- htake] at hx;have hlt:k * j.s'+q<j.len i * j.s':=by
       have:(k+1) * j.s' <= j.len i * j.s':=Nat.mul_le_mul_right _ hin;rw [Nat.add_mul] at this;omega
      rw [List.getElem?_take,if_pos hlt] at hx;simp only [Array.getElem?_toList] at hx hj';rw [hx];exact hj')
     simp only [Instr.loadAt,Instr.sureAddr,Sem.run_bind,Sem.run_pure,Result.andThen_ok,this]
    ·cases hv
   ·cases h
  ·cases h
 ·cases h
include hτ in
theorem Ae6 (hg:Good κ S st.h w) {src dst:Nat} {x v:V} {cx:Value} (h:(Ae7 τ st src dst x).sem=some v) (hx:VR S w x κ cx):∃ c,(convert src dst cx).run P w = .ok c w∧VR S w v κ c:=by
 unfold Ae7 at h;split at h
 ·rename_i id
  split at h
  ·rename_i ts td hts htd
   obtain ⟨_,d1,_,hd1,hk1,_⟩:=hτ.info hts;obtain ⟨_,d2,_,hd2,hk2,_⟩:=hτ.info htd;split at h
   ·rename_i e hks hkd
    rw [hks] at hk1;rw [hkd] at hk2;have:=Ee hk1.symm;subst this;have:=Kj hk2.symm;subst this;split at h
    ·rename_i te e' g hte hh
     obtain ⟨_,d3,_,hd3,hk3,_⟩:=hτ.info hte;split at h
     ·rename_i b hke hgb
      rw [hke] at hk3;have:=Ud hk3.symm;subst this;rw [Aa h];obtain ⟨_,c0,xs,hk0,ho,he⟩:=E2 hg hh;obtain ⟨hk',_⟩:=hx;rw [hk0] at hk';simp at hk';subst hk';obtain ⟨gb,cap,cur,rfl,hgw,hnc,hcm,hcsz,htake⟩:=D1 ho (by omega);obtain ⟨ci,q1,q2,q3,q4⟩:=he 0 (by omega);rw [hgb] at q1;have q1:ci = .int .u8 b:=q1;subst q1;have q5:=q4 0 (by omega);have hl:xs.length=1:=ho.1;have hxs:xs=[Value.int .u8 b]:=by
       match xs,hl with
       | [u],_ =>have q5:some u=some (Value.int .u8 b):=q5;simp only [Option.some.injEq] at q5;rw [q5]
      have hld:=run_loadCells_list (P:=P) w ⟨gb,0,none⟩ [Value.int .u8 b] (λj u hj=>by
       rw [Dl,Nat.zero_add,cell_of_row w gb j cur e' (0,0) hgw,<- Array.getElem?_toList];rw [<- hxs,<- htake,List.getElem?_take] at hj;split at hj
       ·exact hj
       ·cases hj)
      refine ⟨.string ⟨[AeL b].toArray⟩,?_,rfl⟩;rw [run_convert_bytes_string w src dst e _ 1 cap hd1 hd3 hd2,run_bytesToString w _ 1 cap [b] hld];rfl
     ·cases h
    ·cases h
   ·cases h
  ·cases h
 ·exact Ae4 hτ h hx
end
end Go.Sy
