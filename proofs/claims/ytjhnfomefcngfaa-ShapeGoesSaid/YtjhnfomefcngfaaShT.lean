/-
  Layer 7: the law ShapeValues, as a function: a location's writes have unlike values, in order; a read has the value of the write that it reads. No conditions.
-/
import Derived.Test.YtjhnfomefcngfaaShM
import Derived.Test.YtjhnfomefcngfaaShS
namespace Go.Proofs.Ytjhnfomefcngfaa.Sh
open Go.Sy Ed
set_option maxHeartbeats 1000000
set_option maxRecDepth 4000
theorem nat_ne (k:Nat):ieq (Int.ofNat k) (-1) = false:=by
  cases hc:ieq (Int.ofNat k) (-1) with
  | false=>rfl
  | true =>
    have:(k:Int) = -1:=ieq_eq hc
    omega
end Go.Proofs.Ytjhnfomefcngfaa.Sh
namespace Go.Proofs.Ytjhnfomefcngfaa.Sh
open Go.Sy Ed
open Int (ofNat)
set_option maxHeartbeats 1000000
set_option maxRecDepth 4000
def kindOK (e:E6):Bool:=(bif ieq e.kind 1 then ieq e.src 2 && ieq e.dst 1 else true) && ((bif ieq e.kind 2 then ieq e.src 1 && ieq e.dst 2 else true) && (bif ieq e.kind 3 then ieq e.src 2 && ieq e.dst 2 else true))
theorem kinds_made:(List.range 112).all (fun k=>kindOK (madeE k)) = true:=by kernel_rfl
theorem kinds {e:E6} (h:codeF e = 0):kindOK e = true:=by
  rcases codeF_cases e with ⟨k,hk,_,_,he,_⟩ | ⟨h2,_⟩
  · rw [<- he]
    exact List.all_eq_true.1 kinds_made k (by simpa using hk)
  · rw [h2] at h
    cases h
theorem part_step_f {m:Nat->Bool} {n z k:Nat} (hz:z < n) (hk:k < n) (hm:m k = true) (h:m z = false):partN m n (rnd n z 1) = partN m n z:=by
  have hs:=inSeg hz hk hm
  rw [part_same (hs.next h),part_same hs]
theorem part_step_t {m:Nat->Bool} {n z:Nat} (hz:z < n) (h2:2 <= cntB m n) (h:m z = true):partN m n (rnd n z 1) ≠ partN m n z:=by
  have hs:=inSeg hz hz h
  have hc:=inSeg_cut hz h
  intro he
  rw [part_same hs] at he
  rcases Nat.lt_trichotomy (segN m n z) (rnd n z 1) with hl | hl | hl
  · exact part_apart hl hc.lb hs.st hc.st he.symm
  · have hzn:z = rnd n (rnd n z 1) (n - 1):=by
      rw [rnd_rnd,show 1+(n - 1) = 0+n by omega,rnd_n,rnd_0 hz]
    have ht:dstN m n z = n - 1:=by
      refine rnd_inj hc.lb hs.lt (by omega) ?_
      rw [<- hzn]
      exact (by rw [<- hl]; exact hs.eq.symm)
    have hgo:=hs.go
    rw [ht,hl] at hgo
    have h3:=cnt_rnd m (n:=n) (b:=rnd n z 1) (Nat.le_of_lt hc.lb)
    obtain ⟨q,rfl⟩:∃ q,n = q+1:=⟨n - 1,by omega⟩
    have h4:cntB (fun t=>m (rnd (q+1) (rnd (q+1) z 1) t)) q = 0:=cntB_zero fun t ht=>hgo t (by omega)
    have h5:cntB (fun t=>m (rnd (q+1) (rnd (q+1) z 1) t)) (q+1) <= 1:=by
      cases hp:m (rnd (q+1) (rnd (q+1) z 1) q) with
      | true=>rw [cntB_t (p:=fun t=>m (rnd (q+1) (rnd (q+1) z 1) t)) hp,h4]; exact Nat.le_refl _
      | false=>rw [cntB_f (p:=fun t=>m (rnd (q+1) (rnd (q+1) z 1) t)) hp,h4]; omega
    omega
  · exact part_apart hl hs.lb hc.st hs.st he
theorem ieq_ofNat_ne {a b:Nat} (h:a ≠ b):ieq (ofNat a) (ofNat b) = false:=by
  cases hc:ieq (ofNat a) (ofNat b) with
  | false=>rfl
  | true=>exact absurd (Int.ofNat.inj (ieq_eq hc)) h
theorem parts_ieq {p:Nat->Bool} {n z:Nat} (hz:z < n) (h2:2 <= cntB p n):ieq (partF p n z) (partF p n (rnd n z 1)) = bnot (p z):=by
  have hj:rnd n z 1 < n:=rnd_lt (by omega)
  rw [partF_N hz,partF_N hj]
  cases hp:p z with
  | true=>exact ieq_ofNat_ne (Ne.symm (part_step_t hz h2 hp))
  | false =>
    obtain ⟨k,k1,k2⟩:=cnt_there (p:=p) (n:=n) (by omega)
    rw [part_step_f hz k1 k2 hp]
    exact ieq_rfl _
theorem bnot_bnot (b:Bool):bnot (bnot b) = b:=by cases b <;> rfl
theorem beqB_rfl (b:Bool):beqB b b = true:=by cases b <;> rfl
theorem comm_of {e:E6} {k:Int} (h:ieq e.kind k = true) (h1:1 <= k) (h3:k <= 3):commB e = true:=by
  have:=ieq_eq h
  unfold commB
  rw [this,band_t (show ile 1 k = true from decide_eq_true h1)]
  exact decide_eq_true h3
theorem comm_not {e:E6} (h1:ieq e.kind 1 = false) (h2:ieq e.kind 2 = false) (h3:ieq e.kind 3 = false):commB e = false:=by
  have h1:¬ e.kind = 1:=by simpa [ieq] using h1
  have h2:¬ e.kind = 2:=by simpa [ieq] using h2
  have h3:¬ e.kind = 3:=by simpa [ieq] using h3
  unfold commB
  cases ha:ile 1 e.kind with
  | false=>rfl
  | true =>
    have ha:1 <= e.kind:=of_decide_eq_true ha
    rw [band_t rfl]
    exact decide_eq_false (by omega)
theorem mov_comm {e:E6} (h:commB e = true):movB e = false:=by
  unfold movB
  rw [h]
  rfl
theorem out_comm {e:E6} (h:commB e = true):outB e = e.ext:=by
  unfold outB
  rw [band_t h]
theorem out_not {e:E6} (h:commB e = false):outB e = false:=by
  unfold outB
  rw [h]
  rfl
theorem mov_not {e:E6} (h:commB e = false):movB e = bnot e.same:=by
  unfold movB
  rw [h]
  exact band_t rfl
theorem behind_of {m w:Nat->Bool} {n b t z j:Nat} (hz:InSeg m n b t z) (hj:InSeg m n b (t+1) j) (hk0:0 < cntB m n) (hjn:j < n) (hw:w j = true) {v:Int}
    (hv:v = if wcN w n b (t+1) = 0 then -1 else ofNat (wrAt w n b (wcN w n b (t+1) - 1))) :
    behB (lnN m w n (partN m n z)) (fun i=>ofNat (coN m w n (partN m n z) i)) v (ofNat j) = true:=by
  have hp:partN m n z = partN m n j:=by rw [part_same hz,part_same hj]
  have hpb:partN m n z = partN m n b:=part_same hz
  obtain ⟨c1,c2,c3⟩:=co_of (m:=m) (w:=w) hjn hk0 hw
  have hval:valN m w n j = wcN w n b (t+1)+1:=by
    rw [val_at (w:=w) hj,wc_t (by rw [<- hj.eq]; exact hw)]
  rw [hval,Nat.add_sub_cancel] at c2 c3
  rw [hp]
  refine behB_iff.2 ⟨wcN w n b (t+1),c2,fun i hi=>?_,by rw [c3]; exact ieq_rfl _,?_⟩
  · refine ieq_ofNat_ne fun he=>?_
    have hkk:partN m n j < cntB m n:=part_lt (Nat.le_of_lt hjn) hk0
    have:=co_inj (m:=m) (w:=w) hkk (show i < lnN m w n (partN m n j) by omega) c2 (by rw [he,c3])
    omega
  · by_cases h0:wcN w n b (t+1) = 0
    · rw [if_pos h0] at hv
      exact .inl ⟨by rw [hv]; rfl,h0⟩
    · rw [if_neg h0] at hv
      refine .inr ⟨by rw [hv]; exact nat_ne _,by rw [hv]; exact ofNat_0 _,by omega,?_⟩
      rw [hv]
      have hst:stN m n (partN m n j) = b:=by rw [<- hp,hpb]; exact stN_at hz.lb hz.st
      show ieq (ofNat (wrAt w n (stN m n (partN m n j)) (wcN w n b (t+1) - 1))) _ = true
      rw [hst]
      exact ieq_rfl _
theorem goes_all (a:Int) (n:Nat) (f:Nat->E6) (hy:IsCycle a n f) (z:Nat) (hz:z < n):Goes (ofS a n f) z:=by
  have hg:=shG_cycle hy
  have hlast:=shG_last hy
  revert hg hlast
  unfold ofS
  generalize shG n f = g
  intro hg hlast
  have hlo:=hg.lo
  have hhi:=hg.hi
  have hob:2 <= cntB (obF g) n:=hg.outer
  have hmb:2 <= cntB (mbF g) n:=hg.moves
  have hk0:0 < kkN n g:=by show 0 < cntB (mbF g) n; omega
  have hjn:(z+1) % n < n:=Nat.mod_lt _ (by omega)
  have hmeet:(g z).dst = (g ((z+1) % n)).src:=by
    have:=hg.meets z hz
    unfold badM at this
    cases hc:ieq (g z).dst (g ((z+1) % n)).src with
    | true=>exact ieq_eq hc
    | false=>rw [hc] at this; cases this
  have hkind:=kinds (mayN_iff.1 hg.may z hz)
  have hth:ieq (thF n g z) (thF n g ((z+1) % n)) = bnot (outB (g z)):=parts_ieq (p:=obF g) hz hob
  have hlo2:ieq (loF n g z) (loF n g ((z+1) % n)) = bnot (movB (g z)):=parts_ieq (p:=mbF g) hz hmb
  obtain ⟨ck,ck1,ck2⟩:=cnt_there (p:=mbF g) (n:=n) (by omega)
  have hseg:=inSeg (m:=mbF g) hz ck1 ck2
  have comm:commB (g z) = true->InSeg (mbF g) n (segN (mbF g) n z) (dstN (mbF g) n z+1) ((z+1) % n) ∧ ieq (loF n g z) (loF n g ((z+1) % n)) = true ∧ beqB (g z).ext (bnot (ieq (thF n g z) (thF n g ((z+1) % n)))) = true:=fun h=>by
    refine ⟨hseg.next (mov_comm h),by rw [hlo2,mov_comm h]; rfl,?_⟩
    rw [hth,bnot_bnot,out_comm h]
    exact beqB_rfl _
  have hz1:∀ d,evF n g d z = _:=fun d=>evF_in hz
  have hz2:∀ d,evF n g d ((z+1) % n) = _:=fun d=>evF_in hjn
  have hL:toN (evF n g (fun _=>true) z).loc = partN (mbF g) n z:=by
    rw [hz1]
    show toN (loF n g z) = _
    rw [lo_N hz]
    rfl
  refine ⟨hz,hz,?_,?_,?_,?_,fun k1=>?_,fun k1 k2=>?_,fun k1 k2 k3=>?_,fun k1 k2 k3=>?_⟩
  · show ieq (evF n g (fun _=>true) z).dir (g z).src = true
    rw [hz1]
    exact ieq_rfl _
  · show ieq (evF n g (fun _=>true) ((z+1) % n)).dir (g z).dst = true
    rw [hz2,hmeet]
    exact ieq_rfl _
  · show ilt (evF n g (fun _=>true) z).loc 0 = false
    rw [hz1]
    show ilt (loF n g z) 0 = false
    rw [lo_N hz]
    exact neg_nat _
  · show ile (ofNat (kkN n g)) (evF n g (fun _=>true) z).loc = false
    rw [hz1]
    show ile (ofNat (kkN n g)) (loF n g z) = false
    rw [lo_N hz]
    exact ofNat_lt_ge (lo_lt hz hk0)
  · have hc:=comm_of k1 (by decide) (by decide)
    obtain ⟨c1,c2,c3⟩:=comm hc
    have k1:ieq (g z).kind 1 = true:=k1
    unfold kindOK at hkind
    rw [k1] at hkind
    simp only [cond_true,Bool.and_eq_true] at hkind
    obtain ⟨⟨e1,e2⟩,_⟩:=hkind
    have hwz:wrF g z = true:=e1
    have hwj:wrF g ((z+1) % n) = false:=by
      unfold wrF
      rw [<- hmeet,ieq_eq e2]
      rfl
    refine ⟨hjn,?_,?_,?_⟩
    · show ieq (rfF n g (fun _=>true) ((z+1) % n)) (ofNat z) = true
      show ieq (rfN (mbF g) (wrF g) n ((z+1) % n)) (ofNat z) = true
      rw [rf_at c1 hwj,wl_t (by rw [<- hseg.eq]; exact hwz),<- hseg.eq]
      exact ieq_rfl _
    · show ieq (evF n g (fun _=>true) z).loc (evF n g (fun _=>true) ((z+1) % n)).loc = true
      rw [hz1,hz2]
      exact c2
    · show beqB (g z).ext (bnot (ieq (evF n g (fun _=>true) z).th (evF n g (fun _=>true) ((z+1) % n)).th)) = true
      rw [hz1,hz2]
      exact c3
  · have hc:=comm_of k2 (by decide) (by decide)
    obtain ⟨c1,c2,c3⟩:=comm hc
    have k1:ieq (g z).kind 1 = false:=k1
    have k2:ieq (g z).kind 2 = true:=k2
    unfold kindOK at hkind
    rw [k1,k2] at hkind
    simp only [cond_true,cond_false,Bool.and_eq_true,true_and] at hkind
    obtain ⟨⟨e1,e2⟩,_⟩:=hkind
    have hwz:wrF g z = false:=by
      unfold wrF
      rw [ieq_eq e1]
      rfl
    have hwj:wrF g ((z+1) % n) = true:=by
      unfold wrF
      rw [<- hmeet]
      exact e2
    refine ⟨hz,?_,?_,?_⟩
    · show behB (lnN (mbF g) (wrF g) n (toN (evF n g (fun _=>true) z).loc)) (fun i=>ofNat (coN (mbF g) (wrF g) n (toN (evF n g (fun _=>true) z).loc) i)) (rfN (mbF g) (wrF g) n z) (ofNat ((z+1) % n)) = true
      rw [hL]
      refine behind_of hseg c1 hk0 hjn hwj ?_
      rw [rf_at hseg hwz,wc_f (by rw [<- hseg.eq]; exact hwz)]
      exact wl_eq (Nat.le_of_lt hseg.lt)
    · show ieq (evF n g (fun _=>true) z).loc (evF n g (fun _=>true) ((z+1) % n)).loc = true
      rw [hz1,hz2]
      exact c2
    · show beqB (g z).ext (bnot (ieq (evF n g (fun _=>true) z).th (evF n g (fun _=>true) ((z+1) % n)).th)) = true
      rw [hz1,hz2]
      exact c3
  · have hc:=comm_of k3 (by decide) (by decide)
    obtain ⟨c1,c2,c3⟩:=comm hc
    have k1:ieq (g z).kind 1 = false:=k1
    have k2:ieq (g z).kind 2 = false:=k2
    have k3:ieq (g z).kind 3 = true:=k3
    unfold kindOK at hkind
    rw [k1,k2,k3] at hkind
    simp only [cond_true,cond_false,Bool.and_eq_true,true_and] at hkind
    obtain ⟨e1,e2⟩:=hkind
    have hwz:wrF g z = true:=e1
    have hwj:wrF g ((z+1) % n) = true:=by
      unfold wrF
      rw [<- hmeet]
      exact e2
    have hwb:wrF g (rnd n (segN (mbF g) n z) (dstN (mbF g) n z)) = true:=by rw [<- hseg.eq]; exact hwz
    refine ⟨?_,?_,?_⟩
    · show behB (lnN (mbF g) (wrF g) n (toN (evF n g (fun _=>true) z).loc)) (fun i=>ofNat (coN (mbF g) (wrF g) n (toN (evF n g (fun _=>true) z).loc) i)) (ofNat z) (ofNat ((z+1) % n)) = true
      rw [hL]
      refine behind_of hseg c1 hk0 hjn hwj ?_
      rw [wc_t hwb,if_neg (by omega),Nat.add_sub_cancel,wrAt_at hseg.lt hwb,<- hseg.eq]
    · show ieq (evF n g (fun _=>true) z).loc (evF n g (fun _=>true) ((z+1) % n)).loc = true
      rw [hz1,hz2]
      exact c2
    · show beqB (g z).ext (bnot (ieq (evF n g (fun _=>true) z).th (evF n g (fun _=>true) ((z+1) % n)).th)) = true
      rw [hz1,hz2]
      exact c3
  · have hc:=comm_not k1 k2 k3
    have ho:=out_not hc
    have hzl:z ≠ n - 1:=fun he=>by
      have:obF g z = true:=by rw [he]; exact hlast
      rw [show obF g z = false from ho] at this
      cases this
    have hj:(z+1) % n = z+1:=Nat.mod_eq_of_lt (by omega)
    have ht:ieq (thF n g z) (thF n g ((z+1) % n)) = true:=by rw [hth,ho]; rfl
    refine ⟨?_,?_,?_⟩
    · show ieq (evF n g (fun _=>true) z).th (evF n g (fun _=>true) ((z+1) % n)).th = true
      rw [hz1,hz2]
      exact ht
    · show ieq (evF n g (fun _=>true) ((z+1) % n)).pl (wr .i64 (iadd (evF n g (fun _=>true) z).pl 1)) = true
      rw [hz1,hz2]
      show ieq (ofNat (plF n g ((z+1) % n))) (wr .i64 (iadd (ofNat (plF n g z)) 1)) = true
      have hle:plF n g z <= z:=cntB_le _ _
      rw [succ_wr (n:=16) (show plF n g z < 16 by omega) (by omega)]
      have:plF n g ((z+1) % n) = plF n g z+1:=by
        have ht2:=ieq_eq ht
        rw [hj] at ht2 ⊢
        unfold plF
        rw [<- ht2]
        exact cntB_t (p:=fun k=>ieq (thF n g z) (thF n g k)) (ieq_rfl _)
      rw [this]
      exact ieq_rfl _
    · show beqB (g z).same (ieq (evF n g (fun _=>true) z).loc (evF n g (fun _=>true) ((z+1) % n)).loc) = true
      rw [hz1,hz2]
      show beqB (g z).same (ieq (loF n g z) (loF n g ((z+1) % n))) = true
      rw [hlo2,mov_not hc,bnot_bnot]
      exact beqB_rfl _
theorem p4:PureC Try.prog Gl 4 lawT:=p4_of goes_all
end Go.Proofs.Ytjhnfomefcngfaa.Sh
