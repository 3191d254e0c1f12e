/-
  Layer 5: the laws CountWalks and CountUpto as functions. No conditions.
-/
import Derived.Test.YtdmjcpindopjdaaCoVi
namespace Go.Proofs.Ytdmjcpindopjdaa.Co
open Go.Sy

def wrdC (n : Nat) (f : Nat → E6) (k : Nat) : Int := wrdN (cl05 n f) k
def up1 (n : Nat) (f : Nat → E6) (k : Int) : Int := (upR n f k).1
def up2 (n : Nat) (f : Nat → E6) (k : Int) : Int := (upR n f k).2

noncomputable def tb9 : List (Nat × (List V → T (V × List Blk))) := [(11, copyT), (14, sameT), (15, unitT (bV true)), (16, gateT fun n f k => cl05 n f k), (18, gateT fun n f k => cl05 n f k), (17, gateT fun n f k => cls05 n f k), (28, gateT fun n f k => cls05 n f k), (29, gateT fun n f k => wrdN (cl05 n f) k), (30, gateT fun n f k => wrdN (cl05 n f) k)]
theorem tb9_ok : AllPure Try.prog Gl tb9 := .cons p37 <| .cons p36 <| .cons p15 <| .cons p16c <| .cons p18c <| .cons p17c <| .cons p28c <| .cons p29c <| .cons p30c .nil
noncomputable def tb5 : List (Nat × (List V → T (V × List Blk))) := [(15, unitT (bV true)), (21, upT), (22, upT)]
theorem tb5_ok : AllPure Try.prog Gl tb5 := .cons p15 <| .cons p21c <| .cons p22c .nil

theorem wl9_p (L : Nat → (St → T (Ex × St)) → St → T (Ex × St)) (n : Nat) (f : Nat → E6) (k : Int) : (finF (evalF tab ⟨callT tb9, L, Gl⟩ Try.f9 [edgesV n f, iV k] [])).path [true, true, true, true, true, true, true, true, true, true, true, true, true, true, true, true, true, true, true, true, true, true, true, true, true, true, true, true, true, true, true, true, true, true, true, true, true] = some ([(allN n (fun _ => Bool.true)), (fitN n), (allN n (fun _ => Bool.true)), (allN n (fun _ => Bool.true)), (allN n (fun _ => Bool.true)), (allN n (fun _ => Bool.true)), (allN n (fun _ => Bool.true)), (allN n (fun _ => Bool.true)), (ieq (gate1 n f k (cl05 n f (toN k))) (gate1 n f k (cl05 n f (toN k)))), (ieq (gate1 n f k (cl05 n f (toN k))) (gate1 n f k (cl05 n f (toN k)))), (ieq (gate1 n f k (cl05 n f (toN k))) (gate1 n f k (cl05 n f (toN k)))), (ieq (gate1 n f k (cl05 n f (toN k))) (gate1 n f k (cl05 n f (toN k)))), (ieq (gate2 n f k (cl05 n f (toN k))) (gate2 n f k (cl05 n f (toN k)))), (ieq (gate2 n f k (cl05 n f (toN k))) (gate2 n f k (cl05 n f (toN k)))), (ieq (gate2 n f k (cl05 n f (toN k))) (gate2 n f k (cl05 n f (toN k)))), (ieq (gate2 n f k (cl05 n f (toN k))) (gate2 n f k (cl05 n f (toN k)))), (ieq (gate1 n f k (cls05 n f (toN k))) (gate1 n f k (cls05 n f (toN k)))), (ieq (gate1 n f k (cls05 n f (toN k))) (gate1 n f k (cls05 n f (toN k)))), (ieq (gate1 n f k (cls05 n f (toN k))) (gate1 n f k (cls05 n f (toN k)))), (ieq (gate1 n f k (cls05 n f (toN k))) (gate1 n f k (cls05 n f (toN k)))), (ieq (gate2 n f k (cls05 n f (toN k))) (gate2 n f k (cls05 n f (toN k)))), (ieq (gate2 n f k (cls05 n f (toN k))) (gate2 n f k (cls05 n f (toN k)))), (ieq (gate2 n f k (cls05 n f (toN k))) (gate2 n f k (cls05 n f (toN k)))), (ieq (gate2 n f k (cls05 n f (toN k))) (gate2 n f k (cls05 n f (toN k)))), (ieq (gate1 n f k (wrdC n f (toN k))) (gate1 n f k (wrdC n f (toN k)))), (ieq (gate1 n f k (wrdC n f (toN k))) (gate1 n f k (wrdC n f (toN k)))), (ieq (gate1 n f k (wrdC n f (toN k))) (gate1 n f k (wrdC n f (toN k)))), (ieq (gate1 n f k (wrdC n f (toN k))) (gate1 n f k (wrdC n f (toN k)))), (ieq (gate2 n f k (wrdC n f (toN k))) (gate2 n f k (wrdC n f (toN k)))), (ieq (gate2 n f k (wrdC n f (toN k))) (gate2 n f k (wrdC n f (toN k)))), (ieq (gate2 n f k (wrdC n f (toN k))) (gate2 n f k (wrdC n f (toN k)))), (allN n (fun _ => Bool.true)), (allN n (fun _ => Bool.true)), (smallN n), (ieq (gate2 n f k (wrdC n f (toN k))) (gate2 n f k (wrdC n f (toN k)))), (sameB n f n f), (sameB n f n f)], ((bV Bool.true), [])) := by kernel_rfl
theorem wl9 (L : Nat → (St → T (Ex × St)) → St → T (Ex × St)) (n : Nat) (f : Nat → E6) (k : Int) (h13 : fitN n = true) (h14 : ieq (gate1 n f k (cl05 n f (toN k))) (gate1 n f k (cl05 n f (toN k))) = true) (h15 : ieq (gate2 n f k (cl05 n f (toN k))) (gate2 n f k (cl05 n f (toN k))) = true) (h16 : ieq (gate1 n f k (cls05 n f (toN k))) (gate1 n f k (cls05 n f (toN k))) = true) (h17 : ieq (gate2 n f k (cls05 n f (toN k))) (gate2 n f k (cls05 n f (toN k))) = true) (h18 : ieq (gate1 n f k (wrdC n f (toN k))) (gate1 n f k (wrdC n f (toN k))) = true) (h19 : ieq (gate2 n f k (wrdC n f (toN k))) (gate2 n f k (wrdC n f (toN k))) = true) (h20 : smallN n = true) (h21 : sameB n f n f = true) : (finF (evalF tab ⟨callT tb9, L, Gl⟩ Try.f9 [edgesV n f, iV k] [])).sem = some ((bV Bool.true), []) := by
  exact sem_of_path (wl9_p L n f k) (by simp only [h13, h14, h15, h16, h17, h18, h19, h20, h21, allN_true] <;> rfl)
theorem wl5_p (L : Nat → (St → T (Ex × St)) → St → T (Ex × St)) (n : Nat) (f : Nat → E6) (k : Int) : (finF (evalF tab ⟨callT tb5, L, Gl⟩ Try.f5 [edgesV n f, iV k] [])).path [true, true, true, true, true, true, true, true] = some ([(allN n (fun _ => Bool.true)), (allN n (fun _ => Bool.true)), (ieq (up1 n f k) (up1 n f k)), (ieq (up1 n f k) (up1 n f k)), (ieq (up1 n f k) (up1 n f k)), (ieq (up1 n f k) (up1 n f k)), (ieq (up2 n f k) (up2 n f k)), (ieq (up2 n f k) (up2 n f k))], ((bV Bool.true), [])) := by kernel_rfl
theorem wl5 (L : Nat → (St → T (Ex × St)) → St → T (Ex × St)) (n : Nat) (f : Nat → E6) (k : Int) (h13 : ieq (up1 n f k) (up1 n f k) = true) (h14 : ieq (up2 n f k) (up2 n f k) = true) : (finF (evalF tab ⟨callT tb5, L, Gl⟩ Try.f5 [edgesV n f, iV k] [])).sem = some ((bV Bool.true), []) := by
  exact sem_of_path (wl5_p L n f k) (by simp only [h13, h14, allN_true] <;> rfl)


/-- A law of a vocabulary and a number: it holds, where a copy of the vocabulary may be made. -/
def lawNT : List V → T (V × List Blk)
  | [v, u] => apL v fun n _ => match gI u with
    | some _ => .br (fitN n) (out (bV true)) .fail
    | none => .fail
  | _ => .fail

theorem lawNT_some {vs : List V} {r : V × List Blk} (h : (lawNT vs).sem = some r) : ∃ n f k, ArgLE vs [edgesV n f, iV k] ∧ fitN n = true ∧ r = (bV true, []) := by
  unfold lawNT at h
  split at h
  · obtain ⟨n, f, ha, hq⟩ := apL_some h
    split at hq
    · rename_i u _ k hk
      obtain ⟨hn, hq⟩ := sem_br_fail hq
      refine ⟨n, f, k, fun S w cs hv => ?_, hn, sem_leaf hq⟩
      obtain ⟨c, l, rfl, q1, c', l', rfl, q2, q3⟩ := hv
      rw [gI_some hk] at q2
      exact ⟨c, _, rfl, ha S w c q1, c', _, rfl, q2, q3⟩
    · cases hq
  · cases h

theorem lawN_sem {n : Nat} (f : Nat → E6) (k : Int) (hn : n * 40 ≤ 140737488355328) : (lawNT [edgesV n f, iV k]).sem = some (bV true, []) := by
  unfold lawNT
  rw [apL_sem]
  have hn : fitN n = true := decide_eq_true hn
  simp only [hn]
  rfl

theorem p9 : PureC Try.prog Gl 9 lawNT := by
  refine pureC_intro tabOK mixed Try.func9 (by kernel_rfl) (by kernel_rfl) fun vs v h' h => ?_
  obtain ⟨n, f, k, hA, hn, hr⟩ := lawNT_some h
  simp only [Prod.mk.injEq] at hr
  obtain ⟨rfl, rfl⟩ := hr
  have hx := cx_ok tb9_ok []
  exact ⟨_, cxOf Gl tb9 [], _, hA, rfl, hx.1, hx.2, wl9 _ n f k hn (ieq_self _) (ieq_self _) (ieq_self _) (ieq_self _) (ieq_self _) (ieq_self _) (fit_small hn) (sameB_self n f), RowsLE.refl _⟩

theorem p5 : PureC Try.prog Gl 5 lawNT := by
  refine pureC_intro tabOK mixed Try.func5 (by kernel_rfl) (by kernel_rfl) fun vs v h' h => ?_
  obtain ⟨n, f, k, hA, hn, hr⟩ := lawNT_some h
  simp only [Prod.mk.injEq] at hr
  obtain ⟨rfl, rfl⟩ := hr
  have hx := cx_ok tb5_ok []
  exact ⟨_, cxOf Gl tb5 [], _, hA, rfl, hx.1, hx.2, wl5 _ n f k (ieq_self _) (ieq_self _), RowsLE.refl _⟩

end Go.Proofs.Ytdmjcpindopjdaa.Co
