/-
  What must come; the laws FamilyOf and FamilyBares as functions. Conditions: the listed variables read as listed.
-/
import Derived.Test.YtkcbdemfmjciiaaDoorFaC
namespace Go.Proofs.YtkcbdemfmjciiaaDoor.Fa
open Go.Sy Go Go.Proofs.YtkcbdemfmjciiaaDoor.Ed


/-! ### What must come, whatever the arguments are -/

noncomputable def tb14f : List (Nat × (List V → T (V × List Blk))) := [(41, psT), (11, nameTT)]
theorem tb14f_ok : AllPure Tryd.prog Gl tb14f := .cons p41 <| .cons q11 .nil

theorem awk1 : fitN (psN [80, 111, 100, 87, 82, 32, 70, 114, 101, 32, 77, 70, 101, 110, 99, 101, 100, 87, 82, 32, 70, 114, 101]) = true := by kernel_rfl
theorem awk2 : ieq (nameE 1 (psN [80, 111, 100, 87, 82, 32, 70, 114, 101, 32, 77, 70, 101, 110, 99, 101, 100, 87, 82, 32, 70, 114, 101]) (fun i => (psG [80, 111, 100, 87, 82, 32, 70, 114, 101, 32, 77, 70, 101, 110, 99, 101, 100, 87, 82, 32, 70, 114, 101] i))) 0 = true := by kernel_rfl
theorem awk3 : seq (nameT 1 (psN [80, 111, 100, 87, 82, 32, 70, 114, 101, 32, 77, 70, 101, 110, 99, 101, 100, 87, 82, 32, 70, 114, 101]) (fun i => (psG [80, 111, 100, 87, 82, 32, 70, 114, 101, 32, 77, 70, 101, 110, 99, 101, 100, 87, 82, 32, 70, 114, 101] i))) [83, 66, 43, 70, 114, 101, 43, 80, 111, 100, 87, 82, 43, 70, 114, 101, 43, 77, 70, 101, 110, 99, 101, 100, 87, 82] = true := by kernel_rfl

theorem wf14 (L : Nat → (St → T (Ex × St)) → St → T (Ex × St)) (u : Nat) (h23 : fitN (psN [80, 111, 100, 87, 82, 32, 70, 114, 101, 32, 77, 70, 101, 110, 99, 101, 100, 87, 82, 32, 70, 114, 101]) = true) (h24 : ieq (nameE 1 (psN [80, 111, 100, 87, 82, 32, 70, 114, 101, 32, 77, 70, 101, 110, 99, 101, 100, 87, 82, 32, 70, 114, 101]) (fun i => (psG [80, 111, 100, 87, 82, 32, 70, 114, 101, 32, 77, 70, 101, 110, 99, 101, 100, 87, 82, 32, 70, 114, 101] i))) 0 = true) : (finF (evalF tab ⟨callT tb14f, L, Gl⟩ Tryd.f14 [] [])).sem = some ((bV (seq (nameT 1 (psN [80, 111, 100, 87, 82, 32, 70, 114, 101, 32, 77, 70, 101, 110, 99, 101, 100, 87, 82, 32, 70, 114, 101]) (fun i => (psG [80, 111, 100, 87, 82, 32, 70, 114, 101, 32, 77, 70, 101, 110, 99, 101, 100, 87, 82, 32, 70, 114, 101] i))) [83, 66, 43, 70, 114, 101, 43, 80, 111, 100, 87, 82, 43, 70, 114, 101, 43, 77, 70, 101, 110, 99, 101, 100, 87, 82])), []) := by
  exact sem_of_path (ds := [true, true, true, true, true]) (cs := [(allN (psN [80, 111, 100, 87, 82, 32, 70, 114, 101, 32, 77, 70, 101, 110, 99, 101, 100, 87, 82, 32, 70, 114, 101]) (fun _ => Bool.true)), (fitN (psN [80, 111, 100, 87, 82, 32, 70, 114, 101, 32, 77, 70, 101, 110, 99, 101, 100, 87, 82, 32, 70, 114, 101])), (ieq (nameE 1 (psN [80, 111, 100, 87, 82, 32, 70, 114, 101, 32, 77, 70, 101, 110, 99, 101, 100, 87, 82, 32, 70, 114, 101]) (fun i => (psG [80, 111, 100, 87, 82, 32, 70, 114, 101, 32, 77, 70, 101, 110, 99, 101, 100, 87, 82, 32, 70, 114, 101] i))) 0), (ieq (nameE 1 (psN [80, 111, 100, 87, 82, 32, 70, 114, 101, 32, 77, 70, 101, 110, 99, 101, 100, 87, 82, 32, 70, 114, 101]) (fun i => (psG [80, 111, 100, 87, 82, 32, 70, 114, 101, 32, 77, 70, 101, 110, 99, 101, 100, 87, 82, 32, 70, 114, 101] i))) 0), (ieq (nameE 1 (psN [80, 111, 100, 87, 82, 32, 70, 114, 101, 32, 77, 70, 101, 110, 99, 101, 100, 87, 82, 32, 70, 114, 101]) (fun i => (psG [80, 111, 100, 87, 82, 32, 70, 114, 101, 32, 77, 70, 101, 110, 99, 101, 100, 87, 82, 32, 70, 114, 101] i))) 0)]) (by kernel_rfl) (by simp only [h23, h24, allN_true] <;> rfl)

theorem q14 : PureC Tryd.prog Gl 14 (unitT (bV true)) := by
  refine pureC_intro tabOK mixed Tryd.func14 (by kernel_rfl) (by kernel_rfl) fun vs v h' h => ?_
  unfold unitT at h
  split at h
  · have := sem_leaf h
    simp only [Prod.mk.injEq] at this
    obtain ⟨rfl, rfl⟩ := this
    have hx := cx_ok tb14f_ok []
    have hw := wf14 (loopsBy []) 0 awk1 awk2
    rw [awk3] at hw
    exact ⟨_, cxOf Gl tb14f [], _, ArgLE.refl _, rfl, hx.1, hx.2, hw, RowsLE.refl _⟩
  · cases h

/-! ### The laws -/

theorem seq_rfl (l : List UInt8) : seq l l = true := by simp [seq]

theorem famQ_congr {n : Nat} {f g : Nat → E6} (h : ∀ i, i < n → g i = f i) (b : Nat) : famQ n g b = famQ n f b := sameC_congr fun i hi => by rw [h i hi]
theorem famO_congr {n : Nat} {f g : Nat → E6} (h : ∀ i, i < n → g i = f i) : famO n g = famO n f := by
  unfold famO
  rw [show famQ n g = famQ n f from funext (famQ_congr h)]
theorem famT_congr {n : Nat} {f g : Nat → E6} (h : ∀ i, i < n → g i = f i) : famT n g = famT n f := by
  unfold famT
  rw [famO_congr h, mayN_cong h]
theorem famE_congr {n : Nat} {f g : Nat → E6} (h : ∀ i, i < n → g i = f i) : famE n g = famE n f := by
  unfold famE
  rw [famO_congr h, mayN_cong h]
theorem nmX_congr {n : Nat} {f g : Nat → E6} (h : ∀ i, i < n → g i = f i) (hm : mayN n f = true) : ∀ i, i ≤ n → nmX n g i = nmX n f i
  | 0, _ => by
    show headT n g = headT n f
    unfold headT
    rw [famT_congr h, famE_congr h]
  | i + 1, hi => by
    rw [nmX, nmX, nmX_congr h hm i (by omega), can_ref hm h i (by omega), can_ref hm (fun _ _ => rfl) i (by omega)]
theorem chkE_congr {a : Int} {n : Nat} {f g : Nat → E6} (h : ∀ i, i < n → g i = f i) : chkE a n g = chkE a n f := by
  unfold chkE
  rw [chkR_congr h]
theorem nameE_congr {a : Int} {n : Nat} {f g : Nat → E6} (h : ∀ i, i < n → g i = f i) : nameE a n g = nameE a n f := chkE_congr h
theorem nameT_congr {a : Int} {n : Nat} {f g : Nat → E6} (h : ∀ i, i < n → g i = f i) : nameT a n g = nameT a n f := by
  unfold nameT
  rw [chkE_congr h]
  cases hc : ieq (chkE a n f) 0 with
  | true => exact nmX_congr h (isCycle_of hc).may n (Nat.le_refl _)
  | false => rfl

noncomputable def tb3f : List (Nat × (List V → T (V × List Blk))) := [(8, lentT), (13, keptT), (9, famOfT), (10, famOfT), (11, nameTT), (12, nameTT), (14, unitT (bV true))]
theorem tb3f_ok : AllPure Tryd.prog Gl tb3f := .cons p47 <| .cons p50 <| .cons q9 <| .cons q10 <| .cons q11 <| .cons q12 <| .cons q14 .nil
noncomputable def tb4f : List (Nat × (List V → T (V × List Blk))) := [(15, bareT), (16, bareT), (17, sameTextsT), (18, famRowT), (19, famRowT), (20, sameT), (14, unitT (bV true))]
theorem tb4f_ok : AllPure Tryd.prog Gl tb4f := .cons q15 <| .cons q16 <| .cons q17 <| .cons q18 <| .cons q19 <| .cons p42 <| .cons q14 .nil

theorem famK_lt {s : List UInt8} (h : isFam s = true) : famK s < 25 := by
  unfold isFam at h
  unfold famK
  cases hf : famI s with
  | none => rw [hf] at h; cases h
  | some k =>
    have := (firstQ_some hf).2.1
    show k < 25
    omega
theorem fit_smallF {n : Nat} (h : fitN n = true) : smallN n = true := decide_eq_true (fit_small h)

theorem wf3 (L : Nat → (St → T (Ex × St)) → St → T (Ex × St)) (a : Int) (n : Nat) (f : Nat → E6) (h23 : fitN (nadd n 60) = true) (h24 : fitN n = true) (h25 : seq (famT n (fun i => (lentE n f i))) (famT n f) = true) (h26 : ieq (famE n (fun i => (lentE n f i))) (famE n f) = true) (h27 : seq (nameT a n (fun i => (lentE n f i))) (nameT a n f) = true) (h28 : ieq (nameE a n (fun i => (lentE n f i))) (nameE a n f) = true) (h29 : keptB n (nadd n 40) (fun i => (lentE n f i)) n f = true) : (finF (evalF tab ⟨callT tb3f, L, Gl⟩ Tryd.f3 [iV a, edgesV n f] [])).sem = some ((bV Bool.true), []) := by
  exact sem_of_path (ds := [true, true, true, true, true, true, true, true, true, true, true, true, true, true, true, true, true, true, true, true, true, true, true, true, true, true, true, true, true, true, true, true]) (cs := [(allN n (fun _ => Bool.true)), (fitN (nadd n 60)), (allN n (fun _ => Bool.true)), (fitN n), (allN n (fun _ => Bool.true)), (fitN n), (allN n (fun _ => Bool.true)), (fitN n), (allN n (fun _ => Bool.true)), (fitN n), (seq (famT n (fun i => (lentE n f i))) (famT n f)), (seq (famT n (fun i => (lentE n f i))) (famT n f)), (seq (famT n (fun i => (lentE n f i))) (famT n f)), (seq (famT n (fun i => (lentE n f i))) (famT n f)), (ieq (famE n (fun i => (lentE n f i))) (famE n f)), (ieq (famE n (fun i => (lentE n f i))) (famE n f)), (ieq (famE n (fun i => (lentE n f i))) (famE n f)), (ieq (famE n (fun i => (lentE n f i))) (famE n f)), (seq (nameT a n (fun i => (lentE n f i))) (nameT a n f)), (seq (nameT a n (fun i => (lentE n f i))) (nameT a n f)), (seq (nameT a n (fun i => (lentE n f i))) (nameT a n f)), (seq (nameT a n (fun i => (lentE n f i))) (nameT a n f)), (ieq (nameE a n (fun i => (lentE n f i))) (nameE a n f)), (ieq (nameE a n (fun i => (lentE n f i))) (nameE a n f)), (ieq (nameE a n (fun i => (lentE n f i))) (nameE a n f)), (allN (nadd n 40) (fun _ => Bool.true)), (allN n (fun _ => Bool.true)), (fitN (nadd n 60)), (keptB n (nadd n 40) (fun i => (lentE n f i)) n f), (ieq (nameE a n (fun i => (lentE n f i))) (nameE a n f)), Bool.true, Bool.true]) (by kernel_rfl) (by simp only [h23, h24, h25, h26, h27, h28, h29, allN_true] <;> rfl)

def law3T : List V → T (V × List Blk)
  | [.val (.int .i64 _), v] => apL v fun n _ => .br (fitN (nadd n 60)) (out (bV true)) .fail
  | _ => .fail

theorem q3 : PureC Tryd.prog Gl 3 law3T := by
  refine pureC_intro tabOK mixed Tryd.func3 (by kernel_rfl) (by kernel_rfl) fun vs v h' h => ?_
  unfold law3T at h
  split at h
  · rename_i a u
    obtain ⟨n, f, ha, h1⟩ := apL_some h
    obtain ⟨hn, hq⟩ := sem_br_fail h1
    have := sem_leaf hq
    simp only [Prod.mk.injEq] at this
    obtain ⟨rfl, rfl⟩ := this
    have hx := cx_ok tb3f_ok []
    exact ⟨_, cxOf Gl tb3f [], _, argF ha, rfl, hx.1, hx.2, wf3 _ a n f hn (fit60 hn) (by rw [famT_congr fun i hi => lentE_lt hi]; exact seq_rfl _) (by rw [famE_congr fun i hi => lentE_lt hi]; exact ieq_rfl _) (by rw [nameT_congr fun i hi => lentE_lt hi]; exact seq_rfl _) (by rw [nameE_congr fun i hi => lentE_lt hi]; exact ieq_rfl _) (kept_lent n f), RowsLE.refl _⟩
  · cases h

theorem law3_sem {a : Int} {n : Nat} (f : Nat → E6) (hn : n * 40 ≤ 140737488351232) : (law3T [iV a, edgesV n f]).sem = some (bV true, []) := by
  show (apL (edgesV n f) fun n _ => T.br (fitN (nadd n 60)) (out (bV true)) .fail).sem = _
  rw [apLsem]
  have hn : fitN (nadd n 60) = true := decide_eq_true (by show (n + 60) * 40 ≤ _; omega)
  simp only [hn]
  rfl

theorem wf4y (L : Nat → (St → T (Ex × St)) → St → T (Ex × St)) (s : List UInt8) (h0 : isFam s = true) (h24 : nbeq 25 25 = true) (h25 : smallN 25 = true) (h26 : allN 25 (fun i => (seq (famS i) (famS i))) = true) (h27 : smallN (psN (bareS (famK s))) = true) (h28 : sameB (psN (bareS (famK s))) (fun i => (psG (bareS (famK s)) i)) (psN (bareS (famK s))) (fun i => (psG (bareS (famK s)) i)) = true) : (finF (evalF tab ⟨callT tb4f, L, Gl⟩ Tryd.f4 [.str s] [])).sem = some ((bV Bool.true), []) := by
  exact sem_of_path (ds := [true, true, true, true, true, true, true, true, true, true, true, true, true, true, true, true, true, true, true, true]) (cs := [(isFam s), (isFam s), (allN 25 (fun _ => Bool.true)), (allN 25 (fun _ => Bool.true)), (nbeq 25 25), (smallN 25), (allN 25 (fun i => (seq (famS i) (famS i)))), Bool.true, Bool.true, Bool.true, (allN (psN (bareS (famK s))) (fun _ => Bool.true)), (allN (psN (bareS (famK s))) (fun _ => Bool.true)), (smallN (psN (bareS (famK s)))), Bool.true, (sameB (psN (bareS (famK s))) (fun i => (psG (bareS (famK s)) i)) (psN (bareS (famK s))) (fun i => (psG (bareS (famK s)) i))), (sameB (psN (bareS (famK s))) (fun i => (psG (bareS (famK s)) i)) (psN (bareS (famK s))) (fun i => (psG (bareS (famK s)) i))), (sameB (psN (bareS (famK s))) (fun i => (psG (bareS (famK s)) i)) (psN (bareS (famK s))) (fun i => (psG (bareS (famK s)) i))), (sameB (psN (bareS (famK s))) (fun i => (psG (bareS (famK s)) i)) (psN (bareS (famK s))) (fun i => (psG (bareS (famK s)) i))), (ieq 0 0), (ieq 0 0)]) (by kernel_rfl) (by simp only [h0, h24, h25, h26, h27, h28, allN_true] <;> rfl)

theorem wf4n (L : Nat → (St → T (Ex × St)) → St → T (Ex × St)) (s : List UInt8) (h0 : isFam s = false) (h24 : nbeq 25 25 = true) (h25 : smallN 25 = true) (h26 : allN 25 (fun i => (seq (famS i) (famS i))) = true) (h27 : allN 0 (fun _ => Bool.false) = true) (h28 : smallN 0 = true) (h29 : sameB 0 (fun _ => (E6.mk 0 Bool.false Bool.false 0 0 0)) 0 (fun _ => (E6.mk 0 Bool.false Bool.false 0 0 0)) = true) : (finF (evalF tab ⟨callT tb4f, L, Gl⟩ Tryd.f4 [.str s] [])).sem = some ((bV Bool.true), []) := by
  exact sem_of_path (ds := [false, false, true, true, true, true, true, true, true, true, true, true, true, true, true, true, true, true, true, true]) (cs := [(isFam s), (isFam s), (allN 25 (fun _ => Bool.true)), (allN 25 (fun _ => Bool.true)), (nbeq 25 25), (smallN 25), (allN 25 (fun i => (seq (famS i) (famS i)))), Bool.true, Bool.true, Bool.true, (allN 0 (fun _ => Bool.false)), (allN 0 (fun _ => Bool.false)), (smallN 0), Bool.true, (sameB 0 (fun _ => (E6.mk 0 Bool.false Bool.false 0 0 0)) 0 (fun _ => (E6.mk 0 Bool.false Bool.false 0 0 0))), (sameB 0 (fun _ => (E6.mk 0 Bool.false Bool.false 0 0 0)) 0 (fun _ => (E6.mk 0 Bool.false Bool.false 0 0 0))), (sameB 0 (fun _ => (E6.mk 0 Bool.false Bool.false 0 0 0)) 0 (fun _ => (E6.mk 0 Bool.false Bool.false 0 0 0))), (sameB 0 (fun _ => (E6.mk 0 Bool.false Bool.false 0 0 0)) 0 (fun _ => (E6.mk 0 Bool.false Bool.false 0 0 0))), (ieq 4 4), (ieq 4 4)]) (by kernel_rfl) (by simp only [h0, h24, h25, h26, h27, h28, h29, allN_true] <;> rfl)

def law4T : List V → T (V × List Blk)
  | [.str _] => out (bV true)
  | _ => .fail

theorem q4 : PureC Tryd.prog Gl 4 law4T := by
  refine pureC_intro tabOK mixed Tryd.func4 (by kernel_rfl) (by kernel_rfl) fun vs v h' h => ?_
  unfold law4T at h
  split at h
  · rename_i s
    have := sem_leaf h
    simp only [Prod.mk.injEq] at this
    obtain ⟨rfl, rfl⟩ := this
    have hx := cx_ok tb4f_ok []
    refine ⟨_, cxOf Gl tb4f [], _, ArgLE.refl _, rfl, hx.1, hx.2, ?_, RowsLE.refl _⟩
    cases hf : isFam s with
    | true => exact wf4y _ s hf rfl rfl (allN_iff.2 fun _ _ => seq_rfl _) (fit_smallF (bare_may (famK_lt hf)).2) (sameB_at.2 ⟨rfl, fun _ _ => rfl⟩)
    | false => exact wf4n _ s hf rfl rfl (allN_iff.2 fun _ _ => seq_rfl _) rfl rfl rfl
  · cases h

#print axioms q3
#print axioms q4

end Go.Proofs.YtkcbdemfmjciiaaDoor.Fa

