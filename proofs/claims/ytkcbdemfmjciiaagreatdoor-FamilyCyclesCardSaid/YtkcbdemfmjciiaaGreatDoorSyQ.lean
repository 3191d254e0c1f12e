/-
  From the evaluator to a law's row: functions said otherwise, arguments and tables read, a law's walk. Conditions: as before.
-/
import Derived.Test.YtkcbdemfmjciiaaGreatDoorSyP
import Derived.ProofKit
import Derived.Carry
import Derived.SizedLaws
import Derived.FnData
import Derived.Lib.LaidTab
namespace Go.Sy

/-! ### A function, said otherwise -/

def ArgLE (vs vs' : List V) : Prop := ∀ S w cs, VRs S w vs noK cs → VRs S w vs' noK cs

theorem ArgLE.refl (vs : List V) : ArgLE vs vs := fun _ _ _ h => h

/-- Rows one by one, their elements told as far as they reach. -/
def RowsLE (h h' : List Blk) : Prop := h.length = h'.length ∧ ∀ (i e s n : Nat) (g : Nat → V), h[i]? = some (Blk.row e s n g) → ∃ g', h'[i]? = some (Blk.row e s n g') ∧ ∀ j, j < n → g' j = g j

theorem RowsLE.refl (h : List Blk) : RowsLE h h := ⟨rfl, fun _ _ _ _ g hi => ⟨g, hi, fun _ _ => rfl⟩⟩

theorem RowsLE.one {e s n : Nat} {g g' : Nat → V} (h : ∀ j, j < n → g' j = g j) : RowsLE [Blk.row e s n g] [Blk.row e s n g'] := by
  refine ⟨rfl, fun i e' s' n' g1 hi => ?_⟩
  cases i with
  | zero =>
    simp at hi
    obtain ⟨rfl, rfl, rfl, rfl⟩ := hi
    exact ⟨g', rfl, h⟩
  | succ i => simp at hi

theorem RowsLE.cons {e s n : Nat} {g g' : Nat → V} {l l' : List Blk} (h : ∀ j, j < n → g' j = g j) (hl : RowsLE l l') : RowsLE (Blk.row e s n g :: l) (Blk.row e s n g' :: l') := by
  refine ⟨by simp [hl.1], fun i e' s' n' g1 hi => ?_⟩
  cases i with
  | zero =>
    simp at hi
    obtain ⟨rfl, rfl, rfl, rfl⟩ := hi
    exact ⟨g', rfl, h⟩
  | succ i => simpa using hl.2 i e' s' n' g1 (by simpa using hi)

theorem RowsLE.rows {h h' : List Blk} (hh : RowsLE h h') (hr : RowsB h) : RowsB h' := by
  intro i b hb
  have hl : i < h.length := by rw [hh.1]; exact (List.getElem?_eq_some_iff.1 hb).1
  obtain ⟨e, s, n, g, he⟩ := hr i _ (List.getElem?_eq_getElem hl)
  obtain ⟨g', h1, _⟩ := hh.2 i e s n g (by rw [← he]; exact List.getElem?_eq_getElem hl)
  rw [h1] at hb
  simp only [Option.some.injEq] at hb
  exact ⟨e, s, n, g', hb.symm⟩

theorem RowsLE.good {h h' : List Blk} (hh : RowsLE h h') (hr : RowsB h) {κ : Nat → Option Value} {S : Nat → Prop} {w : World} (hg : Good κ S h w) : Good κ S h' w ∧ ∀ i, ownB κ h' i = ownB κ h i := by
  have hown : ∀ i, ownB κ h' i = ownB κ h i := by
    intro i
    cases hi : h[i]? with
    | none =>
      have : h'[i]? = none := by
        rw [List.getElem?_eq_none_iff] at hi ⊢
        rw [← hh.1]; exact hi
      unfold ownB
      rw [hi, this]
    | some b =>
      obtain ⟨e, s, n, g, rfl⟩ := hr i b hi
      obtain ⟨g', h1, _⟩ := hh.2 i e s n g hi
      unfold ownB
      rw [hi, h1]
  refine ⟨⟨?_, ?_, ?_, ?_⟩, hown⟩
  · intro i b hb
    have hl : i < h.length := by rw [hh.1]; exact (List.getElem?_eq_some_iff.1 hb).1
    obtain ⟨e, s, n, g, he⟩ := hr i _ (List.getElem?_eq_getElem hl)
    have he' : h[i]? = some (Blk.row e s n g) := by rw [← he]; exact List.getElem?_eq_getElem hl
    obtain ⟨g', h1, h2⟩ := hh.2 i e s n g he'
    rw [h1] at hb
    simp only [Option.some.injEq] at hb
    subst hb
    obtain ⟨q0, c, xs, q1, q2, q3⟩ := hg.blk i _ he'
    exact ⟨q0, c, xs, q1, q2, fun k hk => by rw [h2 k hk]; exact q3 k hk⟩
  · intro i j g hij hi hj
    rw [hown] at hi hj
    exact hg.sep i j g hij hi hj
  · intro b hb
    exact ⟨(hg.out b hb).1, fun i hi => (hg.out b hb).2 i (by rw [← hown]; exact hi)⟩
  · intro i hi
    exact hg.dom i (by rw [hh.1]; exact hi)

/-- A function by its body, said otherwise. -/
theorem pureC_intro {P : Program} {τ : List Ty} (hτ : TabOK P τ) (hm : P.follows .mixedOrders = true) {f : FuncId} {fn : Func} (hf : P.funcs[f]? = some fn)
    (hb : fn.body.isSome = true) (hn : (fn.name == "runtime.NumGoroutine") = false) {G : Nat → V} {F : List V → T (V × List Blk)}
    (h : ∀ vs v h', (F vs).sem = some (v, h') → ∃ vs' Γ h'', ArgLE vs vs' ∧ Γ.glob = G ∧ CallOK P Γ.base ∧ LoopOK Γ ∧ (finF (evalF τ Γ fn vs' [])).sem = some (v, h'') ∧ RowsLE h'' h') : PureC P G f F := by
  obtain ⟨c, hb⟩ := Option.isSome_iff_exists.1 hb
  have hn : fn.name ≠ "runtime.NumGoroutine" := by simpa using hn
  refine ⟨⟨fn, hf, hn, by rw [hb]; rfl⟩, fun vs cs S w v h' hS hE hv he => ?_⟩
  obtain ⟨vs', Γ, h'', h1, h2, h3, hΛ, h4, h5⟩ := h vs v h' he
  subst h2
  obtain ⟨hr, hc⟩ := (pureC_of_eval hτ hm h3 hΛ hf hb hn).2 vs' cs S w v h'' hS hE (h1 S w cs hv) h4
  refine ⟨h5.rows hr, hc.mono ?_⟩
  rintro e w' ⟨u, κ', S', rfl, g1, g2, g3⟩
  obtain ⟨p1, p2⟩ := h5.good hr g1
  refine ⟨u, κ', S', rfl, p1, g2, Ext.ofNil g3.os g3.tape g3.output g3.size g3.keep (fun i b hb => ?_) g3.sub g3.sup (h5.rows hr)⟩
  rw [p2] at hb
  exact g3.own i b hb

/-- A function by its body, as it stands. -/
theorem pureC_body {P : Program} {τ : List Ty} (hτ : TabOK P τ) (hm : P.follows .mixedOrders = true) {f : FuncId} {fn : Func} (hf : P.funcs[f]? = some fn)
    (hb : fn.body.isSome = true) (hn : (fn.name == "runtime.NumGoroutine") = false) {Γ : Cx} (hΓ : CallOK P Γ.base ∧ LoopOK Γ) : PureC P Γ.glob f fun vs => finF (evalF τ Γ fn vs []) := by
  obtain ⟨c, hb⟩ := Option.isSome_iff_exists.1 hb
  exact pureC_of_eval hτ hm hΓ.1 hΓ.2 hf hb (by simpa using hn)

/-- The blocks that were there. -/
def Live (W : World) : Nat → Prop := fun b => b < W.heap.size

/-- A law's walk. -/
theorem walk_of_pure {P : Program} {G : Nat → V} {f : FuncId} {F : List V → T (V × List Blk)} (hp : PureC P G f F) {vs : List V} {cs : List Value} {W : World} {h' : List Blk} (hE : EnvG G (Live W) W)
    (hv : VRs (Live W) W vs noK cs) (he : (F vs).sem = some (bV true, h')) : Calls P f cs.toArray W fun e w' => e = .returned (.bool true) ∧ RowKit.Below W.heap.size W w' := by
  refine (hp.2 vs cs (Live W) W _ h' (fun _ h => h) hE hv he).2.mono ?_
  rintro e w' ⟨c, κ', S', rfl, _, g2, g3⟩
  have g2 : c = .bool true := g2
  subst g2
  exact ⟨rfl, g3.os, g3.tape, g3.output, g3.size, fun k hk => g3.keep k hk (fun i hi => by rw [ownB_nil] at hi; cases hi)⟩

theorem cell_lt {w : World} {a : Addr} {v : Value} (h : w.cell? a = some v) : a.block < w.heap.size := by
  rcases Nat.lt_or_ge a.block w.heap.size with hl | hl
  · exact hl
  · simp [World.cell?, Array.getElem?_eq_none hl] at h

/-- Loops gone through round by round, each by what is told of it. -/
def loopsBy (loops : List (Nat × Lp)) (id : Nat) (f : St → T (Ex × St)) (st : St) : T (Ex × St) :=
  match lookN id loops with
  | some l => iterT f l l.fuel st
  | none => .fail

/-- What is told to the evaluator. -/
def cxOf (G : Nat → V) (tbl : List (Nat × (List V → T (V × List Blk)))) (loops : List (Nat × Lp)) : Cx := ⟨callT tbl, loopsBy loops, G⟩

theorem cx_ok {P : Program} {G : Nat → V} {tbl : List (Nat × (List V → T (V × List Blk)))} (h : AllPure P G tbl) (loops : List (Nat × Lp)) : CallOK P (cxOf G tbl loops).base ∧ LoopOK (cxOf G tbl loops) :=
  ⟨callT_ok rfl h, fun id f st r hr => by
    have hr : (loopsBy loops id f st).sem = some r := hr
    unfold loopsBy at hr
    split at hr
    · exact iterT_run hr
    · cases hr⟩

/-! ### One way through a tree -/

/-- The tests and the leaf along a way through a tree. -/
def T.path {α : Type} : List Bool → T α → Option (List Bool × α)
  | [], .leaf a => some ([], a)
  | true :: ds, .br b x _ => match T.path ds x with
    | some (cs, a) => some (b :: cs, a)
    | none => none
  | false :: ds, .br b _ y => match T.path ds y with
    | some (cs, a) => some (b :: cs, a)
    | none => none
  | _, _ => none

theorem sem_of_path {α : Type} : ∀ {ds cs : List Bool} {t : T α} {a : α}, T.path ds t = some (cs, a) → cs = ds → t.sem = some a
  | [], cs, .leaf a, r, h, _ => by
    simp [T.path] at h
    rw [h.2]; rfl
  | true :: ds, cs, .br b x y, r, h, hc => by
    simp only [T.path] at h
    split at h
    · rename_i cs' a' hp
      simp only [Option.some.injEq, Prod.mk.injEq] at h
      obtain ⟨rfl, rfl⟩ := h
      simp only [List.cons.injEq] at hc
      obtain ⟨rfl, hc⟩ := hc
      show sel true x.sem y.sem = _
      exact sem_of_path hp hc
    · cases h
  | false :: ds, cs, .br b x y, r, h, hc => by
    simp only [T.path] at h
    split at h
    · rename_i cs' a' hp
      simp only [Option.some.injEq, Prod.mk.injEq] at h
      obtain ⟨rfl, rfl⟩ := h
      simp only [List.cons.injEq] at hc
      obtain ⟨rfl, hc⟩ := hc
      show sel false x.sem y.sem = _
      exact sem_of_path hp hc
    · cases h
  | [], _, .br _ _ _, _, h, _ => by simp [T.path] at h
  | [], _, .fail, _, h, _ => by simp [T.path] at h
  | true :: _, _, .leaf _, _, h, _ => by simp [T.path] at h
  | false :: _, _, .leaf _, _, h, _ => by simp [T.path] at h
  | true :: _, _, .fail, _, h, _ => by simp [T.path] at h
  | false :: _, _, .fail, _, h, _ => by simp [T.path] at h

/-! ### A loop, told by what it comes to -/

theorem iter_next {f : St → T (Ex × St)} {l : Lp} {m : Nat} {st st1 : St} (h : (f st).sem = some (.nm, st1)) : (iterT f l (m + 1) st).sem = (iterT f l m (cutS l.ks l.n st1)).sem := by
  show ((f st).bind _).sem = _
  rw [sem_bind, h]

theorem iter_stop {f : St → T (Ex × St)} {l : Lp} {m : Nat} {st st1 : St} {e : Ex} (he : e ≠ .nm) (h : (f st).sem = some (e, st1)) : (iterT f l (m + 1) st).sem = some (e, cutS l.ke l.ne st1) := by
  show ((f st).bind _).sem = _
  rw [sem_bind, h]
  cases e with
  | nm => exact absurd rfl he
  | ex i => rfl
  | rt => rfl

theorem iter_step {f : St → T (Ex × St)} {l : Lp} {m : Nat} {st st2 : St} {ds cs : List Bool} (h : ((f st).bind fun r => T.leaf (r.1, cutS l.ks l.n r.2)).path ds = some (cs, (.nm, st2))) (hc : cs = ds) :
    (iterT f l (m + 1) st).sem = (iterT f l m st2).sem := by
  obtain ⟨⟨e, st1⟩, h1, h2⟩ := sem_bind_some (sem_of_path h hc)
  have := sem_leaf h2
  simp only [Prod.mk.injEq] at this
  obtain ⟨rfl, rfl⟩ := this
  exact iter_next h1

theorem iter_end {f : St → T (Ex × St)} {l : Lp} {m : Nat} {st st2 : St} {e : Ex} {ds cs : List Bool} (h : ((f st).bind fun r => T.leaf (r.1, cutS l.ke l.ne r.2)).path ds = some (cs, (e, st2))) (hc : cs = ds) (he : e ≠ .nm) :
    (iterT f l (m + 1) st).sem = some (e, st2) := by
  obtain ⟨⟨e', st1⟩, h1, h2⟩ := sem_bind_some (sem_of_path h hc)
  have := sem_leaf h2
  simp only [Prod.mk.injEq] at this
  obtain ⟨rfl, rfl⟩ := this
  exact iter_stop he h1

theorem told {τ : List Ty} {call : FuncId → List V → List Blk → T (V × List Blk)} {G : Nat → V} {fn : Func} {vs : List V} {L L' : Nat → (St → T (Ex × St)) → St → T (Ex × St)}
    (h : ∀ id f f' st, (∀ st, (f st).sem = (f' st).sem) → (L id f st).sem = (L' id f' st).sem) : (finF (evalF τ ⟨call, L, G⟩ fn vs [])).sem = (finF (evalF τ ⟨call, L', G⟩ fn vs [])).sem := by
  refine sem_bind_congr ?_ fun _ => rfl
  unfold evalF
  cases fn.body with
  | none => rfl
  | some c => exact sem_bind_congr (evalC_congr (Γ := ⟨call, L, G⟩) h c 0 _) fun _ => rfl

theorem iterT_congr {f f' : St → T (Ex × St)} (h : ∀ st, (f st).sem = (f' st).sem) (l : Lp) : ∀ (m : Nat) (st : St), (iterT f l m st).sem = (iterT f' l m st).sem
  | 0, _ => rfl
  | m + 1, st => by
    refine sem_bind_congr (h st) fun r => ?_
    cases r.1 with
    | nm => exact iterT_congr h l m _
    | ex i => rfl
    | rt => rfl

/-- Values of the plainest kinds, read off. -/
def gI : V → Option Int
  | .val (.int .i64 n) => some n
  | _ => none
def gB : V → Option Bool
  | .val (.bool b) => some b
  | _ => none
def gS : V → Option (List UInt8)
  | .str l => some l
  | _ => none

theorem gI_some {v : V} {n : Int} (h : gI v = some n) : v = iV n := by
  unfold gI at h
  split at h
  · simp at h; subst h; rfl
  · cases h
theorem gB_some {v : V} {b : Bool} (h : gB v = some b) : v = bV b := by
  unfold gB at h
  split at h
  · simp at h; subst h; rfl
  · cases h
theorem gS_some {v : V} {l : List UInt8} (h : gS v = some l) : v = .str l := by
  unfold gS at h
  split at h
  · simp at h; subst h; rfl
  · cases h

/-- A fact on each number below another, out of one closed fact. -/
theorem all_below {α : Type} {f g : Nat → α} {n : Nat} (h : (List.range n).map f = (List.range n).map g) (k : Nat) (hk : k < n) : f k = g k := by
  have := congrArg (·[k]?) h
  simpa [hk] using this

/-! ### Arguments read -/

section
variable {H : Type} {enc : TypeId × Value → H} {P : Program} {W : World} {sp : Nat → Bool} {held : Bool} {r : Reach} {b0 : Nat} {t e : TypeId} {v : Value} {d : DataW H} {ps : List MemPlace}

/-- A struct or an array whose cells are told by something. -/
theorem read_agg {α : Type} {f : α → List Value} {fs : Array Field} (ht : P.underlying t = some (.struct fs))
    (hel : ∀ fuel cs x, DataW.trod enc P W 0 sp held fuel t cs = some x → ∃ a : α, cs = f a) (hval : Value.okWide P W r b0 t v) (hd : DataW.Trod enc P W 0 sp held t v d ps) : ∃ a : α, v = .agg (f a).toArray := by
  obtain ⟨cs, rfl, _⟩ := WideShapes.okWide_struct ht hval
  obtain ⟨fuel, hf⟩ := hd
  obtain ⟨a, ha⟩ := hel fuel _ _ hf
  simp only [Value.cells] at ha
  exact ⟨a, by rw [← ha]⟩

/-- A slice that came in, whose elements are told by something. -/
theorem read_slice {α : Type} [Inhabited α] {f : α → List Value} {g : α → V} {s : Nat} (ht : P.underlying t = some (.slice e)) (hs : P.cellsOf e = s) (hs0 : 0 < s) (hone : ∀ a, ∀ u ∈ f a, u.oneCell' = true)
    (hg : ∀ (S : Nat → Prop) (w : World) a, ∃ ci, VR S w (g a) noK ci ∧ ci.cells.toList = f a)
    (hel : ∀ fuel cs x, DataW.trod enc P W 0 sp held fuel e cs = some x → ∃ a : α, cs = f a) (hval : Value.okWide P W r b0 t v) (hd : DataW.Trod enc P W 0 sp held t v d ps) :
    ∃ (n : Nat) (xs : Nat → α), VR (Live W) W (.sl s n fun i => g (xs i)) noK v ∧ (n = 0 ∨ ∃ els rest, d = .slice els rest ∧ els.length = n) := by
  obtain ⟨a, len, cap, rfl⟩ := WideShapes.okWide_slice ht hval
  obtain ⟨fuel, hf⟩ := hd
  rcases DataW.trod_slice ht hf with ⟨hcs, _⟩ | ⟨a', len', cap', elems, rest, n, _, hcs, hx, _, hl, _, hlen, hE, _, _⟩
  · simp [Value.cells] at hcs
    obtain ⟨rfl, rfl, rfl⟩ := hcs
    exact ⟨0, fun _ => default, ⟨none, 0, rfl, Nat.le_refl _, .inl rfl⟩, .inl rfl⟩
  · simp [Value.cells] at hcs
    obtain ⟨rfl, rfl, rfl⟩ := hcs
    simp only [Prod.mk.injEq] at hx
    have hex : ∀ i, i < len → ∃ x : α, W.cells? 0 (a'.add (i * s)) s = some (f x) := by
      intro i hi
      have := hE i hi
      have hi' : i < elems.length := by omega
      rw [List.getElem?_eq_getElem hi', Option.bind_eq_some_iff, hs] at this
      obtain ⟨cs, h1, h2⟩ := this
      obtain ⟨x, rfl⟩ := hel _ _ _ h2
      exact ⟨x, h1⟩
    refine ⟨len, fun i => if h : i < len then (hex i h).choose else default, ⟨some a', cap, rfl, hl, ?_⟩, .inr ⟨_, _, hx.1, by simp [hlen]⟩⟩
    by_cases hz : len = 0
    · exact .inl hz
    right
    obtain ⟨b, off, spot⟩ := a'
    have hspot : spot = none := by
      have := (World.cells?_some (hex 0 (by omega)).choose_spec)
      have h2 := this.2.2 0 (by omega)
      have hl : 0 < (f (hex 0 (by omega)).choose).length := by omega
      rw [List.getElem?_eq_getElem hl] at h2
      simpa [Addr.add] using World.cell?_spot h2
    subst hspot
    refine ⟨b, off, rfl, fun i hi => ?_⟩
    have hc := World.cells?_some (hex i hi).choose_spec
    obtain ⟨ci, q1, q2⟩ := hg (Live W) W (hex i hi).choose
    refine ⟨ci, by simp only [hi, dif_pos]; exact q1, ?_, ?_, ?_⟩
    · rw [← Array.length_toList, q2]; exact hc.2.1
    · rw [q2]; exact hone _
    · rw [q2]
      intro j u hj
      have hjs : j < s := by
        have := (List.getElem?_eq_some_iff.1 hj).1
        have h3 := hc.2.1
        omega
      have := hc.2.2 j hjs
      rw [hj] at this
      have e1 : ((⟨b, off, none⟩ : Addr).add (i * s)).add j = ⟨b, off + i * s + j, none⟩ := by
        rw [addr_add, addr_add]
      rw [e1] at this
      exact ⟨cell_lt this, this⟩

end

/-! ### A table of texts -/

theorem texts_cells {H : Type} {enc : TypeId × Value → H} {P : Program} {w : World} {base : Nat} {sp : Nat → Bool} {held : Bool} {fuel : Nat} {t e : TypeId} {n : Nat} {cs : List Value} {zs : List (List UInt8)} {p : List MemPlace}
    (ht : P.underlying t = some (.array n e)) (he : P.underlying e = some .string) (hce : P.cellsOf e = 1) (hct : P.cellsOf t = n)
    (h : DataW.trod enc P w base sp held fuel t cs = some (.agg (zs.map fun z => .lit (.string z)), p)) : cs = zs.map fun z => Value.string ⟨z.toArray⟩ := by
  cases fuel with
  | zero => simp [DataW.trod] at h
  | succ fuel =>
    simp only [DataW.trod, ht, hce, hct, Nat.mul_one] at h
    split at h
    · rename_i hl
      obtain ⟨xs, hm, hx⟩ := Option.map_eq_some_iff.1 h
      have hxs : xs.map (·.1) = zs.map fun z => (DataW.lit (.string z) : DataW H) := by
        have := congrArg Prod.fst hx
        simpa using this
      have hxl : xs.length = n := by simpa using Lib.mapM_length hm
      have hzl : zs.length = n := by
        have := congrArg List.length hxs
        simp at this
        omega
      apply List.ext_getElem?
      intro i
      by_cases hi : i < n
      · obtain ⟨b, hb, hf⟩ := Lib.mapM_at hm i i (by simp [hi])
        obtain ⟨z, hc, rfl, _⟩ := DataW.trod_string he hf
        have h1 : cs[i]? = some (.string z) := by
          have := congrArg (·[0]?) hc
          simpa [List.getElem?_take, List.getElem?_drop] using this
        have h2 : (xs.map (·.1))[i]? = some (DataW.lit (.string z.data.toList) : DataW H) := by simp [hb]
        rw [hxs] at h2
        simp only [List.getElem?_map, Option.map_eq_some_iff, DataW.lit.injEq, Lit.string.injEq] at h2
        obtain ⟨z', hz', rfl⟩ := h2
        simp [h1, hz']
      · rw [List.getElem?_eq_none (by omega), List.getElem?_eq_none (by simp; omega)]
    · cases h

/-- A package-level table of texts, as the evaluator knows it. -/
def textsV (zs : List (List UInt8)) : V := .pp (.agg (zs.map V.str))

theorem VRs_texts {S : Nat → Prop} {w : World} {κ : Nat → Option Value} : ∀ zs : List (List UInt8), VRs S w (zs.map V.str) κ (zs.map fun z => Value.string ⟨z.toArray⟩)
  | [] => rfl
  | z :: zs => ⟨.string ⟨z.toArray⟩, zs.map fun z => Value.string ⟨z.toArray⟩, rfl, rfl, VRs_texts zs⟩

theorem texts_ok {P : Program} {W : World} {name : String} {zs : List (List UInt8)} {g : Nat} {t e : TypeId} {n : Nat} {ps : List MemPlace} {rest : List (String × DataW Unit)}
    (hg : P.globalNamed name = some g) (hty : (P.globals[g]?).map (·.type) = some t) (ht : P.underlying t = some (.array n e)) (he : P.underlying e = some .string) (hce : P.cellsOf e = 1) (hct : P.cellsOf t = n)
    (h : DataW.LaidVars P W ((name, .agg (zs.map fun z => .lit (.string z))) :: rest) ps) :
    VR (Live W) W (textsV zs) noK (.pointer (some ⟨g, 0, none⟩)) ∧ ∃ qs, DataW.LaidVars P W rest qs := by
  obtain ⟨g', t', cs, fuel, p, q, hg', ht', hvar, hd, hr, _⟩ := h
  obtain rfl := Option.some.inj (hg.symm.trans hg')
  obtain rfl := Option.some.inj (hty.symm.trans ht')
  have hcs := texts_cells ht he hce hct hd
  refine ⟨⟨g, 0, .agg (zs.map fun z => Value.string ⟨z.toArray⟩).toArray, rfl, ⟨_, rfl, VRs_texts zs⟩, fun j u hj => ?_⟩, q, hr⟩
  have hj : (zs.map fun z => Value.string ⟨z.toArray⟩)[j]? = some u := by
    simpa only [Value.cells] using hj
  have h1 := World.var?_cell hg hvar j
  have h2 : cs[j]? = some u := by
    rw [← Array.getElem?_toList, hcs]
    exact hj
  rw [h2] at h1
  rw [Nat.zero_add]
  exact ⟨cell_lt h1, h1⟩

end Go.Sy

