/-
  Layer 3, the functions of one edge: what they answer. No conditions.
-/
import Derived.Test.YtcaljjnadbpacaaDoorEdG
namespace Go.Proofs.YtcaljjnadbpacaaDoor.Ed
open Go.Sy

/-! ### Edges -/

structure E6 where
  kind : Int
  ext : Bool
  same : Bool
  src : Int
  dst : Int
  fence : Int
  deriving DecidableEq

def eV (e : E6) : V := .agg [iV e.kind, bV e.ext, bV e.same, iV e.src, iV e.dst, iV e.fence]

def toE : V → Option E6
  | .agg [a, b, c, d, e, f] => match gI a, gB b, gB c, gI d, gI e, gI f with
    | some a, some b, some c, some d, some e, some f => some ⟨a, b, c, d, e, f⟩
    | _, _, _, _, _, _ => none
  | _ => none

theorem toE_some {v : V} {e : E6} (h : toE v = some e) : v = eV e := by
  unfold toE at h
  split at h
  · split at h
    · rename_i h1 h2 h3 h4 h5 h6
      simp only [Option.some.injEq] at h
      subst h
      rw [gI_some h1, gB_some h2, gB_some h3, gI_some h4, gI_some h5, gI_some h6]
      rfl
    · cases h
  · cases h

/-- '==' on edges, as the evaluator writes it. -/
def eqE (a b : E6) : Bool := band (ieq a.kind b.kind) (band (beqB a.ext b.ext) (band (beqB a.same b.same) (band (ieq a.src b.src) (band (ieq a.dst b.dst) (band (ieq a.fence b.fence) true)))))

theorem eqE_iff (a b : E6) : eqE a b = true ↔ a = b := by
  cases a; cases b
  simp [eqE, band, ieq, beqB]

theorem eqE_comm (a b : E6) : eqE a b = eqE b a := by
  rw [Bool.eq_iff_iff, eqE_iff, eqE_iff]
  exact eq_comm

theorem eqE_self (a : E6) : eqE a a = true := (eqE_iff a a).2 rfl

/-- The edge of a number below 112. -/
def madeE (c : Nat) : E6 :=
  if c < 6 then ⟨c / 2 + 1, c % 2 == 0, false, if c / 2 == 1 then 1 else 2, if c / 2 == 0 then 1 else 2, 0⟩
  else if c < 102 then ⟨if (c - 6) / 8 == 0 then 4 else 5, false, decide (4 ≤ (c - 6) % 8), 1 + ((c - 6) % 4 / 2 : Nat), 1 + ((c - 6) % 2 : Nat), ((c - 6) / 8 : Nat)⟩
  else if c < 106 then ⟨6, false, decide (2 ≤ c - 102), 1, 1 + ((c - 102) % 2 : Nat), 0⟩
  else if c < 108 then ⟨7, false, c - 102 == 5, 1, 2, 0⟩
  else ⟨8, false, decide (8 ≤ c - 102), 1, 1 + ((c - 102) % 2 : Nat), 0⟩

def zeroE : E6 := ⟨0, false, false, 0, 0, 0⟩

def inR (n : Int) : Bool := decide (0 ≤ n) && decide (n < 112)

theorem inR_some {n : Int} (h : inR n = true) : ∃ k : Nat, n = (k : Int) ∧ k < 112 := by
  simp [inR] at h
  exact ⟨n.toNat, by omega, by omega⟩

theorem inR_none {n : Int} (h : inR n = false) : n < 0 ∨ 0 ≤ n ∧ 112 ≤ n := by
  simp [inR] at h
  omega

/-! ### Functions of one code -/

def cx0 : Cx := cxOf Gl [] []
noncomputable def Fmade : List V → T (V × List Blk) := fun vs => finF (evalF tab cx0 Tryd.f71 vs [])
theorem p71a : PureC Tryd.prog Gl 71 Fmade := pureC_body tabOK mixed Tryd.func71 (by kernel_rfl) (by kernel_rfl) (cx_ok AllPure.nil _)
noncomputable def Fnamed : List V → T (V × List Blk) := fun vs => finF (evalF tab cx0 Tryd.f70 vs [])
theorem p70a : PureC Tryd.prog Gl 70 Fnamed := pureC_body tabOK mixed Tryd.func70 (by kernel_rfl) (by kernel_rfl) (cx_ok AllPure.nil _)
noncomputable def Fcomm : List V → T (V × List Blk) := fun vs => finF (evalF tab cx0 Tryd.f74 vs [])
theorem p74 : PureC Tryd.prog Gl 74 Fcomm := pureC_body tabOK mixed Tryd.func74 (by kernel_rfl) (by kernel_rfl) (cx_ok AllPure.nil _)
noncomputable def Feight : List V → T (V × List Blk) := fun vs => finF (evalF tab cx0 Tryd.f75 vs [])
theorem p75 : PureC Tryd.prog Gl 75 Feight := pureC_body tabOK mixed Tryd.func75 (by kernel_rfl) (by kernel_rfl) (cx_ok AllPure.nil _)
noncomputable def Fdep : List V → T (V × List Blk) := fun vs => finF (evalF tab cx0 Tryd.f76 vs [])
theorem p76 : PureC Tryd.prog Gl 76 Fdep := pureC_body tabOK mixed Tryd.func76 (by kernel_rfl) (by kernel_rfl) (cx_ok AllPure.nil _)

noncomputable def tb0 : List (Nat × (List V → T (V × List Blk))) := [(74, Fcomm), (75, Feight), (76, Fdep)]
theorem tb0_ok : AllPure Tryd.prog Gl tb0 := .cons p74 <| .cons p75 <| .cons p76 .nil
noncomputable def cx0r : Cx := cxOf Gl tb0 []

/-- The name of a number below 112. -/
def nameS (c : Nat) : List UInt8 :=
  if c < 6 then commsL.getD c []
  else if 102 ≤ c then depsL.getD (c - 102) []
  else (if (c - 6) / 8 = 0 then [80, 111] else if (c - 6) / 8 = 1 then [77, 70, 101, 110, 99, 101] else if (c - 6) / 8 = 2 then [70, 101, 110, 99, 101, 46, 116, 115, 111]
    else [70, 101, 110, 99, 101, 46] ++ setsL.getD ((c - 6) / 8 - 3) []) ++ ((if 4 ≤ (c - 6) % 8 then [115] else [100]) ++ endsL.getD ((c - 6) % 4) [])

end Go.Proofs.YtcaljjnadbpacaaDoor.Ed
