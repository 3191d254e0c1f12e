/-
  Layer 3's edges, as values. No conditions.
-/
import Derived.Test.YtdmjcpindopjdaaCoA
namespace Go.Proofs.Ytdmjcpindopjdaa.Co
open Go.Sy

structure E6 where
  kind : Int
  ext : Bool
  same : Bool
  src : Int
  dst : Int
  fence : Int
  deriving DecidableEq

def eV (e : E6) : V := .agg [iV e.kind, bV e.ext, bV e.same, iV e.src, iV e.dst, iV e.fence]

def toE : V → Option E6
  | .agg [a, b, c, d, e, f] => match gI a, gB b, gB c, gI d, gI e, gI f with
    | some a, some b, some c, some d, some e, some f => some ⟨a, b, c, d, e, f⟩
    | _, _, _, _, _, _ => none
  | _ => none

theorem toE_some {v : V} {e : E6} (h : toE v = some e) : v = eV e := by
  unfold toE at h
  split at h
  · split at h
    · rename_i h1 h2 h3 h4 h5 h6
      simp only [Option.some.injEq] at h
      subst h
      rw [gI_some h1, gB_some h2, gB_some h3, gI_some h4, gI_some h5, gI_some h6]
      rfl
    · cases h
  · cases h

/-- '==' on edges, as the evaluator writes it. -/
def eqE (a b : E6) : Bool := band (ieq a.kind b.kind) (band (beqB a.ext b.ext) (band (beqB a.same b.same) (band (ieq a.src b.src) (band (ieq a.dst b.dst) (band (ieq a.fence b.fence) true)))))

theorem eqE_iff (a b : E6) : eqE a b = true ↔ a = b := by
  cases a; cases b
  simp [eqE, band, ieq, beqB]

theorem eqE_comm (a b : E6) : eqE a b = eqE b a := by
  rw [Bool.eq_iff_iff, eqE_iff, eqE_iff]
  exact eq_comm

theorem eqE_self (a : E6) : eqE a a = true := (eqE_iff a a).2 rfl

def zeroE : E6 := ⟨0, false, false, 0, 0, 0⟩

end Go.Proofs.Ytdmjcpindopjdaa.Co
