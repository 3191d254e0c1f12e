/-
  Layer 4: functions by their bodies; what must come, whatever the arguments are. Conditions: the listed variables read as listed.
-/
import Derived.Test.YtcaljjnadbpacaaDoorEdE
namespace Go.Proofs.YtcaljjnadbpacaaDoor.Ed
open Go.Sy

def loopsC (n : Nat) : List (Nat × Lp) := [(0, ⟨[], 1000, [], 1000, n⟩), (1, ⟨[], 1000, [], 1000, n⟩), (2, ⟨[], 1000, [], 1000, n⟩), (3, ⟨[], 1000, [], 1000, n⟩), (4, ⟨[], 1000, [], 1000, n⟩), (5, ⟨[], 1000, [], 1000, n⟩), (6, ⟨[], 1000, [], 1000, n⟩)]

noncomputable def cy0 : List (Nat × (List V → T (V × List Blk))) := [(21, textT parseP), (32, ap2 gI toE fun a e => out (legP a e)), (28, edgeT fun e => iV (codeF e))]
theorem cy0_ok : AllPure Tryd.prog Gl cy0 := .cons p21 <| .cons p32 <| .cons p28 .nil

noncomputable def B83 : List V → T (V × List Blk) := fun vs => finF (evalF tab (cxOf Gl cy0 (loopsC 30)) Tryd.f83 vs [])
theorem b83 : PureC Tryd.prog Gl 83 B83 := pureC_body tabOK mixed Tryd.func83 (by kernel_rfl) (by kernel_rfl) (cx_ok cy0_ok _)
noncomputable def cy83 : List (Nat × (List V → T (V × List Blk))) := (83, B83) :: cy0
theorem cy83_ok : AllPure Tryd.prog Gl cy83 := .cons b83 cy0_ok
noncomputable def B108 : List V → T (V × List Blk) := fun vs => finF (evalF tab (cxOf Gl cy83 (loopsC 30)) Tryd.f108 vs [])
theorem b108 : PureC Tryd.prog Gl 108 B108 := pureC_body tabOK mixed Tryd.func108 (by kernel_rfl) (by kernel_rfl) (cx_ok cy83_ok _)
noncomputable def cy108 : List (Nat × (List V → T (V × List Blk))) := (108, B108) :: cy83
theorem cy108_ok : AllPure Tryd.prog Gl cy108 := .cons b108 cy83_ok
noncomputable def B88 : List V → T (V × List Blk) := fun vs => finF (evalF tab (cxOf Gl cy108 (loopsC 30)) Tryd.f88 vs [])
theorem b88 : PureC Tryd.prog Gl 88 B88 := pureC_body tabOK mixed Tryd.func88 (by kernel_rfl) (by kernel_rfl) (cx_ok cy108_ok _)
noncomputable def cy88 : List (Nat × (List V → T (V × List Blk))) := (88, B88) :: cy108
theorem cy88_ok : AllPure Tryd.prog Gl cy88 := .cons b88 cy108_ok
noncomputable def B89 : List V → T (V × List Blk) := fun vs => finF (evalF tab (cxOf Gl cy88 (loopsC 30)) Tryd.f89 vs [])
theorem b89 : PureC Tryd.prog Gl 89 B89 := pureC_body tabOK mixed Tryd.func89 (by kernel_rfl) (by kernel_rfl) (cx_ok cy88_ok _)
noncomputable def cy89 : List (Nat × (List V → T (V × List Blk))) := (89, B89) :: cy88
theorem cy89_ok : AllPure Tryd.prog Gl cy89 := .cons b89 cy88_ok
noncomputable def B90 : List V → T (V × List Blk) := fun vs => finF (evalF tab (cxOf Gl cy89 (loopsC 30)) Tryd.f90 vs [])
theorem b90 : PureC Tryd.prog Gl 90 B90 := pureC_body tabOK mixed Tryd.func90 (by kernel_rfl) (by kernel_rfl) (cx_ok cy89_ok _)
noncomputable def cy90 : List (Nat × (List V → T (V × List Blk))) := (90, B90) :: cy89
theorem cy90_ok : AllPure Tryd.prog Gl cy90 := .cons b90 cy89_ok
noncomputable def B93 : List V → T (V × List Blk) := fun vs => finF (evalF tab (cxOf Gl cy90 (loopsC 30)) Tryd.f93 vs [])
theorem b93 : PureC Tryd.prog Gl 93 B93 := pureC_body tabOK mixed Tryd.func93 (by kernel_rfl) (by kernel_rfl) (cx_ok cy90_ok _)
noncomputable def cy93 : List (Nat × (List V → T (V × List Blk))) := (93, B93) :: cy90
theorem cy93_ok : AllPure Tryd.prog Gl cy93 := .cons b93 cy90_ok
noncomputable def B87 : List V → T (V × List Blk) := fun vs => finF (evalF tab (cxOf Gl cy93 (loopsC 30)) Tryd.f87 vs [])
theorem b87 : PureC Tryd.prog Gl 87 B87 := pureC_body tabOK mixed Tryd.func87 (by kernel_rfl) (by kernel_rfl) (cx_ok cy93_ok _)
noncomputable def cy87 : List (Nat × (List V → T (V × List Blk))) := (87, B87) :: cy93
theorem cy87_ok : AllPure Tryd.prog Gl cy87 := .cons b87 cy93_ok
noncomputable def B92 : List V → T (V × List Blk) := fun vs => finF (evalF tab (cxOf Gl cy87 (loopsC 30)) Tryd.f92 vs [])
theorem b92 : PureC Tryd.prog Gl 92 B92 := pureC_body tabOK mixed Tryd.func92 (by kernel_rfl) (by kernel_rfl) (cx_ok cy87_ok _)
noncomputable def cy92 : List (Nat × (List V → T (V × List Blk))) := (92, B92) :: cy87
theorem cy92_ok : AllPure Tryd.prog Gl cy92 := .cons b92 cy87_ok
noncomputable def B91 : List V → T (V × List Blk) := fun vs => finF (evalF tab (cxOf Gl cy92 (loopsC 30)) Tryd.f91 vs [])
theorem b91 : PureC Tryd.prog Gl 91 B91 := pureC_body tabOK mixed Tryd.func91 (by kernel_rfl) (by kernel_rfl) (cx_ok cy92_ok _)
noncomputable def cy91 : List (Nat × (List V → T (V × List Blk))) := (91, B91) :: cy92
theorem cy91_ok : AllPure Tryd.prog Gl cy91 := .cons b91 cy92_ok
noncomputable def B86 : List V → T (V × List Blk) := fun vs => finF (evalF tab (cxOf Gl cy91 (loopsC 30)) Tryd.f86 vs [])
theorem b86 : PureC Tryd.prog Gl 86 B86 := pureC_body tabOK mixed Tryd.func86 (by kernel_rfl) (by kernel_rfl) (cx_ok cy91_ok _)
noncomputable def cy86 : List (Nat × (List V → T (V × List Blk))) := (86, B86) :: cy91
theorem cy86_ok : AllPure Tryd.prog Gl cy86 := .cons b86 cy91_ok
noncomputable def B48 : List V → T (V × List Blk) := fun vs => finF (evalF tab (cxOf Gl cy86 (loopsC 30)) Tryd.f48 vs [])
theorem b48 : PureC Tryd.prog Gl 48 B48 := pureC_body tabOK mixed Tryd.func48 (by kernel_rfl) (by kernel_rfl) (cx_ok cy86_ok _)
noncomputable def cy48 : List (Nat × (List V → T (V × List Blk))) := (48, B48) :: cy86
theorem cy48_ok : AllPure Tryd.prog Gl cy48 := .cons b48 cy86_ok
noncomputable def B40 : List V → T (V × List Blk) := fun vs => finF (evalF tab (cxOf Gl cy48 (loopsC 30)) Tryd.f40 vs [])
theorem b40 : PureC Tryd.prog Gl 40 B40 := pureC_body tabOK mixed Tryd.func40 (by kernel_rfl) (by kernel_rfl) (cx_ok cy48_ok _)
noncomputable def cy40 : List (Nat × (List V → T (V × List Blk))) := (40, B40) :: cy48
theorem cy40_ok : AllPure Tryd.prog Gl cy40 := .cons b40 cy48_ok

theorem awake46 : (finF (evalF tab (cxOf Gl cy40 (loopsC 30)) Tryd.f46 [] [])).sem = some (bV true, []) := by kernel_rfl

theorem p46 : PureC Tryd.prog Gl 46 (unitT (bV true)) := by
  refine PureC.congr (pureC_body tabOK mixed Tryd.func46 (by kernel_rfl) (by kernel_rfl) (Γ := cxOf Gl cy40 (loopsC 30)) (cx_ok cy40_ok _)) fun vs r h => ?_
  unfold unitT at h
  split at h
  · rw [sem_leaf h]; exact awake46
  · cases h

end Go.Proofs.YtcaljjnadbpacaaDoor.Ed
