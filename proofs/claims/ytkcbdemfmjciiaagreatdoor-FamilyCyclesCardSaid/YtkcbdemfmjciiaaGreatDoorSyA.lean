/-
  A symbolic big-step evaluator for the model's code, with no program in sight: values, decision trees, states, the evaluator. Its soundness is proved in the texts behind this one. No conditions.
-/
import Derived.Calls
import Derived.Laws.Entries
namespace Go.Sy

/-! ### The leaves: what stays written where it is symbolic -/

/-- A choice that stays written where its test is symbolic. -/
def sel {α : Type} (b : Bool) (x y : α) : α := bif b then x else y
def wr (k : IntKind) (x : Int) : Int := k.wrap x
def iadd (a b : Int) : Int := a + b
def isub (a b : Int) : Int := a - b
def imul (a b : Int) : Int := a * b
def itdiv (a b : Int) : Int := a.tdiv b
def itmod (a b : Int) : Int := a.tmod b
def ishl (k : IntKind) (a b : Int) : Int := a * 2 ^ (min b.toNat k.bits)
def ishr (k : IntKind) (a b : Int) : Int := a.fdiv (2 ^ (min b.toNat k.bits))
def ibits (op : BinOp) (k : IntKind) (a b : Int) : Int := Go.bits op k a b
def ieq (a b : Int) : Bool := a == b
def ilt (a b : Int) : Bool := decide (a < b)
def ile (a b : Int) : Bool := decide (a ≤ b)
def toN (a : Int) : Nat := a.toNat
def band (a b : Bool) : Bool := a && b
def bor (a b : Bool) : Bool := a || b
def bnot (a : Bool) : Bool := !a
def beqB (a b : Bool) : Bool := a == b
def seq (a b : List UInt8) : Bool := a == b
def slt (a b : List UInt8) : Bool := Op.bytesLess a b
def sapp (a b : List UInt8) : List UInt8 := a ++ b
def sdrop (n : Nat) (l : List UInt8) : List UInt8 := l.drop n
def stake (n : Nat) (l : List UInt8) : List UInt8 := l.take n
def slen (l : List UInt8) : Nat := l.length
def sget (l : List UInt8) (n : Nat) : Int := ((l.getD n 0).toNat : Int)
def strOK (a b : List UInt8) : Bool := decide (a.length + b.length ≤ 9223372036854775807)
def nlt (a b : Nat) : Bool := decide (a < b)
def nbeq (a b : Nat) : Bool := Nat.beq a b
def nblt (a b : Nat) : Bool := Nat.blt a b
def nadd (a b : Nat) : Nat := a + b
def nsub (a b : Nat) : Nat := a - b
/-- May a slice of n elements take m more? -/
def apOK (n m bytes : Nat) : Bool := decide ((n + m) * bytes ≤ 140737488355328)
/-- Does a number fit an int? -/
def fitI (x : Int) : Bool := decide (-9223372036854775808 ≤ x) && decide (x ≤ 9223372036854775807)
/-- May a slice be made? -/
def mkOK (bytes : Nat) (l c : Int) : Bool := decide (0 ≤ l) && (decide (l ≤ c) && (decide ((bytes : Int) * c ≤ 281474976710656) && decide (c ≤ 9223372036854775807)))

/-- Decision trees: what comes out, by tests that may be symbolic. -/
inductive T (α : Type) where
  | leaf (a : α)
  | br (b : Bool) (x y : T α)
  | fail

def T.bind {α β : Type} (t : T α) (f : α → T β) : T β :=
  match t with
  | .leaf a => f a
  | .br b x y => .br b (x.bind f) (y.bind f)
  | .fail => .fail

def T.sem {α : Type} : T α → Option α
  | .leaf a => some a
  | .br b x y => sel b x.sem y.sem
  | .fail => none

def T.ofOpt {α : Type} : Option α → T α
  | some a => .leaf a
  | none => .fail

/-- Symbolic values. 'val': a value without addresses. 'str': a string by its bytes. 'agg': a struct or an array by its cells. 'sl': a slice of memory that nobody writes: the cells of an element, its length, its elements. 'slr': such a slice that has room: its elements are known up to m. 'pp': a pointer to such memory, which holds this. 'nilS': the nil slice. 'ptr': a pointer into an own block of cells. 'ref': the slice that is the whole of an own row. 'ept': a pointer to a cell of an element of an own row. 'und': not known. -/
inductive V where
  | val (v : Value)
  | str (l : List UInt8)
  | agg (cs : List V)
  | tup (vs : List V)
  | fn (f : FuncId) (caps : List V)
  | nilS
  | sl (size n : Nat) (get : Nat → V)
  | slr (size n m : Nat) (get : Nat → V)
  | pp (v : V)
  | ptr (id off : Nat)
  | ref (id : Nat)
  | ept (id size i off : Nat)
  | und

instance : Inhabited V := ⟨.und⟩

/-- Blocks of the call's own: cells of a variable; a row of elements (of type e, 'size' cells each) that a slice is over; a map of numbers by numbers; a block that is no longer used. 'xrow': a row that a caller lends: 'true': it is appended to and nothing else, 'false': it is written and nothing else. -/
inductive Blk where
  | cells (cs : List V)
  | row (e : TypeId) (size n : Nat) (get : Nat → V)
  | imap (t : TypeId) (n : Nat) (get : Int → Int)
  | xrow (lk : Bool) (e : TypeId) (size n : Nat) (get : Nat → V)
  | dead

structure St where
  t : List V
  h : List Blk

inductive Ex where
  | nm
  | ex (id : Nat)
  | rt

def undefV : V := .val (.tuple #[])
def iV (n : Int) : V := .val (.int .i64 n)
def bV (b : Bool) : V := .val (.bool b)

/-- A cell's value, of a constant or a zero value. -/
def leafV : Value → V
  | .string s => .str s.data.toList
  | .slice none 0 0 => .nilS
  | .agg _ => .und
  | .tuple _ => .und
  | v => .val v

def ofValue : Value → V
  | .agg cs => .agg (cs.toList.map leafV)
  | v => leafV v

/-- Is a value one cell? -/
def solid : V → Bool
  | .agg _ | .val (.agg _) | .val (.tuple _) | .tup _ | .und => false
  | _ => true

def solids : List V → Bool
  | [] => true
  | v :: l => match solid v with
    | true => solids l
    | false => false

/-- What a value takes in memory; none: it is not to be stored. -/
def V.cells : V → Option (List V)
  | .agg cs => match solids cs with
    | true => some cs
    | false => none
  | .val (.agg _) | .val (.tuple _) | .tup _ | .und => none
  | v => some [v]

/-- What the evaluator asks of a type. -/
inductive K where
  | bool
  | int (k : IntKind)
  | str
  | sl (e : Nat)
  | arr (n e : Nat)
  | st (fs : List (Nat × Nat))
  | imap (e : Nat)
  | other

structure Ty where
  k : K
  size : Nat
  bytes : Nat
  zero : V
  plain : Bool

/-- Of a struct all of whose fields are leaves, one cell each, in order, all named, '==' goes cell by cell. -/
def plainFields (P : Program) : Nat → List Field → Bool
  | _, [] => true
  | k, f :: fs => f.name != "_" && Nat.beq f.offset k &&
    (match P.underlying f.type with | some (.int _) | some .bool | some .string => true | _ => false) && plainFields P (k + 1) fs

/-- Arrays, and arrays of these, of plain leaves. -/
def plainArr (P : Program) : Nat → TypeId → Bool
  | 0, _ => false
  | d + 1, t => match P.underlying t with
    | some (.array _ e) => plainArr P d e
    | some (.int _) | some .bool | some .string => true
    | _ => false

def plainStruct (P : Program) (t : TypeId) : Bool :=
  match P.underlying t with
  | some (.array _ e) => plainArr P 3 e && !P.eqGuardType P.depth t
  | some (.struct fs) => plainFields P 0 fs.toList && !P.stoodInHeld t && !P.eqGuardType P.depth t
  | _ => false

def kOf (P : Program) : TypeDesc → K
  | .bool => .bool
  | .int k => .int k
  | .string => .str
  | .slice e => .sl e
  | .array n e => .arr n e
  | .struct fs => .st (fs.toList.map fun f => (f.offset, f.type))
  | .map k e => match P.underlying k, P.underlying e with
    | some (.int .i64), some (.int .i64) => .imap e
    | _, _ => .other
  | _ => .other

/-- A type's row, off the program. -/
def tyOf (P : Program) (t : TypeId) : Option Ty :=
  match P.info? t, P.underlying t with
  | some i, some d => some { k := kOf P d, size := i.size, bytes := i.bytes, zero := match i.zero with | some z => ofValue z | none => .und, plain := plainStruct P t }
  | _, _ => none

section
variable (τ : List Ty)

def isAggK : K → Bool
  | .st _ | .arr _ _ => true
  | _ => false

def nth (l : List V) (n : Nat) : V :=
  match l, n with
  | [], _ => .und
  | v :: _, 0 => v
  | _ :: l, n + 1 => nth l n

/-- The part of some cells from a place on that a type takes. -/
def partV (t : TypeId) (cs : List V) (off : Nat) : Option V :=
  match τ[t]? with
  | some ty =>
    match isAggK ty.k with
    | true => match Nat.ble (Nat.add off ty.size) cs.length with
      | true => some (.agg ((cs.drop off).take ty.size))
      | false => none
    | false => cs[off]?
  | none => none

/-- What a variable of a type reads as, out of the value that lies there. -/
def partOf (t : TypeId) (v : V) (off : Nat) : Option V :=
  match v.cells with
  | some cs => partV τ t cs off
  | none => none

/-- Cells put over others from a place on. -/
def spliceV (cs : List V) (off : Nat) (new : List V) : List V := cs.take off ++ (new ++ cs.drop (Nat.add off new.length))

/-- Parts laid over cells, one by one. -/
def fillV (place : Nat → Option (Nat × Nat)) (cells : List V) : List (Nat × V) → Option (List V)
  | [] => some cells
  | (i, v) :: rest =>
    match place i, v.cells with
    | some (off, size), some cs =>
      match Nat.beq cs.length size, Nat.ble (Nat.add off size) cells.length with
      | true, true => fillV place (spliceV cells off cs) rest
      | _, _ => none
    | _, _ => none

def placesV (fs : List (Nat × Nat)) : Option (List (Nat × Nat)) :=
  match fs with
  | [] => some []
  | f :: fs => match τ[f.2]?, placesV fs with
    | some ty, some l => some ((f.1, ty.size) :: l)
    | _, _ => none

def buildV (t : TypeId) (parts : List (Nat × V)) : Option V :=
  match τ[t]? with
  | some ty =>
    match ty.zero, ty.k with
    | .agg zero, .st fs =>
      match placesV τ fs with
      | some places => match fillV (fun i => places[i]?) zero parts with
        | some cs => some (.agg cs)
        | none => none
      | none => none
    | .agg zero, .arr _ e =>
      match τ[e]? with
      | some te => match fillV (fun i => some (Nat.mul i te.size, te.size)) zero parts with
        | some cs => some (.agg cs)
        | none => none
      | none => none
    | _, _ => none
  | none => none

/-- Which of a small array's elements an index means, by trying. -/
def pickAt {α : Type} (i : Int) (f : Nat → T α) : Nat → Nat → T α
  | 0, _ => .fail
  | n + 1, k => .br (ieq i (Int.ofNat k)) (f k) (pickAt i f n (Nat.succ k))

def isConstOp : Operand → Bool
  | .const _ => true
  | _ => false

def ikEq : IntKind → IntKind → Bool
  | .i8, .i8 | .i16, .i16 | .i32, .i32 | .i64, .i64 | .u8, .u8 | .u16, .u16 | .u32, .u32 | .u64, .u64 => true
  | _, _ => false

def isZero : Int → Bool
  | .ofNat 0 => true
  | _ => false

/-- A number that is written out: is it at least 0 and below another? -/
def litBelow (i : Int) (n : Nat) : Bool :=
  match i with
  | .ofNat k => Nat.blt k n
  | _ => false

/-- Two leaves of a kind held against one another. -/
def eqLeaf : K → V → V → Option Bool
  | .int _, .val (.int k a), .val (.int k' b) => match ikEq k k' with
    | true => some (ieq a b)
    | false => none
  | .bool, .val (.bool a), .val (.bool b) => some (beqB a b)
  | .str, .str a, .str b => some (seq a b)
  | _, _, _ => none

/-- Fields one by one. -/
def eqCells : List (Nat × Nat) → List V → List V → Option Bool
  | [], [], [] => some true
  | (_, t) :: fs, a :: as, b :: bs =>
    match τ[t]? with
    | some ty => match eqLeaf ty.k a b, eqCells fs as bs with
      | some x, some y => some (band x y)
      | _, _ => none
    | none => none
  | _, _, _ => none

/-- Elements one by one. -/
def eqEls (f : V → V → Option Bool) (e : TypeId) (size : Nat) (as bs : List V) : Nat → Nat → Option Bool
  | 0, _ => some true
  | m + 1, i => match partV τ e as (Nat.mul i size), partV τ e bs (Nat.mul i size) with
    | some u, some v => match f u v, eqEls f e size as bs m (Nat.succ i) with
      | some x, some y => some (band x y)
      | _, _ => none
    | _, _ => none

/-- Values of an array's type, or leaves. -/
def eqV : Nat → TypeId → V → V → Option Bool
  | 0, _, _, _ => none
  | d + 1, t, x, y => match τ[t]? with
    | some ty => match ty.k, x, y with
      | .arr n e, .agg as, .agg bs => match τ[e]? with
        | some te => eqEls τ (eqV d e) e te.size as bs n 0
        | none => none
      | k, x, y => eqLeaf k x y
    | none => none

/-- Arithmetic and comparisons. 'lit': the second operand is written out. -/
def binV (op : BinOp) (t : TypeId) (lit : Bool) : V → V → T V
  | .val (.int k a), .val (.int k' b) =>
    match op with
    | .shl => .br (ile 0 b) (.leaf (.val (.int k (wr k (ishl k a b))))) .fail
    | .shr => .br (ile 0 b) (.leaf (.val (.int k (ishr k a b)))) .fail
    | op =>
      match ikEq k k' with
      | false => .fail
      | true =>
      match op with
      | .add => .leaf (.val (.int k (wr k (iadd a b))))
      | .sub => .leaf (.val (.int k (wr k (isub a b))))
      | .mul => .leaf (.val (.int k (wr k (imul a b))))
      | .quo => match lit with
        | true => match isZero b with
          | true => .fail
          | false => .leaf (.val (.int k (wr k (itdiv a b))))
        | false => .br (ieq b 0) .fail (.leaf (.val (.int k (wr k (itdiv a b)))))
      | .rem => match lit with
        | true => match isZero b with
          | true => .fail
          | false => .leaf (.val (.int k (itmod a b)))
        | false => .br (ieq b 0) .fail (.leaf (.val (.int k (itmod a b))))
      | .and => .leaf (.val (.int k (ibits .and k a b)))
      | .or => .leaf (.val (.int k (ibits .or k a b)))
      | .xor => .leaf (.val (.int k (ibits .xor k a b)))
      | .andNot => .leaf (.val (.int k (ibits .andNot k a b)))
      | .eql => .leaf (bV (ieq a b))
      | .neq => .leaf (bV (bnot (ieq a b)))
      | .lss => .leaf (bV (ilt a b))
      | .leq => .leaf (bV (ile a b))
      | .gtr => .leaf (bV (ilt b a))
      | .geq => .leaf (bV (ile b a))
      | _ => .fail
  | .val (.bool a), .val (.bool b) =>
    match τ[t]? with
    | some ty => match op, ty.k with
      | .eql, .bool => .leaf (bV (beqB a b))
      | .neq, .bool => .leaf (bV (bnot (beqB a b)))
      | _, _ => .fail
    | none => .fail
  | .str a, .str b =>
    match op with
    | .add => .br (strOK a b) (.leaf (.str (sapp a b))) .fail
    | .eql => .leaf (bV (seq a b))
    | .neq => .leaf (bV (bnot (seq a b)))
    | .lss => .leaf (bV (slt a b))
    | .leq => .leaf (bV (bor (slt a b) (seq a b)))
    | .gtr => .leaf (bV (bnot (bor (slt a b) (seq a b))))
    | .geq => .leaf (bV (bnot (slt a b)))
    | _ => .fail
  | .agg a, .agg b =>
    match τ[t]? with
    | some ty => match ty.plain, ty.k with
      | true, .st fs => match op, eqCells τ fs a b with
        | .eql, some x => .leaf (bV x)
        | .neq, some x => .leaf (bV (bnot x))
        | _, _ => .fail
      | true, .arr _ _ => match op, eqV τ 5 t (.agg a) (.agg b) with
        | .eql, some x => .leaf (bV x)
        | .neq, some x => .leaf (bV (bnot x))
        | _, _ => .fail
      | _, _ => .fail
    | none => .fail
  | _, _ => .fail

def unV (op : UnOp) : V → T V
  | .val (.int k a) =>
    match op with
    | .neg => .leaf (.val (.int k (wr k (isub 0 a))))
    | _ => .fail
  | .val (.bool b) =>
    match op with
    | .not => .leaf (bV (bnot b))
    | _ => .fail
  | _ => .fail

def convV (src dst : TypeId) : V → T V
  | .val (.int _ a) =>
    match τ[src]?, τ[dst]? with
    | some _, some ty => match ty.k with
      | .int k => .leaf (.val (.int k (wr k a)))
      | _ => .fail
    | _, _ => .fail
  | .str l =>
    match τ[src]?, τ[dst]? with
    | some _, some ty => match ty.k with
      | .str => .leaf (.str l)
      | _ => .fail
    | _, _ => .fail
  | _ => .fail

end

/-! ### Own memory handed to a callee that only reads it -/

/-- Does a value name no own memory? -/
def free : V → Bool
  | .agg cs => frees cs
  | .tup cs => frees cs
  | .fn _ cs => frees cs
  | .ref _ | .ptr _ _ | .ept _ _ _ _ => false
  | _ => true
  where frees : List V → Bool
  | [] => true
  | v :: vs => match free v with
    | true => frees vs
    | false => false

/-- Own memory, as a callee sees it that only reads it. -/
def lend (h : List Blk) : V → Option V
  | .agg cs => match lends cs with
    | some l => some (.agg l)
    | none => none
  | .tup cs => match lends cs with
    | some l => some (.tup l)
    | none => none
  | .fn f cs => match lends cs with
    | some l => some (.fn f l)
    | none => none
  | .ref id => match h[id]? with
    | some (.row _ s n g) => some (.sl s n g)
    | _ => none
  | .nilS => some (.sl 1 0 fun _ => .und)
  | .ptr id 0 => match h[id]? with
    | some (.cells cs) => match free.frees cs with
      | true => some (.pp (.agg cs))
      | false => none
    | _ => none
  | .ptr _ _ | .ept _ _ _ _ | .und => none
  | v => some v
  where lends : List V → Option (List V)
  | [] => some []
  | v :: vs => match lend h v, lends vs with
    | some a, some b => some (a :: b)
    | _, _ => none

/-- Has a value no part in memory that nobody writes? -/
def bare : V → Bool
  | .agg cs => bares cs
  | .tup cs => bares cs
  | .fn _ cs => bares cs
  | .sl _ _ _ | .slr _ _ _ _ | .pp _ => false
  | _ => true
  where bares : List V → Bool
  | [] => true
  | v :: vs => match bare v with
    | true => bares vs
    | false => false

/-- Have rows no part in memory that nobody writes? -/
def rowsBare : List Blk → Bool
  | [] => true
  | .row _ _ n g :: l => (List.range n).all (fun i => bare (g i)) && rowsBare l
  | _ :: _ => false

/-- A row's slice is handed on: all other names of it are forgotten. -/
def kill (id : Nat) : V → V
  | .agg cs => .agg (kills cs)
  | .tup cs => .tup (kills cs)
  | .fn f cs => .fn f (kills cs)
  | .ref k => match Nat.beq k id with
    | true => .und
    | false => .ref k
  | .ept k s i o => match Nat.beq k id with
    | true => .und
    | false => .ept k s i o
  | v => v
  where kills : List V → List V
  | [] => []
  | v :: vs => kill id v :: kills vs

def killB (id : Nat) : Blk → Blk
  | .cells cs => .cells (kill.kills id cs)
  | b => b

def killBs (id : Nat) : List Blk → List Blk
  | [] => []
  | b :: l => killB id b :: killBs id l

def St.kill (id : Nat) (st : St) : St := ⟨Sy.kill.kills id st.t, killBs id st.h⟩

/-- Own memory of a callee's answer, behind that of the caller. -/
def shift (d : Nat) : V → V
  | .agg cs => .agg (shifts cs)
  | .tup cs => .tup (shifts cs)
  | .fn f cs => .fn f (shifts cs)
  | .ptr id o => .ptr (Nat.add d id) o
  | .ref id => .ref (Nat.add d id)
  | .ept id s i o => .ept (Nat.add d id) s i o
  | v => v
  where shifts : List V → List V
  | [] => []
  | v :: vs => shift d v :: shifts vs

/-- Names of own blocks are all below n. -/
def below (n : Nat) : V → Bool
  | .agg cs => belows cs
  | .tup cs => belows cs
  | .fn _ cs => belows cs
  | .ref id => Nat.blt id n
  | .ptr id _ => Nat.blt id n
  | .ept id _ _ _ => Nat.blt id n
  | _ => true
  where belows : List V → Bool
  | [] => true
  | v :: vs => match below n v with
    | true => belows vs
    | false => false

/-- What names an own block from the n-th on is forgotten. -/
def forgetV (n : Nat) (v : V) : V :=
  match below n v with
  | true => v
  | false => .und

def forgets (n : Nat) : List V → List V
  | [] => []
  | v :: l => forgetV n v :: forgets n l

def forgetB (n : Nat) : Blk → Blk
  | .cells cs => .cells (forgets n cs)
  | b => b

def forgetBs (n : Nat) : List Blk → List Blk
  | [] => []
  | b :: l => forgetB n b :: forgetBs n l

def maskK : List Bool → List V → List V
  | b :: bs, v :: l => (match b with
    | true => v
    | false => .und) :: maskK bs l
  | _, [] => []
  | [], v :: l => v :: l

/-- Slots forgotten, and the blocks from the n-th on. -/
def cutS (ks : List Bool) (n : Nat) (st : St) : St := ⟨forgets n (maskK ks st.t), forgetBs n (st.h.take n)⟩

/-- What is forgotten behind each round of a loop and behind the loop, and how many rounds there are at most. -/
structure Lp where
  ks : List Bool
  n : Nat
  ke : List Bool
  ne : Nat
  fuel : Nat

/-- A loop, round by round. -/
def iterT (f : St → T (Ex × St)) (l : Lp) : Nat → St → T (Ex × St)
  | 0, _ => .fail
  | m + 1, st => (f st).bind fun r => match r.1 with
    | .nm => iterT f l m (cutS l.ks l.n r.2)
    | .ex i => .leaf (.ex i, cutS l.ke l.ne r.2)
    | .rt => .leaf (.rt, cutS l.ke l.ne r.2)

/-- What the evaluator is told of callees and of package-level variables. -/
structure Cx0 where
  call : FuncId → List V → List Blk → T (V × List Blk)
  glob : Nat → V

/-- What the evaluator is told: what callees answer, how loops are gone through, what lies behind a package-level variable's address. -/
structure Cx where
  call : FuncId → List V → List Blk → T (V × List Blk)
  loop : Nat → (St → T (Ex × St)) → St → T (Ex × St)
  glob : Nat → V

def Cx.base (Γ : Cx) : Cx0 := ⟨Γ.call, Γ.glob⟩

def ev (Γ : Cx0) (st : St) : Operand → V
  | .tmp t => nth st.t t
  | .const v => ofValue v
  | .global g => Γ.glob g
  | .func f => .fn f []

def put (st : St) (d : Option Tmp) (v : V) : St :=
  match d with
  | some d => ⟨st.t.set d v, st.h⟩
  | none => st

/-- A choice of two values, as it stands. -/
def cif (b : Bool) (u v : V) : V := bif b then u else v

/-- A choice of two leaves. -/
def leafIf (b : Bool) (u v : V) : V :=
  match u, v with
  | .val (.int k x), .val (.int k' y) => match ikEq k k' with
    | true => .val (.int k (sel b x y))
    | false => cif b (.val (.int k x)) (.val (.int k' y))
  | .val (.bool x), .val (.bool y) => .val (.bool (sel b x y))
  | .str l, .str l' => .str (sel b l l')
  | u, v => cif b u v

def leafIfs (b : Bool) : List V → List V → List V
  | u :: us, v :: vs => leafIf b u v :: leafIfs b us vs
  | _, _ => []

/-- A choice of two values: of aggregates field by field. -/
def vif (b : Bool) (u v : V) : V :=
  match u, v with
  | .agg us, .agg vs => match Nat.beq us.length vs.length with
    | true => .agg (leafIfs b us vs)
    | false => cif b (.agg us) (.agg vs)
  | u, v => cif b u v

def pushGet (n : Nat) (g : Nat → V) (x : V) : Nat → V := fun i => vif (nbeq i n) x (g i)
def appGet (n : Nat) (g g' : Nat → V) : Nat → V := fun i => vif (nblt i n) (g i) (g' (i - n))
/-- The elements of a slice of n with m more. -/
def growGet (n m : Nat) (gx g : Nat → V) : Nat → V :=
  match m with
  | 1 => pushGet n gx (g 0)
  | _ => appGet n gx g
def setGet (g : Nat → V) (k : Nat) (x : V) : Nat → V := fun i => vif (nbeq i k) x (g i)

section
variable (τ : List Ty) (Γ : Cx0)

/-- A new block of the call's own. -/
def newBlk (st : St) (b : Blk) (v : Nat → V) : T (V × St) := .leaf (v st.h.length, ⟨st.t, st.h ++ [b]⟩)

def evs (st : St) : List (Nat × Operand) → List (Nat × V)
  | [] => []
  | (i, x) :: l => (i, ev Γ st x) :: evs st l

def args (st : St) : List Operand → List V
  | [] => []
  | x :: l => ev Γ st x :: args st l

/-- A choice among values by an index; the last one stands for all behind it. -/
def pickV : List V → Nat → V
  | [], _ => .und
  | [v], _ => v
  | v :: l, i => leafIf (nbeq i 0) v (pickV l (nsub i 1))

def isByteV : V → Bool
  | .val (.int .u8 _) => true
  | _ => false

def isStrV : V → Bool
  | .str _ => true
  | _ => false

/-- Are a literal's elements told by choices? -/
def litAll (len : Nat) (els : List V) : Bool :=
  match Nat.blt 1 len with
  | true => match els.all isByteV with
    | true => true
    | false => match Nat.blt 16 len with
      | true => els.all isStrV
      | false => false
  | false => false

/-- The elements of a literal: of several bytes, and of many texts, as choices. -/
def litRow (len : Nat) (els : List V) : Nat → V :=
  match litAll len els with
  | true => fun i => pickV els i
  | false => fun i => nth els i

/-- A choice of two values, of aggregates field by field, of leaves by what they hold. -/
def vifS (b : Bool) (u v : V) : V :=
  match u, v with
  | .agg us, .agg vs => match Nat.beq us.length vs.length with
    | true => .agg (leafIfs b us vs)
    | false => cif b (.agg us) (.agg vs)
  | u, v => leafIf b u v

def pickG : List V → Nat → V
  | [], _ => .und
  | [v], _ => v
  | v :: l, i => vifS (nbeq i 0) v (pickG l (nsub i 1))

/-- The parts of a great table, all of them. -/
def partsN (f : Nat → Option V) : Nat → Nat → Option (List V)
  | 0, _ => some []
  | m + 1, k => match f k, partsN f m (Nat.succ k) with
    | some v, some l => some (v :: l)
    | _, _ => none

/-- Elements of a slice's literal: all of them, in order. -/
def denseV : Nat → List (Nat × V) → Option (List V)
  | _, [] => some []
  | k, (i, v) :: l => match Nat.beq i k, denseV (Nat.succ k) l with
    | true, some vs => some (v :: vs)
    | _, _ => none

/-- Are all elements of one size, and do they name no own memory? -/
def elemsOK (size : Nat) : List V → Bool
  | [] => true
  | v :: l => match v.cells with
    | some cs => match Nat.beq cs.length size, free v with
      | true, true => elemsOK size l
      | _, _ => false
    | none => false

/-- The slice 'x' with m elements more. -/
def growV (ty : Ty) (e : TypeId) (st : St) (x : V) (m : Nat) (g : Nat → V) : T (V × St) :=
  match x with
  | .ref id => match st.h[id]? with
    | some (.row e' s n gx) =>
      match Nat.beq e e', Nat.beq s ty.size with
      | true, true =>
        .br (apOK n m ty.bytes)
          (.leaf (.ref id, ⟨kill.kills id st.t, (killBs id st.h).set id (.row e s (nadd n m) (growGet n m gx g))⟩)) .fail
      | _, _ => .fail
    | some (.xrow true e' s n gx) =>
      match Nat.beq e e', Nat.beq s ty.size with
      | true, true =>
        .br (apOK n m ty.bytes)
          (.leaf (.ref id, ⟨kill.kills id st.t, (killBs id st.h).set id (.xrow true e s (nadd n m) (growGet n m gx g))⟩)) .fail
      | _, _ => .fail
    | _ => .fail
  | _ => .fail

def appendV (st : St) (t : TypeId) (x y : V) : T (V × St) :=
  match τ[t]? with
  | some ts => match ts.k with
    | .sl e =>
      match τ[e]? with
      | some ty =>
        match ty.zero.cells with
        | some zc =>
          match Nat.beq zc.length ty.size, Nat.blt 0 ty.size, Nat.blt 0 ty.bytes with
          | true, true, true =>
            match y with
            | .ref id' => match st.h[id']? with
              | some (.row _ s' m g) => match Nat.beq s' ty.size with
                | true => growV ty e st x m g
                | false => .fail
              | _ => .fail
            | .sl s' m g => match Nat.beq s' ty.size with
              | true => growV ty e st x m g
              | false => .fail
            | _ => .fail
          | _, _, _ => .fail
        | none => .fail
      | none => .fail
    | _ => .fail
  | none => .fail

def byteOf (x : Int) : UInt8 := UInt8.ofNat x.toNat

/-- Conversions, and that of a slice of one byte to a string. -/
def convS (st : St) (src dst : TypeId) (x : V) : T V :=
  match x with
  | .ref id => match τ[src]?, τ[dst]? with
    | some ts, some td => match ts.k, td.k with
      | .sl e, .str => match τ[e]?, st.h[id]? with
        | some te, some (.row _ 1 1 g) => match te.k, g 0 with
          | .int .u8, .val (.int .u8 b) => .leaf (.str [byteOf b])
          | _, _ => .fail
        | _, _ => .fail
      | _, _ => .fail
    | _, _ => .fail
  | x => convV τ src dst x

def loadV (st : St) (t : TypeId) : V → T V
  | .ptr id off => match st.h[id]? with
    | some (.cells cs) => match partV τ t cs off with
      | some v => .leaf (v)
      | none => .fail
    | _ => .fail
  | .pp v => match partOf τ t v 0 with
    | some v => .leaf (v)
    | none => .fail
  | .ept id s i off => match st.h[id]? with
    | some (.row _ s' n g) => match Nat.beq s s', partOf τ t (g i) off with
      | true, some v => .br (nlt i n) (.leaf (v)) .fail
      | _, _ => .fail
    | _ => .fail
  | _ => .fail

/-- An element with some of its cells written over. -/
def putCells (old : V) (off : Nat) (cs : List V) : Option V :=
  match old with
  | .agg l => match Nat.ble (Nat.add off cs.length) l.length with
    | true => some (.agg (spliceV l off cs))
    | false => none
  | v => match solid v, off, cs with
    | true, 0, [x] => some x
    | _, _, _ => none

def storeV (st : St) (t : TypeId) (a x : V) : T (V × St) :=
  match x.cells, τ[t]? with
  | some cs, some ty => match Nat.beq cs.length ty.size with
    | true => match a with
      | .ptr id off => match st.h[id]? with
        | some (.cells old) => match Nat.ble (Nat.add off cs.length) old.length with
          | true => .leaf (undefV, ⟨st.t, st.h.set id (.cells (spliceV old off cs))⟩)
          | false => .fail
        | _ => .fail
      | .ept id s' i off => match st.h[id]? with
        | some (.row e s n g) => match putCells (g i) off cs, free.frees cs, Nat.beq s s' with
          | some v, true, true => .br (nlt i n) (.leaf (undefV, ⟨st.t, st.h.set id (.row e s n (setGet g i v))⟩)) .fail
          | _, _, _ => .fail
        | some (.xrow false e s n g) => match putCells (g i) off cs, free.frees cs, Nat.beq s s' with
          | some v, true, true => .br (nlt i n) (.leaf (undefV, ⟨st.t, st.h.set id (.xrow false e s n (setGet g i v))⟩)) .fail
          | _, _, _ => .fail
        | _ => .fail
      | _ => .fail
    | false => .fail
  | _, _ => .fail

def sliceV (t : TypeId) (x : V) (lo hi : Option V) : T V :=
  match τ[t]? with
  | some ty =>
    match ty.k, x with
    | .str, .str l =>
      match lo, hi with
      | none, none => .leaf (.str l)
      | some (.val (.int _ a)), none => .br (band (ile 0 a) (ile a (Int.ofNat (slen l)))) (.leaf (.str (sdrop (toN a) l))) .fail
      | none, some (.val (.int _ b)) => .br (band (ile 0 b) (ile b (Int.ofNat (slen l)))) (.leaf (.str (stake (toN b) l))) .fail
      | some (.val (.int _ a)), some (.val (.int _ b)) =>
        .br (band (ile 0 a) (band (ile a b) (ile b (Int.ofNat (slen l))))) (.leaf (.str (sdrop (toN a) (stake (toN b) l)))) .fail
      | _, _ => .fail
    | .sl e, .sl s n g =>
      match τ[e]? with
      | some te => match Nat.beq s te.size with
        | true => match lo, hi with
          | none, none => .leaf (.sl s n g)
          | some (.val (.int _ a)), none => .br (band (ile 0 a) (ile a (Int.ofNat n))) (.leaf (.sl s (nsub n (toN a)) fun i => g (nadd (toN a) i))) .fail
          | none, some (.val (.int _ b)) => .br (band (ile 0 b) (ile b (Int.ofNat n))) (.leaf (.sl s (toN b) g)) .fail
          | some (.val (.int _ a)), some (.val (.int _ b)) =>
            .br (band (ile 0 a) (band (ile a b) (ile b (Int.ofNat n)))) (.leaf (.sl s (nsub (toN b) (toN a)) fun i => g (nadd (toN a) i))) .fail
          | _, _ => .fail
        | false => .fail
      | none => .fail
    | .sl e, .slr s _ m g =>
      match τ[e]? with
      | some te => match Nat.beq s te.size with
        | true => match lo, hi with
          | none, some (.val (.int _ b)) => .br (band (ile 0 b) (ile b (Int.ofNat m))) (.leaf (.sl s (toN b) g)) .fail
          | _, _ => .fail
        | false => .fail
      | none => .fail
    | _, _ => .fail
  | none => .fail

def indexAddrV (st : St) (t : TypeId) (lit : Bool) (x ix : V) : T V :=
  match ix, τ[t]? with
  | .val (.int _ i), some ty =>
    match ty.k with
    | .sl e => match τ[e]? with
      | some te => match x with
        | .sl s n g => match Nat.beq s te.size with
          | true => .br (band (ile 0 i) (ilt i (Int.ofNat n))) (.leaf (.pp (g (toN i)))) .fail
          | false => .fail
        | .ref id => match st.h[id]? with
          | some (.row _ s n _) => match Nat.beq s te.size with
            | true => .br (band (ile 0 i) (ilt i (Int.ofNat n))) (.leaf (.ept id s (toN i) 0)) .fail
            | false => .fail
          | some (.xrow false _ s n _) => match Nat.beq s te.size with
            | true => .br (band (ile 0 i) (ilt i (Int.ofNat n))) (.leaf (.ept id s (toN i) 0)) .fail
            | false => .fail
          | _ => .fail
        | _ => .fail
      | none => .fail
    | .arr len e => match τ[e]? with
      | some te => match x with
        | .ptr id off => match lit with
          | true => match litBelow i len with
            | true => .leaf (.ptr id (Nat.add off (Nat.mul i.toNat te.size)))
            | false => .fail
          | false => pickAt i (fun k => .leaf (.ptr id (Nat.add off (Nat.mul k te.size)))) len 0
        | .pp v => match lit with
          | true => match litBelow i len with
            | true => match partOf τ e v (Nat.mul i.toNat te.size) with
              | some v => .leaf (.pp v)
              | none => .fail
            | false => .fail
          | false => match Nat.blt 16 len, partsN (fun k => partOf τ e v (Nat.mul k te.size)) len 0 with
            | true, some ps => .br (band (ile 0 i) (ilt i (Int.ofNat len))) (.leaf (.pp (pickG ps (toN i)))) .fail
            | _, _ => pickAt i (fun k => match partOf τ e v (Nat.mul k te.size) with
              | some v => .leaf (.pp v)
              | none => .fail) len 0
        | .ept id s 0 0 => match st.h[id]? with
          | some (.row _ s' n _) => match Nat.beq s s', Nat.beq s te.size, Nat.beq n len with
            | true, true, true => .br (band (ile 0 i) (ilt i (Int.ofNat n))) (.leaf (.ept id s (toN i) 0)) .fail
            | _, _, _ => .fail
          | _ => .fail
        | _ => .fail
      | none => .fail
    | _ => .fail
  | _, _ => .fail

def indexV (t : TypeId) (lit : Bool) (x ix : V) : T V :=
  match ix, τ[t]? with
  | .val (.int _ i), some ty =>
    match ty.k, x with
    | .str, .str l => .br (band (ile 0 i) (ilt i (Int.ofNat (slen l)))) (.leaf (.val (.int .u8 (sget l (toN i))))) .fail
    | .arr len e, .agg cs => match τ[e]? with
      | some te => match lit with
        | true => match litBelow i len with
          | true => T.ofOpt (partV τ e cs (Nat.mul i.toNat te.size))
          | false => .fail
        | false => pickAt i (fun k => T.ofOpt (partV τ e cs (Nat.mul k te.size))) len 0
      | none => .fail
    | _, _ => .fail
  | _, _ => .fail

def lenV (st : St) (t : TypeId) (x : V) : T V :=
  match τ[t]? with
  | some ty =>
    match ty.k, x with
    | .str, .str l => .leaf (iV (Int.ofNat (slen l)))
    | .sl _, .sl _ n _ => .leaf (iV (Int.ofNat n))
    | .sl _, .nilS => .leaf (iV 0)
    | .sl _, .ref id => match st.h[id]? with
      | some (.row _ _ n _) => .leaf (iV (Int.ofNat n))
      | some (.xrow _ _ _ n _) => .leaf (iV (Int.ofNat n))
      | _ => .fail
    | .arr n _, _ => .leaf (iV (Int.ofNat n))
    | _, _ => .fail
  | none => .fail

/-- A nil slice that a variable takes is an empty row of its own. -/
def moveV (st : St) (t : TypeId) (v : V) : T (V × St) :=
  match v with
  | .nilS => match τ[t]? with
    | some ty => match ty.k with
      | .sl e => match τ[e]? with
        | some te => match Nat.blt 0 te.size with
          | true => newBlk st (.row e te.size 0 fun _ => .und) .ref
          | false => .leaf (.nilS, st)
        | none => .leaf (.nilS, st)
      | _ => .leaf (.nilS, st)
    | none => .leaf (.nilS, st)
  | v => .leaf (v, st)

def makeV (st : St) (t : TypeId) (l c : V) : T (V × St) :=
  match l, c, τ[t]? with
  | .val (.int .i64 l), .val (.int .i64 c), some ty => match ty.k with
    | .sl e => match τ[e]? with
      | some te => match te.zero.cells with
        | some zc => match Nat.beq zc.length te.size, Nat.blt 0 te.size with
          | true, true =>
            .br (mkOK te.bytes l c)
              (newBlk st (.row e te.size (toN l) fun _ => te.zero) .ref) .fail
          | _, _ => .fail
        | none => .fail
      | none => .fail
    | _ => .fail
  | _, _, _ => .fail

def makeMapV (st : St) (t : TypeId) : T (V × St) :=
  match τ[t]? with
  | some ty => match ty.k with
    | .imap _ => newBlk st (.imap t 0 fun _ => 0) .ref
    | _ => .fail
  | none => .fail

def putMap (get : Int → Int) (k v : Int) : Int → Int := fun x => sel (ieq x k) v (get x)

/-- Is a type's zero value the number 0? -/
def zeroI (e : TypeId) : Bool :=
  match τ[e]? with
  | some te => match te.zero with
    | .val (.int .i64 (.ofNat 0)) => true
    | _ => false
  | none => false

def lookupV (st : St) (t : TypeId) (m x : V) : T V :=
  match τ[t]? with
  | some ty => match ty.k, m, x with
    | .imap e, .ref id, .val (.int .i64 k) => match st.h[id]?, zeroI τ e with
      | some (.imap t' _ get), true => match Nat.beq t t' with
        | true => .br (fitI k) (.leaf (.val (.int .i64 (get k)))) .fail
        | false => .fail
      | _, _ => .fail
    | _, _, _ => .fail
  | none => .fail

def mapPutV (st : St) (t : TypeId) (m x v : V) : T (V × St) :=
  match τ[t]? with
  | some ty => match ty.k, m, x, v with
    | .imap _, .ref id, .val (.int .i64 k), .val (.int .i64 y) => match st.h[id]? with
      | some (.imap t' n get) => match Nat.beq t t' with
        | true => .br (nlt n 4611686018427387904) (.br (fitI k) (.br (fitI y) (.leaf (undefV, ⟨st.t, st.h.set id (.imap t (nadd n 1) (putMap get k y))⟩)) .fail) .fail) .fail
        | false => .fail
      | _ => .fail
    | _, _, _, _ => .fail
  | none => .fail

def fieldAddrV (s : TypeId) (f : Nat) (x : V) : T V :=
  match τ[s]? with
  | some ty => match ty.k with
    | .st fs => match fs[f]? with
      | some (off, ft) => match τ[ft]? with
        | some te => match Nat.blt 0 te.size with
          | true => match x with
            | .ptr id o => .leaf (.ptr id (Nat.add o off))
            | .ept id s i o => .leaf (.ept id s i (Nat.add o off))
            | .pp v => match partOf τ ft v off with
              | some v => .leaf (.pp v)
              | none => .fail
            | _ => .fail
          | false => .fail
        | none => .fail
      | none => .fail
    | _ => .fail
  | none => .fail

def fieldV (s : TypeId) (f : Nat) (x : V) : T V :=
  match τ[s]? with
  | some ty => match ty.k, x with
    | .st fs, .agg cs => match fs[f]? with
      | some (off, ft) => T.ofOpt (partV τ ft cs off)
      | none => .fail
    | _, _ => .fail
  | none => .fail

/-- An own row is handed on as a slice with room: from now on nobody writes it. -/
def freezeV (st : St) (t : TypeId) (id : Nat) (lo hi : Option V) : T (V × St) :=
  match τ[t]? with
  | some ty => match ty.k, st.h[id]? with
    | .sl e, some (.row _ s n g) => match τ[e]? with
      | some te => match Nat.beq s te.size with
        | true => match lo, hi with
          | none, some (.val (.int _ b)) => .br (band (ile 0 b) (ile b (Int.ofNat n))) (.leaf (.slr s (toN b) n g, ⟨kill.kills id st.t, (killBs id st.h).set id .dead⟩)) .fail
          | _, _ => .fail
        | false => .fail
      | none => .fail
    | _, _ => .fail
  | none => .fail

def keep (st : St) (t : T V) : T (V × St) := t.bind fun v => .leaf (v, st)

/-- An operation that leaves the own memory as it is. -/
def stepQ (o : Oper) (st : St) : T V :=
  match o.op with
  | .move x | .assign x =>
    match ev Γ st x with
    | .nilS => .fail
    | v => .leaf v
  | .pick c a b =>
    match ev Γ st c with
    | .val (.bool c) => .br c (.leaf (ev Γ st a)) (.leaf (ev Γ st b))
    | _ => .fail
  | .build t parts => T.ofOpt (buildV τ t (evs Γ st parts.toList))
  | .load t a => loadV τ st t (ev Γ st a)
  | .nilCheck x =>
    match ev Γ st x with
    | .ptr id o => .leaf (.ptr id o)
    | .ept id s i o => .leaf (.ept id s i o)
    | .pp v => .leaf (.pp v)
    | .fn f cs => .leaf (.fn f cs)
    | _ => .fail
  | .binOp op t x y _ => binV τ op t (isConstOp y) (ev Γ st x) (ev Γ st y)
  | .unOp op _ x => unV op (ev Γ st x)
  | .convert src dst x => convS τ st src dst (ev Γ st x)
  | .makeFunc (.func f) first captured => match Nat.beq first.size 0 with
    | true => .leaf (.fn f (args Γ st captured.toList))
    | false => .fail
  | .slice t x lo hi none => sliceV τ t (ev Γ st x) (lo.map (ev Γ st)) (hi.map (ev Γ st))
  | .fieldAddr s x f => fieldAddrV τ s f (ev Γ st x)
  | .field s x f => fieldV τ s f (ev Γ st x)
  | .indexAddr t x ix => indexAddrV τ st t (isConstOp ix) (ev Γ st x) (ev Γ st ix)
  | .lookup t m x false => lookupV τ st t (ev Γ st m) (ev Γ st x)
  | .index t x ix => indexV τ t (isConstOp ix) (ev Γ st x) (ev Γ st ix)
  | .extract x i =>
    match ev Γ st x with
    | .tup vs => T.ofOpt vs[i]?
    | _ => .fail
  | .call c =>
    match c.callee with
    | .value f =>
      match ev Γ st f with
      | .fn g caps => (Γ.call g (args Γ st c.args.toList ++ caps) st.h).bind fun r => match r.2 with
        | [] => .leaf r.1
        | _ => .fail
      | _ => .fail
    | .builtin .len =>
      match args Γ st c.args.toList, c.argTypes.toList with
      | [x], [t] => lenV τ st t x
      | _, _ => .fail
    | .builtin .min =>
      match args Γ st c.args.toList with
      | [.val (.int k x), .val (.int _ y)] => .leaf (.val (.int k (sel (ilt y x) y x)))
      | [.val (.int k x), .val (.int _ y), .val (.int _ z)] => .leaf (.val (.int k (sel (ilt z (sel (ilt y x) y x)) z (sel (ilt y x) y x))))
      | _ => .fail
    | .builtin .max =>
      match args Γ st c.args.toList with
      | [.val (.int k x), .val (.int _ y)] => .leaf (.val (.int k (sel (ilt x y) y x)))
      | _ => .fail
    | _ => .fail
  | _ => .fail

/-- The own memory behind a call: what the call brings lies behind; a call that writes own memory tells all of it, behind a mark. -/
def after (h : List Blk) : List Blk → List Blk
  | [] => h
  | .dead :: l => l
  | b :: l => h ++ b :: l

/-- A call whose answer may bring memory of its own. -/
def stepC (c : Call) (st : St) : T (V × St) :=
  match c.callee with
  | .value f =>
    match ev Γ st f with
    | .fn g caps => (Γ.call g (args Γ st c.args.toList ++ caps) st.h).bind fun r => .leaf (r.1, ⟨st.t, after st.h r.2⟩)
    | _ => .fail
  | .builtin .append =>
    match args Γ st c.args.toList, c.argTypes.toList with
    | [x, y], [t, t'] => match Nat.beq t t' with
      | true => appendV τ st t x y
      | false => .fail
    | _, _ => .fail
  | _ => .fail

/-- Does a call write, or bring memory? -/
def loudCall (c : Call) : Bool :=
  match c.callee with
  | .value _ => true
  | .builtin .append => true
  | _ => false

/-- n times false. -/
def falses : List V → Nat → Bool
  | [], 0 => true
  | .val (.bool false) :: l, n + 1 => falses l n
  | _, _ => false

/-- A great array of bools is told by a row. -/
def bigArr (ty : Ty) (cs : List V) : Option Nat :=
  match ty.k with
  | .arr n _ => match Nat.blt 16 n, Nat.ble n 1000000, falses cs n with
    | true, true, true => some n
    | _, _, _ => none
  | _ => none

/-- One operation: its value and what it leaves. -/
def step (o : Oper) (st : St) : T (V × St) :=
  match o.op with
  | .move x | .assign x => moveV τ st o.type (ev Γ st x)
  | .alloc t =>
    match τ[t]? with
    | some ty => match ty.zero.cells with
      | some cs => match bigArr ty cs with
        | some n => newBlk st (.row t 1 n fun _ => bV false) fun id => .ept id 1 0 0
        | none => newBlk st (.cells cs) (.ptr · 0)
      | none => .fail
    | none => .fail
  | .box _ x =>
    match (ev Γ st x).cells with
    | some cs => newBlk st (.cells cs) (.ptr · 0)
    | none => .fail
  | .buildSlice t len parts =>
    match τ[t]? with
    | some ty => match ty.k with
      | .sl e => match τ[e]? with
        | some te =>
          match denseV 0 (evs Γ st parts.toList) with
          | some els =>
            match elemsOK te.size els, Nat.beq els.length len, Nat.ble (Nat.mul len te.size) 16777216, Nat.blt 0 te.size, te.zero.cells with
            | true, true, true, true, some zc => match Nat.beq zc.length te.size with
              | true => newBlk st (.row e te.size len (litRow len els)) .ref
              | false => .fail
            | _, _, _, _, _ => .fail
          | none => .fail
        | none => .fail
      | _ => .fail
    | none => .fail
  | .store t a x => storeV τ st t (ev Γ st a) (ev Γ st x)
  | .makeSlice t l c => makeV τ st t (ev Γ st l) (ev Γ st c)
  | .makeMap t none => makeMapV τ st t
  | .slice t x lo hi none => match ev Γ st x with
    | .ref id => freezeV τ st t id (lo.map (ev Γ st)) (hi.map (ev Γ st))
    | _ => keep st (stepQ τ Γ o st)
  | .mapUpdate t m x v => mapPutV τ st t (ev Γ st m) (ev Γ st x) (ev Γ st v)
  | .call c => match loudCall c with
    | true => stepC τ Γ c st
    | false => keep st (stepQ τ Γ o st)
  | _ => keep st (stepQ τ Γ o st)

/-- What an operation's guard says. -/
def guardV {α : Type} (all : Array Oper) (st : St) (o : Oper) (run skip : T α) : T α :=
  match o.guard with
  | none => run
  | some (j, want) =>
    match all[j]? with
    | some oj => match oj.dst with
      | some d => match nth st.t d with
        | .val (.bool b) => match want with
          | true => .br b run skip
          | false => .br b skip run
        | .val (.tuple _) => skip
        | _ => .fail
      | none => .fail
    | none => .fail

def runOp (all : Array Oper) (o : Oper) (st : St) : T St :=
  guardV all st o ((step τ Γ o st).bind fun r => .leaf (put r.2 o.dst r.1)) (.leaf (put st o.dst undefV))

def runOps (all : Array Oper) : List Oper → St → T St
  | [], st => .leaf st
  | o :: l, st => (runOp τ Γ all o st).bind (runOps all l)

/-! ### A region that draws its order: all its operations leave the own memory as it is; each is given the slots alone that it reads -/

def tmpsOf : List Operand → List Nat
  | [] => []
  | .tmp t :: l => t :: tmpsOf l
  | _ :: l => tmpsOf l

def readsOf (all : Array Oper) (o : Oper) : List Nat :=
  match o.guard with
  | some (j, _) => match all[j]? with
    | some oj => match oj.dst with
      | some d => d :: tmpsOf o.op.operands.toList
      | none => tmpsOf o.op.operands.toList
    | none => tmpsOf o.op.operands.toList
  | none => tmpsOf o.op.operands.toList

def memN (n : Nat) : List Nat → Bool
  | [] => false
  | m :: l => match Nat.beq m n with
    | true => true
    | false => memN n l

def maskT (rs : List Nat) : Nat → List V → List V
  | _, [] => []
  | i, v :: l => (match memN i rs with
    | true => v
    | false => .und) :: maskT rs (Nat.succ i) l

def quietV (all : Array Oper) (o : Oper) (st : St) : T V :=
  guardV all ⟨maskT (readsOf all o) 0 st.t, st.h⟩ o (stepQ τ Γ o ⟨maskT (readsOf all o) 0 st.t, st.h⟩) (.leaf undefV)

def runQuiet (all : Array Oper) : List Oper → St → T St
  | [], st => .leaf st
  | o :: l, st => (quietV τ Γ all o st).bind fun v => runQuiet all l (put st o.dst v)

/-- Edges lead to earlier operations alone. -/
def edgesBack : Nat → List Oper → Bool
  | _, [] => true
  | i, o :: l => match o.after.toList.all (fun e => match Region.binds .any e with
      | true => Nat.blt e.on i
      | false => true) with
    | true => edgesBack (Nat.succ i) l
    | false => false

/-- Each slot is written by one operation at most. -/
def dstsOK : List Oper → Bool
  | [] => true
  | o :: l => match o.dst with
    | some d => match l.all (fun o' => match o'.dst with
        | some d' => match Nat.beq d d' with
          | true => false
          | false => true
        | none => true) with
      | true => dstsOK l
      | false => false
    | none => dstsOK l

/-- Whoever writes a slot that operation j reads stands in order with it. -/
def readsOK (bf : Array Nat) (j : Nat) (rs : List Nat) : Nat → List Oper → Bool
  | _, [] => true
  | k, o :: l => match (match o.dst with
      | some d => match memN d rs, Nat.beq k j with
        | true, false => match Nat.blt k j with
          | true => Nat.testBit (bf.getD j 0) k
          | false => Nat.testBit (bf.getD k 0) j
        | true, true => false
        | false, _ => true
      | none => true) with
    | true => readsOK bf j rs (Nat.succ k) l
    | false => false

def allReads (all : Array Oper) (bf : Array Nat) : Nat → List Oper → Bool
  | _, [] => true
  | j, o :: l => match readsOK bf j (readsOf all o) 0 all.toList with
    | true => allReads all bf (Nat.succ j) l
    | false => false

/-- The first operation that writes. -/
def firstLoud : List Oper → Nat
  | [] => 0
  | o :: l => match o.op with
    | .store _ _ _ => 0
    | .mapUpdate _ _ _ _ => 0
    | _ => Nat.succ (firstLoud l)

/-- From the k-th on, each of n operations stands behind all earlier ones. -/
def chainOK (bf : Array Nat) : Nat → Nat → Bool
  | _, 0 => true
  | k, n + 1 => match (List.range k).all fun j => Nat.testBit (bf.getD k 0) j with
    | true => chainOK bf (Nat.succ k) n
    | false => false

def drawOK (ops : Array Oper) : Bool :=
  match edgesBack 0 ops.toList, dstsOK ops.toList with
  | true, true => allReads ops (Region.before ops) 0 ops.toList
  | _, _ => false

end

section
variable (τ : List Ty) (Γ : Cx)

def evalC : Code → Nat → St → T (Ex × St)
  | .skip, _, st => .leaf (.nm, st)
  | .region _ ops draw, _, st => match draw with
    | false => (runOps τ Γ.base ops ops.toList st).bind fun st => .leaf (.nm, st)
    | true => match drawOK ops with
      | true => match chainOK (Region.before ops) (firstLoud ops.toList) (Nat.sub ops.size (firstLoud ops.toList)) with
        | true => (runQuiet τ Γ.base ops (ops.toList.take (firstLoud ops.toList)) st).bind fun st => (runOps τ Γ.base ops (ops.toList.drop (firstLoud ops.toList)) st).bind fun st => .leaf (.nm, st)
        | false => .fail
      | false => .fail
  | .seq a b, id, st => (evalC a id st).bind fun r =>
    match r.1 with
    | .nm => evalC b id r.2
    | .ex j => .leaf (.ex j, r.2)
    | .rt => .leaf (.rt, r.2)
  | .cond c x y, id, st =>
    match ev Γ.base st c with
    | .val (.bool b) => .br b (evalC x id st) (evalC y id st)
    | _ => .fail
  | .block i c, _, st => (evalC c i st).bind fun r =>
    match r.1 with
    | .nm => .leaf (.nm, r.2)
    | .ex j => match Nat.beq j i with
      | true => .leaf (.nm, r.2)
      | false => .leaf (.ex j, r.2)
    | .rt => .leaf (.rt, r.2)
  | .loop c, id, st => Γ.loop id (fun st => evalC c id st) st
  | .exit i, _, st => .leaf (.ex i, st)
  | .ret, _, st => .leaf (.rt, st)
  | _, _, _ => .fail

/-- What a function hands back. -/
def resV (st : St) : ResultVar → Option V
  | .tmp t => some (nth st.t t)
  | .cell a t => match nth st.t a with
    | .ptr id off => match st.h[id]? with
      | some (.cells cs) => partV τ t cs off
      | _ => none
    | _ => none

def ress (st : St) : List ResultVar → Option (List V)
  | [] => some []
  | r :: l => match resV τ st r, ress st l with
    | some a, some b => some (a :: b)
    | _, _ => none

def resultV (fn : Func) (st : St) : Option V :=
  match ress τ st fn.results.toList with
  | some [v] => some v
  | some vs => some (.tup vs)
  | none => none

/-- The rows that an answer names. -/
def refsOf : V → List Nat
  | .agg cs => refs cs
  | .tup cs => refs cs
  | .fn _ cs => refs cs
  | .ref id => [id]
  | _ => []
  where refs : List V → List Nat
  | [] => []
  | v :: vs => refsOf v ++ refs vs

def posN (id : Nat) : List Nat → Nat → Option Nat
  | [], _ => none
  | k :: l, i => match Nat.beq k id with
    | true => some i
    | false => posN id l (Nat.succ i)

def packV (ids : List Nat) : V → V
  | .agg cs => .agg (packs cs)
  | .tup cs => .tup (packs cs)
  | .fn f cs => .fn f (packs cs)
  | .ref id => match posN id ids 0 with
    | some k => .ref k
    | none => .und
  | .ptr _ _ => .und
  | .ept _ _ _ _ => .und
  | v => v
  where packs : List V → List V
  | [] => []
  | v :: vs => packV ids v :: packs vs

def packH (h : List Blk) : List Nat → Option (List Blk)
  | [] => some []
  | id :: l => match h[id]?, packH h l with
    | some (.row e s n g), some bs => some (.row e s n g :: bs)
    | _, _ => none

def nodupN : List Nat → Bool
  | [] => true
  | k :: l => match memN k l with
    | true => false
    | false => nodupN l

/-- An answer, and the own rows alone that it names. -/
def pack (v : V) (h : List Blk) : Option (V × List Blk) :=
  match nodupN (refsOf v), packH h (refsOf v) with
  | true, some hr => some (packV (refsOf v) v, hr)
  | _, _ => none

def finF (t : T (V × List Blk)) : T (V × List Blk) := t.bind fun p => T.ofOpt (pack p.1 p.2)

/-- A callee that is known by what it answers to values. -/
def callF (F : List V → T (V × List Blk)) (vs : List V) (h : List Blk) : T (V × List Blk) :=
  match lend.lends h vs with
  | none => .fail
  | some vs' => (F vs').bind fun p =>
    match free.frees vs with
    | true => .leaf (shift h.length p.1, p.2)
    | false => match bare p.1 with
      | false => .fail
      | true => match p.2 with
        | [] => .leaf (shift h.length p.1, [])
        | b :: l => .br (rowsBare (b :: l)) (.leaf (shift h.length p.1, b :: l)) .fail

def lookN {α : Type} (f : Nat) : List (Nat × α) → Option α
  | [] => none
  | (k, x) :: l => match Nat.beq k f with
    | true => some x
    | false => lookN f l

def callT (tbl : List (Nat × (List V → T (V × List Blk)))) (f : FuncId) (vs : List V) (h : List Blk) : T (V × List Blk) :=
  match lookN f tbl with
  | some F => callF F vs h
  | none => .fail

def globT (tbl : List (Nat × V)) (g : Nat) : V :=
  match lookN g tbl with
  | some v => v
  | none => .und

def undefs : Nat → List V
  | 0 => []
  | n + 1 => undefV :: undefs n

/-- A function's body, from its arguments and the own memory on. -/
def evalF (fn : Func) (vs : List V) (h : List Blk) : T (V × List Blk) :=
  match fn.body with
  | some c => (evalC τ Γ c 0 ⟨vs ++ undefs (Nat.sub fn.ntmps vs.length), h⟩).bind fun r =>
    match r.1 with
    | .ex _ => .fail
    | .nm => match resultV τ fn r.2 with
      | some v => .leaf (v, r.2.h)
      | none => .fail
    | .rt => match resultV τ fn r.2 with
      | some v => .leaf (v, r.2.h)
      | none => .fail
  | none => .fail

end

/-- The body of the loop in a block. -/
def bodyAt (want : Nat) : Code → Nat → Option Code
  | .seq a b, id => match bodyAt want a id with
    | some c => some c
    | none => bodyAt want b id
  | .cond _ a b, id => match bodyAt want a id with
    | some c => some c
    | none => bodyAt want b id
  | .block i c, _ => bodyAt want c i
  | .loop c, id => match Nat.beq id want with
    | true => some c
    | false => bodyAt want c id
  | _, _ => none

def loopBody (fn : Func) (want : Nat) : Code :=
  match fn.body with
  | some c => match bodyAt want c 0 with
    | some c => c
    | none => .skip
  | none => .skip

end Go.Sy

