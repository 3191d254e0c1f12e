/-
  A symbolic big-step evaluator for the model's code, with no program in sight: values, decision trees, states, the evaluator. Its soundness is proved in the texts behind this one. No conditions.
-/
import Derived.Calls
import Derived.Laws.Entries
import Derived.OrdersHeld
namespace Go.Sy
def sel {α:Type} (b:Bool) (x y:α):α:=bif b then x else y
def wr (k:IntKind) (x:Int):Int:=k.wrap x
def Ai (a b:Int):Int:=a+b
def By (a b:Int):Int:=a-b
def Ph (a b:Int):Int:=a * b
def AcS (a b:Int):Int:=a.tdiv b
def Av (a b:Int):Int:=a.tmod b
def AoD (k:IntKind) (a b:Int):Int:=a * 2 ^ (min b.toNat k.bits)
def AoC (k:IntKind) (a b:Int):Int:=a.fdiv (2 ^ (min b.toNat k.bits))
def Pi (op:BinOp) (k:IntKind) (a b:Int):Int:=Go.bits op k a b
def ieq (a b:Int):Bool:=a == b
def ilt (a b:Int):Bool:=decide (a<b)
def ile (a b:Int):Bool:=decide (a <= b)
def toN (a:Int):Nat:=a.toNat
def Ak (a b:Bool):Bool:=a && b
def bor (a b:Bool):Bool:=a || b
def AV (a:Bool):Bool:=!a
def JZ (a b:Bool):Bool:=a == b
def seq (a b:List UInt8):Bool:=a == b
def slt (a b:List UInt8):Bool:=Op.bytesLess a b
def E3 (a b:List UInt8):List UInt8:=a++b
def G0 (n:Nat) (l:List UInt8):List UInt8:=l.drop n
def Gw (n:Nat) (l:List UInt8):List UInt8:=l.take n
def Cl (l:List UInt8):Nat:=l.length
def N4 (l:List UInt8) (n:Nat):Int:=((l.getD n 0).toNat:Int)
def MZ (a b:List UInt8):Bool:=decide (a.length+b.length <= 9223372036854775807)
def nlt (a b:Nat):Bool:=decide (a<b)
def BY (a b:Nat):Bool:=Nat.beq a b
def OK (a b:Nat):Bool:=Nat.blt a b
def BC (a b:Nat):Nat:=a+b
def If (a b:Nat):Nat:=a-b
def C4 (n m bytes:Nat):Bool:=decide ((n+m) * bytes <= 140737488355328)
def Bn (x:Int):Bool:=decide (-9223372036854775808 <= x) && decide (x <= 9223372036854775807)
def EL (bytes:Nat) (l c:Int):Bool:=decide (0 <= l) && (decide (l <= c) && (decide ((bytes:Int) * c <= 281474976710656) && decide (c <= 9223372036854775807)))
inductive V where
 | val (v:Value)
 | str (l:List UInt8)
 | agg (cs:List V)
 | tup (vs:List V)
 | fn (f:FuncId) (caps:List V)
 | nilS
 | sl (size n:Nat) (get:Nat->V)
 | slr (size n m:Nat) (get:Nat->V)
 | pp (v:V)
 | ptr (id off:Nat)
 | ref (id:Nat)
 | ept (id size i off:Nat)
 | rct (id k:Nat)
 | jref (id:Nat)
 | jept (id size i off:Nat)
 | mref (id i:Nat)
 | mept (id i size k off:Nat)
 | mmap (id i:Nat)
 | anym
 | und
instance:Inhabited V:=⟨.und⟩
structure Mp where
 off:Nat
 t:TypeId
 live:Nat->Bool
 len:Nat->Nat
 hs:Nat->Int->Bool
 get:Nat->Int->Int
structure Jag where
 e:TypeId
 size:Nat
 n:Nat
 get:Nat->V
 off:Nat
 e':TypeId
 s':Nat
 live:Nat->Bool
 len:Nat->Nat
 mem:Nat->Nat->V
 mp:Option Mp
inductive Key where
 | i (x:Int)
 | s (l:List UInt8)
def keq:Key->Key->Bool
 | .i a,.i b=>ieq a b
 | .s a,.s b=>seq a b
 | _,_=>false
def ZS:Bool->V->Option Key
 | false,.val (.int .i64 k)=>some (.i k)
 | true,.str l=>some (.s l)
 | _,_=>none
def WG:Key->Bool
 | .i x=>Bn x
 | .s l=>MZ l []
inductive Blk where
 | cells (cs:List V)
 | row (e:TypeId) (size n:Nat) (get:Nat->V)
 | imap (t:TypeId) (n:Nat) (get:Int->Int)
 | gmap (t:TypeId) (ks:List (Key×V)) (hs:Key->Bool) (get:Key->V)
 | xrow (lk:Bool) (e:TypeId) (size n:Nat) (get:Nat->V)
 | jag (j:Jag)
 | saved (vs:List V)
 | dead
structure St where
 t:List V
 h:List Blk
inductive Ex where
 | nm
 | ex (id:Nat)
 | rt
inductive T (α:Type) where
 | leaf (a:α)
 | br (b:Bool) (x y:T α)
 | fail
 | ask (o:Option (Ex×St)) (k:Ex×St->T α)
def T.bind {α β:Type} (t:T α) (f:α->T β):T β :=
 match t with
 | .leaf a=>f a
 | .br b x y=>.br b (x.bind f) (y.bind f)
 | .fail=>.fail
 | .ask o k=>.ask o λr=>(k r).bind f
def T.sem {α:Type}:T α->Option α
 | .leaf a=>some a
 | .br b x y=>sel b x.sem y.sem
 | .fail=>none
 | .ask o k=>match o with
  | some r=>(k r).sem
  | none=>none
def T.ofOpt {α:Type}:Option α->T α
 | some a=>.leaf a
 | none=>.fail
def AH:V:=.val (.tuple #[])
def iV (n:Int):V:=.val (.int .i64 n)
def bV (b:Bool):V:=.val (.bool b)
def Nv:Value->V
 | .string s=>.str s.data.toList
 | .slice none 0 0=>.nilS
 | .agg _=>.und
 | .tuple _=>.und
 | v=>.val v
def ofValue:Value->V
 | .agg cs=>.agg (cs.toList.map Nv)
 | v=>Nv v
def Kd:V->Bool
 | .agg _ | .val (.agg _) | .val (.tuple _) | .tup _ | .und=>false
 | _=>true
def RV:List V->Bool
 | []=>true
 | v::l=>match Kd v with
  | true=>RV l
  | false=>false
def V.cells:V->Option (List V)
 | .agg cs=>match RV cs with
  | true=>some cs
  | false=>none
 | .val (.agg _) | .val (.tuple _) | .tup _ | .und=>none
 | v=>some [v]
inductive K where
 | bool
 | int (k:IntKind)
 | str
 | sl (e:Nat)
 | arr (n e:Nat)
 | st (fs:List (Nat×Nat))
 | imap (e:Nat)
 | gmap (s:Bool) (e:Nat)
 | other
structure Ty where
 k:K
 size:Nat
 bytes:Nat
 zero:V
 plain:Bool
def Sm (P:Program):Nat->TypeId->Bool
 | 0,_=>false
 | d+1,t=>match P.underlying t with
  | some (.array _ e)=>Sm P d e
  | some (.struct fs)=>fs.toList.all λf=>f.name != "_" && Sm P d f.type
  | some (.int _) | some .bool | some .string=>true
  | _=>false
def GO (P:Program) (t:TypeId):Bool :=
 match P.underlying t with
 | some (.array _ e)=>Sm P 3 e && !P.eqGuardType P.depth t
 | some (.struct fs)=>(fs.toList.all λf=>f.name != "_" && Sm P 3 f.type) && !P.stoodInHeld t && !P.eqGuardType P.depth t
 | _=>false
def kOf (P:Program):TypeDesc->K
 | .bool=>.bool
 | .int k=>.int k
 | .string=>.str
 | .slice e=>.sl e
 | .array n e=>.arr n e
 | .struct fs=>.st (fs.toList.map λf=>(f.offset,f.type))
 | .map k e=>match P.underlying k,P.underlying e with
  | some (.int .i64),some (.int .i64)=>.imap e
  | some (.int .i64),_=>.gmap false e
  | some .string,_=>.gmap true e
  | _,_=>.other
 | _=>.other
def AaF (P:Program) (t:TypeId):Option Ty :=
 match P.info? t,P.underlying t with
 | some i,some d=>some { k:=kOf P d,size:=i.size,bytes:=i.bytes,zero:=match i.zero with | some z=>ofValue z | none=>.und,plain:=GO P t }
 | _,_=>none
section
variable (τ:List Ty)
def SJ:K->Bool
 | .st _ | .arr _ _=>true
 | _=>false
def nth (l:List V) (n:Nat):V :=
 match l,n with
 | [],_=>.und
 | v::_,0=>v
 | _::l,n+1=>nth l n
def H7 (t:TypeId) (cs:List V) (off:Nat):Option V :=
 match τ[t]? with
 | some ty =>
  match SJ ty.k with
  | true=>match Nat.ble (Nat.add off ty.size) cs.length with
   | true=>some (.agg ((cs.drop off).take ty.size))
   | false=>none
  | false=>cs[off]?
 | none=>none
def E5 (t:TypeId) (v:V) (off:Nat):Option V :=
 match v.cells with
 | some cs=>H7 τ t cs off
 | none=>none
def Dp (cs:List V) (off:Nat) (new:List V):List V:=cs.take off++(new++cs.drop (Nat.add off new.length))
def Rm (place:Nat->Option (Nat×Nat)) (cells:List V):List (Nat×V)->Option (List V)
 | []=>some cells
 | (i,v)::rest =>
   match place i,v.cells with
   | some (off,size),some cs =>
    match Nat.beq cs.length size,Nat.ble (Nat.add off size) cells.length with
    | true,true=>Rm place (Dp cells off cs) rest
    | _,_=>none
   | _,_=>none
def Lf (fs:List (Nat×Nat)):Option (List (Nat×Nat)) :=
 match fs with
 | []=>some []
 | f::fs=>match τ[f.2]?,Lf fs with
  | some ty,some l=>some ((f.1,ty.size)::l)
  | _,_=>none
def Xp (t:TypeId) (parts:List (Nat×V)):Option V :=
 match τ[t]? with
 | some ty =>
  match ty.zero,ty.k with
  | .agg zero,.st fs =>
   match Lf τ fs with
   | some places=>match Rm (λi=>places[i]?) zero parts with
    | some cs=>some (.agg cs)
    | none=>none
   | none=>none
  | .agg zero,.arr _ e =>
   match τ[e]? with
   | some te=>match Rm (λi=>some (Nat.mul i te.size,te.size)) zero parts with
    | some cs=>some (.agg cs)
    | none=>none
   | none=>none
  | _,_=>none
 | none=>none
def Mw {α:Type} (i:Int) (f:Nat->T α):Nat->Nat->T α
 | 0,_=>.fail
 | n+1,k=>.br (ieq i (Int.ofNat k)) (f k) (Mw i f n (Nat.succ k))
def M8:Operand->Bool
 | .const _=>true
 | _=>false
def WJ:IntKind->IntKind->Bool
 | .i8,.i8 | .i16,.i16 | .i32,.i32 | .i64,.i64 | .u8,.u8 | .u16,.u16 | .u32,.u32 | .u64,.u64=>true
 | _,_=>false
def AcT:Int->Bool
 | .ofNat 0=>true
 | _=>false
def Ja (i:Int) (n:Nat):Bool :=
 match i with
 | .ofNat k=>Nat.blt k n
 | _=>false
def WU:K->V->V->Option Bool
 | .int _,.val (.int k a),.val (.int k' b)=>match WJ k k' with
  | true=>some (ieq a b)
  | false=>none
 | .bool,.val (.bool a),.val (.bool b)=>some (JZ a b)
 | .str,.str a,.str b=>some (seq a b)
 | _,_,_=>none
def Adv (f:TypeId->V->V->Option Bool):List (Nat×Nat)->List V->List V->Option Bool
 | [],_,_=>some true
 | (off,t)::fs,as0,bs=>match H7 τ t as0 off,H7 τ t bs off with
   | some u,some v=>match f t u v,Adv f fs as0 bs with
    | some x,some y=>some (Ak x y)
    | _,_=>none
   | _,_=>none
def Vh (f:V->V->Option Bool) (e:TypeId) (size:Nat) (as0 bs:List V):Nat->Nat->Option Bool
 | 0,_=>some true
 | m+1,i=>match H7 τ e as0 (Nat.mul i size),H7 τ e bs (Nat.mul i size) with
  | some u,some v=>match f u v,Vh f e size as0 bs m (Nat.succ i) with
   | some x,some y=>some (Ak x y)
   | _,_=>none
  | _,_=>none
def eqV:Nat->TypeId->V->V->Option Bool
 | 0,_,_,_=>none
 | d+1,t,x,y=>match τ[t]? with
  | some ty=>match ty.k,x,y with
   | .arr n e,.agg as0,.agg bs=>match τ[e]? with
    | some te=>Vh τ (eqV d e) e te.size as0 bs n 0
    | none=>none
   | .st fs,.agg as0,.agg bs=>match ty.plain with
    | true=>Adv τ (eqV d) fs as0 bs
    | false=>none
   | k,x,y=>WU k x y
  | none=>none
def AlP (op:BinOp) (t:TypeId) (lit:Bool):V->V->T V
 | .val (.int k a),.val (.int k' b) =>
  match op with
  | .shl=>.br (ile 0 b) (.leaf (.val (.int k (wr k (AoD k a b))))) .fail
  | .shr=>.br (ile 0 b) (.leaf (.val (.int k (AoC k a b)))) .fail
  | op =>
   match WJ k k' with
   | false=>.fail
   | true =>
   match op with
   | .add=>.leaf (.val (.int k (wr k (Ai a b))))
   | .sub=>.leaf (.val (.int k (wr k (By a b))))
   | .mul=>.leaf (.val (.int k (wr k (Ph a b))))
   | .quo=>match lit with
    | true=>match AcT b with
     | true=>.fail
     | false=>.leaf (.val (.int k (wr k (AcS a b))))
    | false=>.br (ieq b 0) .fail (.leaf (.val (.int k (wr k (AcS a b)))))
   | .rem=>match lit with
    | true=>match AcT b with
     | true=>.fail
     | false=>.leaf (.val (.int k (Av a b)))
    | false=>.br (ieq b 0) .fail (.leaf (.val (.int k (Av a b))))
   | .and=>.leaf (.val (.int k (Pi .and k a b)))
   | .or=>.leaf (.val (.int k (Pi .or k a b)))
   | .xor=>.leaf (.val (.int k (Pi .xor k a b)))
   | .andNot=>.leaf (.val (.int k (Pi .andNot k a b)))
   | .eql=>.leaf (bV (ieq a b))
   | .neq=>.leaf (bV (AV (ieq a b)))
   | .lss=>.leaf (bV (ilt a b))
   | .leq=>.leaf (bV (ile a b))
   | .gtr=>.leaf (bV (ilt b a))
   | .geq=>.leaf (bV (ile b a))
   | _=>.fail
 | .val (.bool a),.val (.bool b) =>
  match τ[t]? with
  | some ty=>match op,ty.k with
   | .eql,.bool=>.leaf (bV (JZ a b))
   | .neq,.bool=>.leaf (bV (AV (JZ a b)))
   | _,_=>.fail
  | none=>.fail
 | .str a,.str b =>
  match op with
  | .add=>.br (MZ a b) (.leaf (.str (E3 a b))) .fail
  | .eql=>.leaf (bV (seq a b))
  | .neq=>.leaf (bV (AV (seq a b)))
  | .lss=>.leaf (bV (slt a b))
  | .leq=>.leaf (bV (bor (slt a b) (seq a b)))
  | .gtr=>.leaf (bV (AV (bor (slt a b) (seq a b))))
  | .geq=>.leaf (bV (AV (slt a b)))
  | _=>.fail
 | .agg a,.agg b =>
  match τ[t]? with
  | some ty=>match ty.plain with
   | true=>match op,eqV τ 5 t (.agg a) (.agg b) with
    | .eql,some x=>.leaf (bV x)
    | .neq,some x=>.leaf (bV (AV x))
    | _,_=>.fail
   | false=>.fail
  | none=>.fail
 | _,_=>.fail
def unV (op:UnOp):V->T V
 | .val (.int k a) =>
  match op with
  | .neg=>.leaf (.val (.int k (wr k (By 0 a))))
  | _=>.fail
 | .val (.bool b) =>
  match op with
  | .not=>.leaf (bV (AV b))
  | _=>.fail
 | _=>.fail
def AdD (src dst:TypeId):V->T V
 | .val (.int _ a) =>
  match τ[src]?,τ[dst]? with
  | some _,some ty=>match ty.k with
   | .int k=>.leaf (.val (.int k (wr k a)))
   | _=>.fail
  | _,_=>.fail
 | .str l =>
  match τ[src]?,τ[dst]? with
  | some _,some ty=>match ty.k with
   | .str=>.leaf (.str l)
   | _=>.fail
  | _,_=>.fail
 | _=>.fail
end
def free:V->Bool
 | .agg cs=>frees cs
 | .tup cs=>frees cs
 | .fn _ cs=>frees cs
 | .ref _ | .ptr _ _ | .ept _ _ _ _ | .rct _ _=>false
 | .jref _ | .jept _ _ _ _ | .mref _ _ | .mept _ _ _ _ _ | .mmap _ _=>false
 | _=>true
 where frees:List V->Bool
 | []=>true
 | v::vs=>match free v with
  | true=>frees vs
  | false=>false
def Yn (j:Jag) (i:Nat):V :=
 match j.size with
 | 1=>.sl j.s' (j.len i) (j.mem i)
 | _=>match j.get i with
  | .agg cs=>match j.mp with
   | none=>.agg (cs.set j.off (.sl j.s' (j.len i) (j.mem i)))
   | some q=>.agg ((cs.set j.off (.sl j.s' (j.len i) (j.mem i))).set q.off .anym)
  | _=>.und
def Dx (h:List Blk):V->Option V
 | .agg cs=>match lends cs with
  | some l=>some (.agg l)
  | none=>none
 | .tup cs=>match lends cs with
  | some l=>some (.tup l)
  | none=>none
 | .fn f cs=>match lends cs with
  | some l=>some (.fn f l)
  | none=>none
 | .ref id=>match h[id]? with
  | some (.row _ s n g)=>some (.sl s n g)
  | _=>none
 | .nilS=>some (.sl 1 0 λ_=>.und)
 | .ptr id 0=>match h[id]? with
  | some (.cells cs)=>match free.frees cs with
   | true=>some (.pp (.agg cs))
   | false=>none
  | _=>none
 | .jref id=>match h[id]? with
  | some (.jag j)=>some (.sl j.size j.n (Yn j))
  | _=>none
 | .mref id i=>match h[id]? with
  | some (.jag j)=>some (.sl j.s' (j.len i) (j.mem i))
  | _=>none
 | .mmap _ _=>some .anym
 | .ptr _ _ | .ept _ _ _ _ | .rct _ _ | .jept _ _ _ _ | .mept _ _ _ _ _ | .und=>none
 | v=>some v
 where lends:List V->Option (List V)
 | []=>some []
 | v::vs=>match Dx h v,lends vs with
  | some a,some b=>some (a::b)
  | _,_=>none
def MO:V->Bool
 | .agg cs=>bares cs
 | .tup cs=>bares cs
 | .fn _ cs=>bares cs
 | .sl _ _ _ | .slr _ _ _ _ | .pp _=>false
 | _=>true
 where bares:List V->Bool
 | []=>true
 | v::vs=>match MO v with
  | true=>bares vs
  | false=>false
def Ct:List Blk->Bool
 | []=>true
 | .row _ _ n g::l=>(List.range n).all (λi=>MO (g i)) && Ct l
 | .jag j::l=>(List.range j.n).all (λi=>MO (j.get i) && (List.range (j.len i)).all λk=>MO (j.mem i k)) && Ct l
 | _::_=>false
def BP:List Blk->Bool
 | []=>true
 | .jag j::l=>(List.range j.n).all j.live && BP l
 | _::l=>BP l
def WL:List Blk->Bool
 | []=>false
 | .jag _::_=>true
 | _::l=>WL l
def kill (id:Nat):V->V
 | .agg cs=>.agg (kills cs)
 | .tup cs=>.tup (kills cs)
 | .fn f cs=>.fn f (kills cs)
 | .ref k=>match Nat.beq k id with
  | true=>.und
  | false=>.ref k
 | .ept k s i o=>match Nat.beq k id with
  | true=>.und
  | false=>.ept k s i o
 | .rct k i=>match Nat.beq k id with
  | true=>.und
  | false=>.rct k i
 | .jref k=>match Nat.beq k id with
  | true=>.und
  | false=>.jref k
 | .jept k s i o=>match Nat.beq k id with
  | true=>.und
  | false=>.jept k s i o
 | .mref k i=>match Nat.beq k id with
  | true=>.und
  | false=>.mref k i
 | .mept k i s j o=>match Nat.beq k id with
  | true=>.und
  | false=>.mept k i s j o
 | .mmap k i=>match Nat.beq k id with
  | true=>.und
  | false=>.mmap k i
 | v=>v
 where kills:List V->List V
 | []=>[]
 | v::vs=>kill id v::kills vs
def EZ (id:Nat):Blk->Blk
 | .cells cs=>.cells (kill.kills id cs)
 | .saved vs=>.saved (kill.kills id vs)
 | b=>b
def Bc (id:Nat):List Blk->List Blk
 | []=>[]
 | b::l=>EZ id b::Bc id l
def killM (id:Nat):V->V
 | .agg cs=>.agg (kills cs)
 | .tup cs=>.tup (kills cs)
 | .fn f cs=>.fn f (kills cs)
 | .mref k i=>match Nat.beq k id with
  | true=>.und
  | false=>.mref k i
 | .mept k i s j o=>match Nat.beq k id with
  | true=>.und
  | false=>.mept k i s j o
 | .mmap k i=>match Nat.beq k id with
  | true=>.und
  | false=>.mmap k i
 | v=>v
 where kills:List V->List V
 | []=>[]
 | v::vs=>killM id v::kills vs
def ES (id:Nat):Blk->Blk
 | .cells cs=>.cells (killM.kills id cs)
 | .saved vs=>.saved (killM.kills id vs)
 | b=>b
def BX (id:Nat):List Blk->List Blk
 | []=>[]
 | b::l=>ES id b::BX id l
def St.kill (id:Nat) (st:St):St:=⟨Sy.kill.kills id st.t,Bc id st.h⟩
def shift (d:Nat):V->V
 | .agg cs=>.agg (shifts cs)
 | .tup cs=>.tup (shifts cs)
 | .fn f cs=>.fn f (shifts cs)
 | .ptr id o=>.ptr (Nat.add d id) o
 | .ref id=>.ref (Nat.add d id)
 | .ept id s i o=>.ept (Nat.add d id) s i o
 | .rct id k=>.rct (Nat.add d id) k
 | .jref id=>.jref (Nat.add d id)
 | .jept id s i o=>.jept (Nat.add d id) s i o
 | .mref id i=>.mref (Nat.add d id) i
 | .mept id i s k o=>.mept (Nat.add d id) i s k o
 | .mmap id i=>.mmap (Nat.add d id) i
 | v=>v
 where shifts:List V->List V
 | []=>[]
 | v::vs=>shift d v::shifts vs
def PS (n:Nat):V->Bool
 | .agg cs=>belows cs
 | .tup cs=>belows cs
 | .fn _ cs=>belows cs
 | .ref id=>Nat.blt id n
 | .ptr id _=>Nat.blt id n
 | .ept id _ _ _=>Nat.blt id n
 | .rct id _=>Nat.blt id n
 | .jref id=>Nat.blt id n
 | .jept id _ _ _=>Nat.blt id n
 | .mref id _=>Nat.blt id n
 | .mept id _ _ _ _=>Nat.blt id n
 | .mmap id _=>Nat.blt id n
 | _=>true
 where belows:List V->Bool
 | []=>true
 | v::vs=>match PS n v with
  | true=>belows vs
  | false=>false
def SV (n:Nat) (v:V):V :=
 match PS n v with
 | true=>v
 | false=>.und
def Dh (n:Nat):List V->List V
 | []=>[]
 | v::l=>SV n v::Dh n l
def Iq (n:Nat):Blk->Blk
 | .cells cs=>.cells (Dh n cs)
 | .saved vs=>.saved (Dh n vs)
 | b=>b
def D3 (n:Nat):List Blk->List Blk
 | []=>[]
 | b::l=>Iq n b::D3 n l
def XX:List Bool->List V->List V
 | b::bs,v::l=>(match b with
  | true=>v
  | false=>.und)::XX bs l
 | _,[]=>[]
 | [],v::l=>v::l
def Hv (ks:List Bool) (n:Nat) (st:St):St:=⟨Dh n (XX ks st.t),D3 n (st.h.take n)⟩
structure Lp where
 ks:List Bool
 n:Nat
 ke:List Bool
 ne:Nat
 fuel:Nat
def A4 (f:St->T (Ex×St)) (l:Lp):Nat->St->T (Ex×St)
 | 0,_=>.fail
 | m+1,st=>(f st).bind λr=>match r.1 with
  | .nm=>A4 f l m (Hv l.ks l.n r.2)
  | .ex i=>.leaf (.ex i,Hv l.ke l.ne r.2)
  | .rt=>.leaf (.rt,Hv l.ke l.ne r.2)
inductive Res where
 | more (l:List Blk)
 | all (st:St)
def AcH:Res->Bool
 | .more (.dead::_)=>false
 | .more _=>true
 | .all _=>false
def allT (b:Bool):T Unit :=
 match b with
 | true=>.leaf ()
 | false=>.fail
structure Cx0 where
 call:FuncId->List V->St->T (V×Res)
 glob:Nat->V
structure Cx where
 call:FuncId->List V->St->T (V×Res)
 loop:Nat->(St->T (Ex×St))->St->T (Ex×St)
 glob:Nat->V
def Cx.base (Γ:Cx):Cx0:=⟨Γ.call,Γ.glob⟩
def ev (Γ:Cx0) (st:St):Operand->V
 | .tmp t=>nth st.t t
 | .const v=>ofValue v
 | .global g=>Γ.glob g
 | .func f=>.fn f []
def put (st:St) (d:Option Tmp) (v:V):St :=
 match d with
 | some d=>⟨st.t.set d v,st.h⟩
 | none=>st
def cif (b:Bool) (u v:V):V:=bif b then u else v
def Jb (b:Bool) (u v:V):V :=
 match u,v with
 | .val (.int k x),.val (.int k' y)=>match WJ k k' with
  | true=>.val (.int k (sel b x y))
  | false=>cif b (.val (.int k x)) (.val (.int k' y))
 | .val (.bool x),.val (.bool y)=>.val (.bool (sel b x y))
 | .str l,.str l'=>.str (sel b l l')
 | u,v=>cif b u v
def Ij (b:Bool):List V->List V->List V
 | u::us,v::vs=>Jb b u v::Ij b us vs
 | _,_=>[]
def vif (b:Bool) (u v:V):V :=
 match u,v with
 | .agg us,.agg vs=>match Nat.beq us.length vs.length with
  | true=>.agg (Ij b us vs)
  | false=>cif b (.agg us) (.agg vs)
 | u,v=>cif b u v
def AX (n:Nat) (g:Nat->V) (x:V):Nat->V:=λi=>vif (BY i n) x (g i)
def PW (n:Nat) (g g':Nat->V):Nat->V:=λi=>vif (OK i n) (g i) (g' (i-n))
def CO (n m:Nat) (gx g:Nat->V):Nat->V :=
 match m with
 | 1=>AX n gx (g 0)
 | _=>PW n gx g
def B1 (g:Nat->V) (k:Nat) (x:V):Nat->V:=λi=>vif (BY i k) x (g i)
section
variable (τ:List Ty) (Γ:Cx0)
def DN (st:St) (b:Blk) (v:Nat->V):T (V×St):=.leaf (v st.h.length,⟨st.t,st.h++[b]⟩)
def evs (st:St):List (Nat×Operand)->List (Nat×V)
 | []=>[]
 | (i,x)::l=>(i,ev Γ st x)::evs st l
def args (st:St):List Operand->List V
 | []=>[]
 | x::l=>ev Γ st x::args st l
def QM:List V->Nat->V
 | [],_=>.und
 | [v],_=>v
 | v::l,i=>Jb (BY i 0) v (QM l (If i 1))
def Ag4:V->Bool
 | .val (.int .u8 _)=>true
 | _=>false
def Al3:V->Bool
 | .str _=>true
 | _=>false
def SB (len:Nat) (els:List V):Bool :=
 match Nat.blt 1 len with
 | true=>match els.all Ag4 with
  | true=>true
  | false=>match Nat.blt 16 len with
   | true=>els.all Al3
   | false=>false
 | false=>false
def FQ (len:Nat) (els:List V):Nat->V :=
 match SB len els with
 | true=>λi=>QM els i
 | false=>λi=>nth els i
def RI (b:Bool) (u v:V):V :=
 match u,v with
 | .agg us,.agg vs=>match Nat.beq us.length vs.length with
  | true=>.agg (Ij b us vs)
  | false=>cif b (.agg us) (.agg vs)
 | u,v=>Jb b u v
def QO:List V->Nat->V
 | [],_=>.und
 | [v],_=>v
 | v::l,i=>RI (BY i 0) v (QO l (If i 1))
def O8 (f:Nat->Option V):Nat->Nat->Option (List V)
 | 0,_=>some []
 | m+1,k=>match f k,O8 f m (Nat.succ k) with
  | some v,some l=>some (v::l)
  | _,_=>none
def Hu:Nat->List (Nat×V)->Option (List V)
 | _,[]=>some []
 | k,(i,v)::l=>match Nat.beq i k,Hu (Nat.succ k) l with
  | true,some vs=>some (v::vs)
  | _,_=>none
def LL (size:Nat):List V->Bool
 | []=>true
 | v::l=>match v.cells with
  | some cs=>match Nat.beq cs.length size,free v with
   | true,true=>LL size l
   | _,_=>false
  | none=>false
def CX (f:Nat->Bool) (k:Nat) (b:Bool):Nat->Bool:=λi=>sel (BY i k) b (f i)
def DJ (f:Nat->Nat) (k n:Nat):Nat->Nat:=λi=>sel (BY i k) n (f i)
def Eo (f:Nat->Nat->V) (k:Nat) (g:Nat->V):Nat->Nat->V:=λi j=>RI (BY i k) (g j) (f i j)
def Jt (st:St) (id i:Nat):T St :=
 match st.h[id]? with
 | some (.jag j)=>.br (j.live i) (.leaf ⟨killM.kills id st.t,(BX id st.h).set id (.jag { j with live:=CX j.live i false })++[.row j.e' j.s' (j.len i) (j.mem i)]⟩) .fail
 | _=>.fail
def Us (st:St) (id i r:Nat):T St :=
 match st.h[id]?,st.h[r]? with
 | some (.jag j),some (.row e s n g)=>match Nat.beq e j.e',Nat.beq s j.s' with
  | true,true=>.br (nlt i j.n) (.leaf ⟨killM.kills id (kill.kills r st.t),((BX id (Bc r st.h)).set r .dead).set id (.jag { j with live:=CX j.live i true,len:=DJ j.len i n,mem:=Eo j.mem i g })⟩) .fail
  | _,_=>.fail
 | _,_=>.fail
def Ep {α:Type} (f:Nat->Int->α) (k:Nat) (g:Int->α):Nat->Int->α:=λi x=>sel (BY i k) (g x) (f i x)
def Aq4:Option Mp->Nat->Bool
 | none,_=>false
 | some q,off=>Nat.beq off q.off
def AbS:Option Mp->Nat->Nat->Bool
 | none,_,_=>true
 | some q,off,n=>bor (Nat.ble (Nat.add off n) q.off) (Nat.blt q.off off)
def AbB (st:St) (id i r:Nat):T St :=
 match st.h[id]?,st.h[r]? with
 | some (.jag j),some (.imap t 0 _)=>match j.mp with
  | some q=>match Nat.beq t q.t with
   | true=>.br (nlt i j.n) (.leaf ⟨killM.kills id (kill.kills r st.t),((BX id (Bc r st.h)).set r .dead).set id (.jag { j with mp:=some { q with live:=CX q.live i true,len:=DJ q.len i 0,hs:=Ep q.hs i λ_=>false,get:=Ep q.get i λ_=>0 } })⟩) .fail
   | false=>.fail
  | none=>.fail
 | _,_=>.fail
def SA (st:St) (e:TypeId) (r:Nat):T (V×St) :=
 match st.h[r]? with
 | some (.row e' s' n g)=>.leaf (.jref st.h.length,⟨kill.kills r st.t,(Bc r st.h).set r .dead++[.jag ⟨e,1,1,λ_=>.und,0,e',s',λ_=>true,λ_=>n,λ_=>g,none⟩]⟩)
 | _=>.fail
def Add (ty:Ty) (e:TypeId) (st:St) (id id':Nat):T (V×St) :=
 match st.h[id]?,st.h[id']? with
 | some (.jag j),some (.jag y) =>
  match j.mp,y.mp with
  | none,none=>match Nat.beq j.e e,Nat.beq j.size y.size,Nat.beq j.off y.off,Nat.beq j.e' y.e',Nat.beq j.s' y.s',Nat.beq y.n 1,Nat.beq j.size ty.size,Nat.beq id id' with
   | true,true,true,true,true,true,true,false =>
    .br (y.live 0) (.br (C4 j.n 1 ty.bytes)
     (.leaf (.jref id,⟨kill.kills id (kill.kills id' st.t),((Bc id (Bc id' st.h)).set id' .dead).set id (.jag { j with n:=BC j.n 1,get:=AX j.n j.get (y.get 0),live:=CX j.live j.n true,len:=DJ j.len j.n (y.len 0),mem:=Eo j.mem j.n (y.mem 0) })⟩)) .fail) .fail
   | _,_,_,_,_,_,_,_=>.fail
  | _,_=>.fail
 | _,_=>.fail
def Rj (ty:Ty) (e:TypeId) (st:St) (x:V) (m:Nat) (g:Nat->V):T (V×St) :=
 match x with
 | .ref id=>match st.h[id]? with
  | some (.row e' s n gx) =>
   match Nat.beq e e',Nat.beq s ty.size with
   | true,true =>
    .br (C4 n m ty.bytes)
     (.leaf (.ref id,⟨kill.kills id st.t,(Bc id st.h).set id (.row e s (BC n m) (CO n m gx g))⟩)) .fail
   | _,_=>.fail
  | some (.xrow true e' s n gx) =>
   match Nat.beq e e',Nat.beq s ty.size with
   | true,true =>
    .br (C4 n m ty.bytes)
     (.leaf (.ref id,⟨kill.kills id st.t,(Bc id st.h).set id (.xrow true e s (BC n m) (CO n m gx g))⟩)) .fail
   | _,_=>.fail
  | _=>.fail
 | _=>.fail
def Y1 (ty:Ty) (e:TypeId) (st:St) (x:V) (m:Nat) (g:Nat->V):T (V×St) :=
 match x with
 | .nilS=>Rj ty e ⟨st.t,st.h++[.row e ty.size 0 λ_=>.und]⟩ (.ref st.h.length) m g
 | .mref id i=>(Jt st id i).bind λst1=>Rj ty e st1 (.ref st.h.length) m g
 | .rct id k=>match st.h[id]? with
  | some (.row e' s _ gx)=>Rj ty e ⟨kill.kills id st.t,(Bc id st.h).set id (.row e' s k gx)⟩ (.ref id) m g
  | _=>.fail
 | x=>Rj ty e st x m g
def T0 (st:St) (t:TypeId) (x y:V):T (V×St) :=
 match τ[t]? with
 | some ts=>match ts.k with
  | .sl e =>
   match τ[e]? with
   | some ty =>
    match ty.zero.cells with
    | some zc =>
     match Nat.beq zc.length ty.size,Nat.blt 0 ty.size,Nat.blt 0 ty.bytes with
     | true,true,true =>
      match y with
      | .ref id'=>match st.h[id']? with
       | some (.row _ s' m g)=>match Nat.beq s' ty.size with
        | true=>Y1 ty e st x m g
        | false=>.fail
       | _=>.fail
      | .sl s' m g=>match Nat.beq s' ty.size with
       | true=>Y1 ty e st x m g
       | false=>.fail
      | .jref id'=>match x with
       | .jref id=>Add ty e st id id'
       | _=>.fail
      | _=>.fail
     | _,_,_=>.fail
    | none=>.fail
   | none=>.fail
  | _=>.fail
 | none=>.fail
def AdT (x:Int):UInt8:=UInt8.ofNat x.toNat
def AdF (st:St) (src dst:TypeId) (x:V):T V :=
 match x with
 | .ref id=>match τ[src]?,τ[dst]? with
  | some ts,some td=>match ts.k,td.k with
   | .sl e,.str=>match τ[e]?,st.h[id]? with
    | some te,some (.row _ 1 1 g)=>match te.k,g 0 with
     | .int .u8,.val (.int .u8 b)=>.leaf (.str [AdT b])
     | _,_=>.fail
    | _,_=>.fail
   | _,_=>.fail
  | _,_=>.fail
 | x=>AdD τ src dst x
def Ys (j:Jag) (id i:Nat):V :=
 match j.size with
 | 1=>.mref id i
 | _=>match j.get i with
  | .agg cs=>match j.mp with
   | none=>.agg (cs.set j.off (.mref id i))
   | some q=>.agg ((cs.set j.off (.mref id i)).set q.off (.mmap id i))
  | _=>.und
def Ac7 (st:St) (t:TypeId):V->T V
 | .ptr id off=>match st.h[id]? with
  | some (.cells cs)=>match H7 τ t cs off with
   | some v=>.leaf (v)
   | none=>.fail
  | _=>.fail
 | .pp v=>match E5 τ t v 0 with
  | some v=>.leaf (v)
  | none=>.fail
 | .ept id s i off=>match st.h[id]? with
  | some (.row _ s' n g)=>match Nat.beq s s',E5 τ t (g i) off with
   | true,some v=>.br (nlt i n) (.leaf (v)) .fail
   | _,_=>.fail
  | _=>.fail
 | .jept id s i off=>match st.h[id]? with
  | some (.jag j)=>match Nat.beq s j.size,E5 τ t (Ys j id i) off with
   | true,some v=>.br (nlt i j.n) (.br (j.live i) (.leaf v) .fail) .fail
   | _,_=>.fail
  | _=>.fail
 | .mept id i s k off=>match st.h[id]? with
  | some (.jag j)=>match Nat.beq s j.s',E5 τ t (j.mem i k) off with
   | true,some v=>.br (j.live i) (.br (nlt k (j.len i)) (.leaf v) .fail) .fail
   | _,_=>.fail
  | _=>.fail
 | _=>.fail
def Eu (old:V) (off:Nat) (cs:List V):Option V :=
 match old with
 | .agg l=>match Nat.ble (Nat.add off cs.length) l.length with
  | true=>some (.agg (Dp l off cs))
  | false=>none
 | v=>match Kd v,off,cs with
  | true,0,[x]=>some x
  | _,_,_=>none
def RR (st:St) (t:TypeId) (a x:V):T (V×St) :=
 match x.cells,τ[t]? with
 | some cs,some ty=>match Nat.beq cs.length ty.size with
  | true=>match a with
   | .ptr id off=>match st.h[id]? with
    | some (.cells old)=>match Nat.ble (Nat.add off cs.length) old.length with
     | true=>.leaf (AH,⟨st.t,st.h.set id (.cells (Dp old off cs))⟩)
     | false=>.fail
    | _=>.fail
   | .ept id s' i off=>match st.h[id]? with
    | some (.row e s n g)=>match Eu (g i) off cs,free.frees cs,Nat.beq s s' with
     | some v,true,true=>.br (nlt i n) (.leaf (AH,⟨st.t,st.h.set id (.row e s n (B1 g i v))⟩)) .fail
     | _,_,_=>.fail
    | some (.xrow false e s n g)=>match Eu (g i) off cs,free.frees cs,Nat.beq s s' with
     | some v,true,true=>.br (nlt i n) (.leaf (AH,⟨st.t,st.h.set id (.xrow false e s n (B1 g i v))⟩)) .fail
     | _,_,_=>.fail
    | _=>.fail
   | .jept id s' i off=>match st.h[id]? with
    | some (.jag j)=>match Nat.beq s' j.size with
     | true=>match Nat.beq off j.off,x with
      | true,.ref r=>(Us st id i r).bind λst=>.leaf (AH,st)
      | true,.mref id2 i2=>(Jt st id2 i2).bind λst1=>(Us st1 id i st.h.length).bind λst=>.leaf (AH,st)
      | _,_=>match Aq4 j.mp off,x with
       | true,.ref r=>(AbB st id i r).bind λst=>.leaf (AH,st)
       | _,_=>match Eu (j.get i) off cs,free.frees cs,Ak (bor (Nat.ble (Nat.add off cs.length) j.off) (Nat.blt j.off off)) (AbS j.mp off cs.length) with
        | some v,true,true=>.br (nlt i j.n) (.leaf (AH,⟨st.t,st.h.set id (.jag { j with get:=B1 j.get i v })⟩)) .fail
        | _,_,_=>.fail
     | false=>.fail
    | _=>.fail
   | .mept id u s' i off=>match st.h[id]? with
    | some (.jag j)=>match Eu (j.mem u i) off cs,free.frees cs,Nat.beq s' j.s' with
     | some v,true,true=>.br (j.live u) (.br (nlt i (j.len u)) (.leaf (AH,⟨st.t,st.h.set id (.jag { j with mem:=Eo j.mem u (B1 (j.mem u) i v) })⟩)) .fail) .fail
     | _,_,_=>.fail
    | _=>.fail
   | _=>.fail
  | false=>.fail
 | _,_=>.fail
def VV (st:St) (t:TypeId) (x:V) (lo hi:Option V):T V :=
 match τ[t]? with
 | some ty =>
  match ty.k,x with
  | .str,.str l =>
   match lo,hi with
   | none,none=>.leaf (.str l)
   | some (.val (.int _ a)),none=>.br (Ak (ile 0 a) (ile a (Int.ofNat (Cl l)))) (.leaf (.str (G0 (toN a) l))) .fail
   | none,some (.val (.int _ b))=>.br (Ak (ile 0 b) (ile b (Int.ofNat (Cl l)))) (.leaf (.str (Gw (toN b) l))) .fail
   | some (.val (.int _ a)),some (.val (.int _ b)) =>
    .br (Ak (ile 0 a) (Ak (ile a b) (ile b (Int.ofNat (Cl l))))) (.leaf (.str (G0 (toN a) (Gw (toN b) l)))) .fail
   | _,_=>.fail
  | .sl e,.sl s n g =>
   match τ[e]? with
   | some te=>match Nat.beq s te.size with
    | true=>match lo,hi with
     | none,none=>.leaf (.sl s n g)
     | some (.val (.int _ a)),none=>.br (Ak (ile 0 a) (ile a (Int.ofNat n))) (.leaf (.sl s (If n (toN a)) λi=>g (BC (toN a) i))) .fail
     | none,some (.val (.int _ b))=>.br (Ak (ile 0 b) (ile b (Int.ofNat n))) (.leaf (.sl s (toN b) g)) .fail
     | some (.val (.int _ a)),some (.val (.int _ b)) =>
      .br (Ak (ile 0 a) (Ak (ile a b) (ile b (Int.ofNat n)))) (.leaf (.sl s (If (toN b) (toN a)) λi=>g (BC (toN a) i))) .fail
     | _,_=>.fail
    | false=>.fail
   | none=>.fail
  | .sl e,.slr s _ m g =>
   match τ[e]? with
   | some te=>match Nat.beq s te.size with
    | true=>match lo,hi with
     | none,some (.val (.int _ b))=>.br (Ak (ile 0 b) (ile b (Int.ofNat m))) (.leaf (.sl s (toN b) g)) .fail
     | _,_=>.fail
    | false=>.fail
   | none=>.fail
  | .sl e,.ref id=>match st.h[id]? with
   | some (.row _ s n _)=>match τ[e]? with
    | some te=>match Nat.beq s te.size with
     | true=>match lo,hi with
      | none,some (.val (.int _ b))=>.br (Ak (ile 0 b) (ile b (Int.ofNat n))) (.leaf (.rct id (toN b))) .fail
      | _,_=>.fail
     | false=>.fail
    | none=>.fail
   | _=>.fail
  | _,_=>.fail
 | none=>.fail
def K1 (st:St) (t:TypeId) (lit:Bool) (x ix:V):T V :=
 match ix,τ[t]? with
 | .val (.int _ i),some ty =>
  match ty.k with
  | .sl e=>match τ[e]? with
   | some te=>match x with
    | .sl s n g=>match Nat.beq s te.size with
     | true=>.br (Ak (ile 0 i) (ilt i (Int.ofNat n))) (.leaf (.pp (g (toN i)))) .fail
     | false=>.fail
    | .rct id k=>match st.h[id]? with
     | some (.row _ s _ _)=>match Nat.beq s te.size with
      | true=>.br (Ak (ile 0 i) (ilt i (Int.ofNat k))) (.leaf (.ept id s (toN i) 0)) .fail
      | false=>.fail
     | _=>.fail
    | .ref id=>match st.h[id]? with
     | some (.row _ s n _)=>match Nat.beq s te.size with
      | true=>.br (Ak (ile 0 i) (ilt i (Int.ofNat n))) (.leaf (.ept id s (toN i) 0)) .fail
      | false=>.fail
     | some (.xrow false _ s n _)=>match Nat.beq s te.size with
      | true=>.br (Ak (ile 0 i) (ilt i (Int.ofNat n))) (.leaf (.ept id s (toN i) 0)) .fail
      | false=>.fail
     | _=>.fail
    | .jref id=>match st.h[id]? with
     | some (.jag j)=>match Nat.beq j.size te.size with
      | true=>.br (Ak (ile 0 i) (ilt i (Int.ofNat j.n))) (.leaf (.jept id j.size (toN i) 0)) .fail
      | false=>.fail
     | _=>.fail
    | .mref id k=>match st.h[id]? with
     | some (.jag j)=>match Nat.beq j.s' te.size with
      | true=>.br (j.live k) (.br (Ak (ile 0 i) (ilt i (Int.ofNat (j.len k)))) (.leaf (.mept id k j.s' (toN i) 0)) .fail) .fail
      | false=>.fail
     | _=>.fail
    | _=>.fail
   | none=>.fail
  | .arr len e=>match τ[e]? with
   | some te=>match x with
    | .ptr id off=>match lit with
     | true=>match Ja i len with
      | true=>.leaf (.ptr id (Nat.add off (Nat.mul i.toNat te.size)))
      | false=>.fail
     | false=>Mw i (λk=>.leaf (.ptr id (Nat.add off (Nat.mul k te.size)))) len 0
    | .pp v=>match lit with
     | true=>match Ja i len with
      | true=>match E5 τ e v (Nat.mul i.toNat te.size) with
       | some v=>.leaf (.pp v)
       | none=>.fail
      | false=>.fail
     | false=>match Nat.blt 16 len,O8 (λk=>E5 τ e v (Nat.mul k te.size)) len 0 with
      | true,some ps=>.br (Ak (ile 0 i) (ilt i (Int.ofNat len))) (.leaf (.pp (QO ps (toN i)))) .fail
      | _,_=>Mw i (λk=>match E5 τ e v (Nat.mul k te.size) with
       | some v=>.leaf (.pp v)
       | none=>.fail) len 0
    | .ept id s 0 0=>match st.h[id]? with
     | some (.row _ s' n _)=>match Nat.beq s s',Nat.beq s te.size,Nat.beq n len with
      | true,true,true=>.br (Ak (ile 0 i) (ilt i (Int.ofNat n))) (.leaf (.ept id s (toN i) 0)) .fail
      | _,_,_=>.fail
     | _=>.fail
    | _=>.fail
   | none=>.fail
  | _=>.fail
 | _,_=>.fail
def WH (t:TypeId) (lit:Bool) (x ix:V):T V :=
 match ix,τ[t]? with
 | .val (.int _ i),some ty =>
  match ty.k,x with
  | .str,.str l=>.br (Ak (ile 0 i) (ilt i (Int.ofNat (Cl l)))) (.leaf (.val (.int .u8 (N4 l (toN i))))) .fail
  | .arr len e,.agg cs=>match τ[e]? with
   | some te=>match lit with
    | true=>match Ja i len with
     | true=>T.ofOpt (H7 τ e cs (Nat.mul i.toNat te.size))
     | false=>.fail
    | false=>Mw i (λk=>T.ofOpt (H7 τ e cs (Nat.mul k te.size))) len 0
   | none=>.fail
  | _,_=>.fail
 | _,_=>.fail
def Alx (st:St) (t:TypeId) (x:V):T V :=
 match τ[t]? with
 | some ty =>
  match ty.k,x with
  | .str,.str l=>.leaf (iV (Int.ofNat (Cl l)))
  | .sl _,.sl _ n _=>.leaf (iV (Int.ofNat n))
  | .sl _,.nilS=>.leaf (iV 0)
  | .sl _,.rct _ k=>.leaf (iV (Int.ofNat k))
  | .sl _,.ref id=>match st.h[id]? with
   | some (.row _ _ n _)=>.leaf (iV (Int.ofNat n))
   | some (.xrow _ _ _ n _)=>.leaf (iV (Int.ofNat n))
   | _=>.fail
  | .sl _,.jref id=>match st.h[id]? with
   | some (.jag j)=>.leaf (iV (Int.ofNat j.n))
   | _=>.fail
  | .sl _,.mref id i=>match st.h[id]? with
   | some (.jag j)=>.br (j.live i) (.leaf (iV (Int.ofNat (j.len i)))) .fail
   | _=>.fail
  | .arr n _,_=>.leaf (iV (Int.ofNat n))
  | .imap _,.mmap id i=>match st.h[id]? with
   | some (.jag j)=>match j.mp with
    | some q=>.br (nlt i j.n) (.br (q.live i) (.leaf (iV (Int.ofNat (q.len i)))) .fail) .fail
    | none=>.fail
   | _=>.fail
  | _,_=>.fail
 | none=>.fail
def IJ:List (Nat×Nat)->Option (Nat×Nat×Nat)
 | []=>none
 | (off,t)::l=>match τ[t]? with
   | some ty=>match ty.k with
    | .sl e=>match τ[e]? with
     | some te=>match Nat.blt 0 te.size with
      | true=>some (off,e,te.size)
      | false=>IJ l
     | none=>IJ l
    | _=>IJ l
   | none=>IJ l
def Hg:List (Nat×Nat)->Option (Nat×Nat×Nat)
 | []=>none
 | (off,t)::l=>match τ[t]? with
   | some ty=>match ty.k with
    | .sl e=>match τ[e]? with
     | some te=>match Nat.blt 0 te.size with
      | true=>some (off,e,te.size)
      | false=>Hg l
     | none=>Hg l
    | .st fs=>match IJ τ fs with
     | some (o,e,s)=>some (Nat.add off o,e,s)
     | none=>Hg l
    | _=>Hg l
   | none=>Hg l
def HW (e:TypeId):Option (Nat×Nat×Nat) :=
 match τ[e]? with
 | some ty=>match ty.k with
  | .sl _=>Hg τ [(0,e)]
  | .st fs=>Hg τ fs
  | _=>none
 | none=>none
def OL (st:St) (t:TypeId) (v:V):T (V×St) :=
 match v with
 | .nilS=>match τ[t]? with
  | some ty=>match ty.k with
   | .sl e=>match τ[e]? with
    | some te=>match Nat.blt 0 te.size with
     | true=>match te.k with
      | .sl _=>match HW τ e with
       | some (off,e',s')=>DN st (.jag ⟨e,te.size,0,λ_=>.und,off,e',s',λ_=>true,λ_=>0,λ_ _=>.und,none⟩) .jref
       | none=>.leaf (.nilS,st)
      | _=>DN st (.row e te.size 0 λ_=>.und) .ref
     | false=>.leaf (.nilS,st)
    | none=>.leaf (.nilS,st)
   | _=>.leaf (.nilS,st)
  | none=>.leaf (.nilS,st)
 | v=>.leaf (v,st)
def Od:List (Nat×Nat)->St->List V->T (List V×St)
 | [],st,cs=>.leaf (cs,st)
 | (off,t)::l,st,cs=>match cs[off]? with
   | some .nilS=>(OL τ st t .nilS).bind λr=>Od l r.2 (cs.set off r.1)
   | _=>Od l st cs
def upV (st:St) (t:TypeId) (v:V):T (V×St) :=
 match v with
 | .nilS=>OL τ st t .nilS
 | .agg cs=>match τ[t]? with
  | some ty=>match ty.k with
   | .st fs=>(Od τ fs st cs).bind λr=>.leaf (.agg r.1,r.2)
   | _=>.leaf (.agg cs,st)
  | none=>.leaf (.agg cs,st)
 | v=>.leaf (v,st)
def U5:List (Nat×Nat)->List V->Nat->Option Mp
 | [],_,_=>none
 | (o,t)::l,zc,off=>match τ[t]? with
   | some ty=>match ty.k,zc[o]?,Nat.beq o off with
    | .imap _,some (.val (.map none)),false=>some ⟨o,t,λ_=>false,λ_=>0,λ_ _=>false,λ_ _=>0⟩
    | _,_,_=>U5 l zc off
   | none=>U5 l zc off
def Ig (te:Ty) (zc:List V) (off:Nat):Option Mp :=
 match te.k with
 | .st fs=>U5 τ fs zc off
 | _=>none
def Acb (st:St) (t:TypeId) (l c:V):T (V×St) :=
 match l,c,τ[t]? with
 | .val (.int .i64 l),.val (.int .i64 c),some ty=>match ty.k with
  | .sl e=>match τ[e]? with
   | some te=>match te.zero.cells with
    | some zc=>match Nat.beq zc.length te.size,Nat.blt 0 te.size with
     | true,true=>match HW τ e with
      | some (off,e',s')=>match zc[off]? with
       | some .nilS=>.br (EL te.bytes l c) (DN st (.jag ⟨e,te.size,toN l,λ_=>te.zero,off,e',s',λ_=>true,λ_=>0,λ_ _=>.und,Ig τ te zc off⟩) .jref) .fail
       | _=>.fail
      | none =>
      .br (EL te.bytes l c)
       (DN st (.row e te.size (toN l) λ_=>te.zero) .ref) .fail
     | _,_=>.fail
    | none=>.fail
   | none=>.fail
  | _=>.fail
 | _,_,_=>.fail
def ON (st:St) (t:TypeId):T (V×St) :=
 match τ[t]? with
 | some ty=>match ty.k with
  | .imap _=>DN st (.imap t 0 λ_=>0) .ref
  | .gmap _ e=>match τ[e]? with
   | some te=>DN st (.gmap t [] (λ_=>false) λ_=>te.zero) .ref
   | none=>.fail
  | _=>.fail
 | none=>.fail
def Hl (get:Int->Int) (k v:Int):Int->Int:=λx=>sel (ieq x k) v (get x)
def TF (e:TypeId):Bool :=
 match τ[e]? with
 | some te=>match te.zero with
  | .val (.int .i64 (.ofNat 0))=>true
  | _=>false
 | none=>false
def Ow (hs:Key->Bool) (k:Key):Key->Bool:=λx=>bor (keq x k) (hs x)
def Sl (g:Key->V) (k:Key) (v:V):Key->V:=λx=>RI (keq x k) v (g x)
def XQ {α:Type} (k:Key) (f:V->T α):List (Key×V)->T α
 | []=>.fail
 | a::l=>.br (keq k a.1) (f a.2) (XQ k f l)
def NN:K->Bool
 | .other=>true
 | _=>false
def SQ {α:Type} (st:St) (t:TypeId) (b:Bool) (e:TypeId) (id:Nat) (x:V) (f:V->Bool->V) (r:V->T α):T α :=
 match st.h[id]?,τ[e]?,ZS b x with
 | some (.gmap t' ks hs get),some te,some k=>match Nat.beq t t',te.zero.cells with
  | true,some _=>.br (WG k) (match NN te.k with
   | true=>XQ k (λv=>r (f v true)) ks
   | false=>r (f (RI (hs k) (get k) te.zero) (hs k))) .fail
  | _,_=>.fail
 | _,_,_=>.fail
def S6 (st:St) (t:TypeId) (m x:V):T V :=
 match τ[t]? with
 | some ty=>match ty.k,m,x with
  | .imap e,.ref id,.val (.int .i64 k)=>match st.h[id]?,TF τ e with
   | some (.imap t' _ get),true=>match Nat.beq t t' with
    | true=>.br (Bn k) (.leaf (.val (.int .i64 (get k)))) .fail
    | false=>.fail
   | _,_=>.fail
  | .imap e,.mmap id i,.val (.int .i64 k)=>match st.h[id]?,TF τ e with
   | some (.jag j),true=>match j.mp with
    | some q=>match Nat.beq t q.t with
     | true=>.br (q.live i) (.br (Bn k) (.leaf (.val (.int .i64 (q.get i k)))) .fail) .fail
     | false=>.fail
    | none=>.fail
   | _,_=>.fail
  | .gmap b e,.ref id,x=>SQ τ st t b e id x (λv _=>v) .leaf
  | _,_,_=>.fail
 | none=>.fail
def S7 (st:St) (t:TypeId) (m x:V):T V :=
 match τ[t]? with
 | some ty=>match ty.k,m,x with
  | .imap e,.mmap id i,.val (.int .i64 k)=>match st.h[id]?,TF τ e with
   | some (.jag j),true=>match j.mp with
    | some q=>match Nat.beq t q.t with
     | true=>.br (q.live i) (.br (Bn k) (.leaf (.tup [.val (.int .i64 (q.get i k)),bV (q.hs i k)])) .fail) .fail
     | false=>.fail
    | none=>.fail
   | _,_=>.fail
  | .gmap b e,.ref id,x=>SQ τ st t b e id x (λv h=>.tup [v,bV h]) .leaf
  | _,_,_=>.fail
 | none=>.fail
def NK (st:St) (t:TypeId) (m x v:V):T (V×St) :=
 match τ[t]? with
 | some ty=>match ty.k,m,x,v with
  | .imap _,.ref id,.val (.int .i64 k),.val (.int .i64 y)=>match st.h[id]? with
   | some (.imap t' n get)=>match Nat.beq t t' with
    | true=>.br (nlt n 4611686018427387904) (.br (Bn k) (.br (Bn y) (.leaf (AH,⟨st.t,st.h.set id (.imap t (BC n 1) (Hl get k y))⟩)) .fail) .fail) .fail
    | false=>.fail
   | _=>.fail
  | .imap _,.mmap id i,.val (.int .i64 k),.val (.int .i64 y)=>match st.h[id]? with
   | some (.jag j)=>match j.mp with
    | some q=>match Nat.beq t q.t with
     | true=>.br (nlt i j.n) (.br (q.live i) (.br (nlt (q.len i) 4611686018427387904) (.br (Bn k) (.br (Bn y) (.leaf (AH,⟨st.t,st.h.set id (.jag { j with mp:=some { q with len:=DJ q.len i (sel (q.hs i k) (q.len i) (BC (q.len i) 1)),hs:=Ep q.hs i λx=>sel (ieq x k) true (q.hs i x),get:=Ep q.get i (Hl (q.get i) k y) } })⟩)) .fail) .fail) .fail) .fail) .fail
     | false=>.fail
    | none=>.fail
   | _=>.fail
  | .gmap b e,.ref id,x,y=>match st.h[id]?,τ[e]?,ZS b x with
   | some (.gmap t' ks hs get),some te,some k=>match Nat.beq t t',free y with
    | true,true=>.br (WG k) (.leaf (AH,⟨st.t,st.h.set id (.gmap t (match NN te.k with | true=>(k,y)::ks | false=>[]) (Ow hs k) (Sl get k y))⟩)) .fail
    | _,_=>.fail
   | _,_,_=>.fail
  | _,_,_,_=>.fail
 | none=>.fail
def AhV (t:TypeId):Bool:=match τ[t]? with
 | some ty=>match ty.k with
  | .imap _=>true
  | _=>false
 | none=>false
def AmU (t:TypeId):Bool:=match τ[t]? with
 | some ty=>match ty.k with
  | .sl _=>true
  | _=>false
 | none=>false
def AlQ (st:St) (op:BinOp) (t:TypeId) (lit:Bool) (x y:V):T V :=
 match x,y with
 | .mmap id i,.val (.map none)=>match st.h[id]? with
  | some (.jag j)=>match j.mp,AhV τ t with
   | some q,true=>match op with
    | .eql=>.leaf (bV (AV (q.live i)))
    | .neq=>.leaf (bV (q.live i))
    | _=>.fail
   | _,_=>.fail
  | _=>.fail
 | .sl _ n _,.nilS=>match AmU τ t with
  | true=>match op with
   | .eql=>.br (OK 0 n) (.leaf (bV false)) .fail
   | .neq=>.br (OK 0 n) (.leaf (bV true)) .fail
   | _=>.fail
  | false=>.fail
 | x,y=>AlP τ op t lit x y
def Fh (s:TypeId) (f:Nat) (x:V):T V :=
 match τ[s]? with
 | some ty=>match ty.k with
  | .st fs=>match fs[f]? with
   | some (off,ft)=>match τ[ft]? with
    | some te=>match Nat.blt 0 te.size with
     | true=>match x with
      | .ptr id o=>.leaf (.ptr id (Nat.add o off))
      | .ept id s i o=>.leaf (.ept id s i (Nat.add o off))
      | .jept id s i o=>.leaf (.jept id s i (Nat.add o off))
      | .mept id i s k o=>.leaf (.mept id i s k (Nat.add o off))
      | .pp v=>match E5 τ ft v off with
       | some v=>.leaf (.pp v)
       | none=>.fail
      | _=>.fail
     | false=>.fail
    | none=>.fail
   | none=>.fail
  | _=>.fail
 | none=>.fail
def WS (s:TypeId) (f:Nat) (x:V):T V :=
 match τ[s]? with
 | some ty=>match ty.k,x with
  | .st fs,.agg cs=>match fs[f]? with
   | some (off,ft)=>T.ofOpt (H7 τ ft cs off)
   | none=>.fail
  | _,_=>.fail
 | none=>.fail
def keep (st:St) (t:T V):T (V×St):=t.bind λv=>.leaf (v,st)
def Gv (o:Oper) (st:St):T V :=
 match o.op with
 | .move x | .assign x =>
  match ev Γ st x with
  | .nilS=>.fail
  | v=>.leaf v
 | .pick c a b =>
  match ev Γ st c with
  | .val (.bool c)=>.br c (.leaf (ev Γ st a)) (.leaf (ev Γ st b))
  | _=>.fail
 | .build t parts=>T.ofOpt (Xp τ t (evs Γ st parts.toList))
 | .load t a=>Ac7 τ st t (ev Γ st a)
 | .nilCheck x =>
  match ev Γ st x with
  | .ptr id o=>.leaf (.ptr id o)
  | .ept id s i o=>.leaf (.ept id s i o)
  | .jept id s i o=>.leaf (.jept id s i o)
  | .mept id i s k o=>.leaf (.mept id i s k o)
  | .pp v=>.leaf (.pp v)
  | .fn f cs=>.leaf (.fn f cs)
  | _=>.fail
 | .binOp op t x y _=>AlQ τ st op t (M8 y) (ev Γ st x) (ev Γ st y)
 | .unOp op _ x=>unV op (ev Γ st x)
 | .convert src dst x=>AdF τ st src dst (ev Γ st x)
 | .makeFunc (.func f) first captured=>match Nat.beq first.size 0 with
  | true=>.leaf (.fn f (args Γ st captured.toList))
  | false=>.fail
 | .slice t x lo hi none=>VV τ st t (ev Γ st x) (lo.map (ev Γ st)) (hi.map (ev Γ st))
 | .fieldAddr s x f=>Fh τ s f (ev Γ st x)
 | .field s x f=>WS τ s f (ev Γ st x)
 | .indexAddr t x ix=>K1 τ st t (M8 ix) (ev Γ st x) (ev Γ st ix)
 | .lookup t m x false=>S6 τ st t (ev Γ st m) (ev Γ st x)
 | .lookup t m x true=>S7 τ st t (ev Γ st m) (ev Γ st x)
 | .index t x ix=>WH τ t (M8 ix) (ev Γ st x) (ev Γ st ix)
 | .extract x i =>
  match ev Γ st x with
  | .tup vs=>T.ofOpt vs[i]?
  | _=>.fail
 | .call c =>
  match c.callee with
  | .value f =>
   match ev Γ st f with
   | .fn g caps=>(Γ.call g (args Γ st c.args.toList++caps) st).bind λr=>match r.2 with
    | .more []=>.leaf r.1
    | _=>.fail
   | _=>.fail
  | .builtin .len =>
   match args Γ st c.args.toList,c.argTypes.toList with
   | [x],[t]=>Alx τ st t x
   | _,_=>.fail
  | .builtin .min =>
   match args Γ st c.args.toList with
   | [.val (.int k x),.val (.int _ y)]=>.leaf (.val (.int k (sel (ilt y x) y x)))
   | [.val (.int k x),.val (.int _ y),.val (.int _ z)]=>.leaf (.val (.int k (sel (ilt z (sel (ilt y x) y x)) z (sel (ilt y x) y x))))
   | _=>.fail
  | .builtin .max =>
   match args Γ st c.args.toList with
   | [.val (.int k x),.val (.int _ y)]=>.leaf (.val (.int k (sel (ilt x y) y x)))
   | _=>.fail
  | _=>.fail
 | _=>.fail
def after (h:List Blk):List Blk->List Blk
 | []=>h
 | .dead::l=>l
 | b::l=>h++b::l
def KF (st:St):Res->St
 | .more l=>⟨st.t,after st.h l⟩
 | .all st'=>st'
def AaY (c:Call) (st:St):T (V×St) :=
 match c.callee with
 | .value f =>
  match ev Γ st f with
  | .fn g caps=>(Γ.call g (args Γ st c.args.toList++caps) st).bind λr=>.leaf (r.1,KF st r.2)
  | _=>.fail
 | .builtin .append =>
  match args Γ st c.args.toList,c.argTypes.toList with
  | [x,y],[t,t']=>match Nat.beq t t' with
   | true=>T0 τ st t x y
   | false=>.fail
  | _,_=>.fail
 | _=>.fail
def U8 (c:Call):Bool :=
 match c.callee with
 | .value _=>true
 | .builtin .append=>true
 | _=>false
def Pz:List V->Nat->Bool
 | [],0=>true
 | .val (.bool false)::l,n+1=>Pz l n
 | _,_=>false
def Oa:List V->Nat->Bool
 | [],0=>true
 | .val (.int .i64 (.ofNat 0))::l,n+1=>Oa l n
 | _,_=>false
def Xs (ty:Ty) (cs:List V):Option (Nat×V) :=
 match ty.k with
 | .arr n _=>match Nat.blt 14 n,Nat.ble n 1000000,Pz cs n with
  | true,true,true=>some (n,bV false)
  | true,true,false=>match Oa cs n with
   | true=>some (n,iV 0)
   | false=>none
  | _,_,_=>none
 | _=>none
def Xq (te:Ty) (e:TypeId) (st:St) (len:Nat) (els:List V):T (V×St) :=
 match te.k,HW τ e,Nat.beq te.size 1,Nat.beq len 1,te.zero.cells,els with
 | .sl _,some (_,e',s'),true,true,some [_],[.ref r]=>match st.h[r]? with
  | some (.row e2 s2 _ _)=>match Nat.beq e' e2,Nat.beq s' s2 with
   | true,true=>SA st e r
   | _,_=>.fail
  | _=>.fail
 | .sl _,some (_,e',s'),true,true,some [_],[.mref id i]=>(Jt st id i).bind λst1=>match st1.h[st.h.length]? with
  | some (.row e2 s2 _ _)=>match Nat.beq e' e2,Nat.beq s' s2 with
   | true,true=>SA st1 e st.h.length
   | _,_=>.fail
  | _=>.fail
 | _,_,_,_,_,_=>.fail
def step (o:Oper) (st:St):T (V×St) :=
 match o.op with
 | .move x | .assign x=>OL τ st o.type (ev Γ st x)
 | .alloc t =>
  match τ[t]? with
  | some ty=>match ty.zero.cells with
   | some cs=>match Xs ty cs with
    | some p=>DN st (.row t 1 p.1 λ_=>p.2) λid=>.ept id 1 0 0
    | none=>DN st (.cells cs) (.ptr · 0)
   | none=>.fail
  | none=>.fail
 | .box _ x =>
  match (ev Γ st x).cells with
  | some cs=>DN st (.cells cs) (.ptr · 0)
  | none=>.fail
 | .buildSlice t len parts =>
  match τ[t]? with
  | some ty=>match ty.k with
   | .sl e=>match τ[e]? with
    | some te =>
     match Hu 0 (evs Γ st parts.toList) with
     | some els =>
      match LL te.size els,Nat.beq els.length len,Nat.ble (Nat.mul len te.size) 16777216,Nat.blt 0 te.size,te.zero.cells with
      | true,true,true,true,some zc=>match Nat.beq zc.length te.size with
       | true=>DN st (.row e te.size len (FQ len els)) .ref
       | false=>.fail
      | _,_,_,_,_=>Xq τ te e st len els
     | none=>.fail
    | none=>.fail
   | _=>.fail
  | none=>.fail
 | .store t a x=>match ev Γ st a with
  | .ptr id off=>(upV τ st t (ev Γ st x)).bind λr=>RR τ r.2 t (.ptr id off) r.1
  | av=>RR τ st t av (ev Γ st x)
 | .makeSlice t l c=>Acb τ st t (ev Γ st l) (ev Γ st c)
 | .makeMap t none=>ON τ st t
 | .mapUpdate t m x v=>NK τ st t (ev Γ st m) (ev Γ st x) (ev Γ st v)
 | .insert t m x v=>NK τ st t (ev Γ st m) (ev Γ st x) (ev Γ st v)
 | .call c=>match U8 c with
  | true=>AaY τ Γ c st
  | false=>keep st (Gv τ Γ o st)
 | _=>keep st (Gv τ Γ o st)
def K2 {α:Type} (all:Array Oper) (st:St) (o:Oper) (run skip:T α):T α :=
 match o.guard with
 | none=>run
 | some (j,want) =>
  match all[j]? with
  | some oj=>match oj.dst with
   | some d=>match nth st.t d with
    | .val (.bool b)=>match want with
     | true=>.br b run skip
     | false=>.br b skip run
    | .val (.tuple _)=>skip
    | _=>.fail
   | none=>.fail
  | none=>.fail
def Oy (all:Array Oper) (o:Oper) (st:St):T St :=
 K2 all st o ((step τ Γ o st).bind λr=>.leaf (put r.2 o.dst r.1)) (.leaf (put st o.dst AH))
def Hj (all:Array Oper):List Oper->St->T St
 | [],st=>.leaf st
 | o::l,st=>(Oy τ Γ all o st).bind (Hj all l)
def IE:List Operand->List Nat
 | []=>[]
 | .tmp t::l=>t::IE l
 | _::l=>IE l
def B6 (all:Array Oper) (o:Oper):List Nat :=
 match o.guard with
 | some (j,_)=>match all[j]? with
  | some oj=>match oj.dst with
   | some d=>d::IE o.op.operands.toList
   | none=>IE o.op.operands.toList
  | none=>IE o.op.operands.toList
 | none=>IE o.op.operands.toList
def DF (n:Nat):List Nat->Bool
 | []=>false
 | m::l=>match Nat.beq m n with
  | true=>true
  | false=>DF n l
def CQ (rs:List Nat):Nat->List V->List V
 | _,[]=>[]
 | i,v::l=>(match DF i rs with
  | true=>v
  | false=>.und)::CQ rs (Nat.succ i) l
def CY (all:Array Oper) (o:Oper) (st:St):T V :=
 K2 all ⟨CQ (B6 all o) 0 st.t,st.h⟩ o (Gv τ Γ o ⟨CQ (B6 all o) 0 st.t,st.h⟩) (.leaf AH)
def G3 (all:Array Oper):List Oper->St->T St
 | [],st=>.leaf st
 | o::l,st=>(CY τ Γ all o st).bind λv=>G3 all l (put st o.dst v)
def HD:Nat->List Oper->Bool
 | _,[]=>true
 | i,o::l=>match o.after.toList.all (λe=>match Region.binds .any e with
   | true=>Nat.blt e.on i
   | false=>true) with
  | true=>HD (Nat.succ i) l
  | false=>false
def MH:List Oper->Bool
 | []=>true
 | o::l=>match o.dst with
  | some d=>match l.all (λo'=>match o'.dst with
    | some d'=>match Nat.beq d d' with
     | true=>false
     | false=>true
    | none=>true) with
   | true=>MH l
   | false=>false
  | none=>MH l
def Le (bf:Array Nat) (j:Nat) (rs:List Nat):Nat->List Oper->Bool
 | _,[]=>true
 | k,o::l=>match (match o.dst with
   | some d=>match DF d rs,Nat.beq k j with
    | true,false=>match Nat.blt k j with
     | true=>Nat.testBit (bf.getD j 0) k
     | false=>Nat.testBit (bf.getD k 0) j
    | true,true=>false
    | false,_=>true
   | none=>true) with
  | true=>Le bf j rs (Nat.succ k) l
  | false=>false
def Mb (all:Array Oper) (bf:Array Nat):Nat->List Oper->Bool
 | _,[]=>true
 | j,o::l=>match Le bf j (B6 all o) 0 all.toList with
  | true=>Mb all bf (Nat.succ j) l
  | false=>false
def Gj:List Oper->Nat
 | []=>0
 | o::l=>match o.op with
  | .store _ _ _=>0
  | .mapUpdate _ _ _ _ | .insert _ _ _ _=>0
  | _=>Nat.succ (Gj l)
def LP (bf:Array Nat):Nat->Nat->Bool
 | _,0=>true
 | k,n+1=>match (List.range k).all λj=>Nat.testBit (bf.getD k 0) j with
  | true=>LP bf (Nat.succ k) n
  | false=>false
def HG (bf:Array Nat):Nat->Nat
 | 0=>0
 | k+1=>match (List.range k).all λj=>Nat.testBit (bf.getD k 0) j with
  | true=>HG bf k
  | false=>Nat.succ k
def DX (ops:Array Oper):Nat:=match Nat.ble (HG (Region.before ops) ops.size) (Gj ops.toList) with
 | true=>HG (Region.before ops) ops.size
 | false=>Gj ops.toList
def AfQ (o:Oper):Bool :=
 match o.op with
 | .store _ _ _ | .mapUpdate _ _ _ _ | .insert _ _ _ _ | .buildSlice _ _ _ | .makeSlice _ _ _ | .makeMap _ _ | .alloc _ | .box _ _=>true
 | .call c=>match c.callee with
  | .builtin .append=>true
  | .value _=>match τ[o.type]? with
   | some ty=>match ty.k with
    | .sl _=>true
    | .gmap _ _=>true
    | .st _=>match HW τ o.type with
     | some _=>true
     | none=>false
    | _=>false
   | none=>false
  | _=>false
 | _=>false
def Md:List Oper->List Tmp
 | []=>[]
 | o::l=>match o.op with
  | .fieldAddr _ _ _ | .indexAddr _ _ _ | .nilCheck _=>match o.dst with
   | some d=>d::Md l
   | none=>Md l
  | _=>Md l
def Afr (ts:List Tmp) (o:Oper):Bool :=
 match o.op with
 | .call c=>match c.callee with
  | .value _=>c.args.toList.any λx=>match x with
   | .tmp t=>DF t ts
   | _=>false
  | _=>false
 | _=>false
def Of:List Oper->Bool
 | []=>false
 | o::l=>match o.op with
  | .extract _ _=>match τ[o.type]? with
   | some ty=>match ty.k with
    | .sl _=>true
    | .gmap _ _=>true
    | .st _=>match HW τ o.type with
     | some _=>true
     | none=>Of l
    | _=>Of l
   | none=>Of l
  | _=>Of l
def Aer (o:Oper):Bool :=
 match o.op with
 | .call c=>match c.callee,τ[o.type]? with
  | .value _,some ty=>match ty.k,ty.zero with
   | .other,.und=>true
   | _,_=>false
  | _,_=>false
 | _=>false
def Ve (ts:List Tmp) (b:Bool):List Oper->Nat
 | []=>0
 | o::l=>match AfQ τ o || Afr ts o || (b && Aer τ o) with
  | true=>0
  | false=>Nat.succ (Ve ts b l)
def Du (l:List Oper):Nat:=Ve τ (Md l) (Of τ l) l
def D2 (o:Oper):Bool :=
 match o.guard with
 | some _=>false
 | none=>match o.op with
  | .move _ | .fieldAddr _ _ _ | .indexAddr _ _ _ | .load _ _ | .nilCheck _ | .binOp _ _ _ _ _ | .build _ _=>match o.dst with
   | some _=>true
   | none=>false
  | _=>false
def NL (bf:Array Nat) (m:Nat):Nat->List Oper->List Nat
 | _,[]=>[]
 | i,o::l=>match Nat.ble m i,D2 o,(List.range i).all λj=>Nat.testBit (bf.getD i 0) j with
  | true,true,false=>i::NL bf m (Nat.succ i) l
  | _,_,_=>NL bf m (Nat.succ i) l
def Lt (bf:Array Nat) (m:Nat):List Nat->List Nat->List Nat
 | _,[]=>[]
 | ks,i::l=>match (List.range i).all λj=>!Nat.testBit (bf.getD i 0) j || (Nat.blt j m || DF j ks) with
  | true=>i::Lt bf m (i::ks) l
  | false=>Lt bf m ks l
def LM (bf:Array Nat) (m n:Nat) (ls:List Nat):Nat->List Oper->List Nat
 | _,[]=>[]
 | i,o::l=>match D2 o,(List.range n).all λj=>Nat.blt j m || DF j ls || Nat.testBit (bf.getD j 0) i with
  | true,false=>i::LM bf m n ls (Nat.succ i) l
  | _,_=>LM bf m n ls (Nat.succ i) l
def HA (all:Array Oper) (bf:Array Nat) (m:Nat) (lts:List Nat) (q:Nat) (oq:Oper):Nat->List Oper->Bool
 | _,[]=>true
 | j,o::l=>match Nat.beq j q || (Nat.blt j m && !DF j lts) || Nat.testBit (bf.getD q 0) j || ((o.after.toList.any (λe=>Region.binds .any e && Nat.beq e.on q) || Oper.apart all oq o) && (match o.dst with
    | some d=>!(oq.looksAt all).contains d || (!DF j lts && Nat.testBit (bf.getD j 0) q)
    | none=>true)) with
  | true=>HA all bf m lts q oq (Nat.succ j) l
  | false=>false
def DO (o:Oper):Bool :=
 match o.guard,o.dst with
 | none,some _=>match o.op with
  | .alloc t=>match τ[t]? with
   | some ty=>match ty.zero.cells with
    | some cs=>match Xs ty cs with
     | some _=>false
     | none=>true
    | none=>false
   | none=>false
  | .buildSlice t _ _=>match τ[t]? with
   | some ts=>match ts.k with
    | .sl e=>match τ[e]? with
     | some te=>match te.k with
      | .sl _=>false
      | _=>true
     | none=>false
    | _=>false
   | none=>false
  | _=>false
 | _,_=>false
def EP (o:Oper):Bool :=
 match o.guard,o.dst with
 | none,some _=>match o.op with
  | .extract _ _=>true
  | _=>false
 | _,_=>false
def Gi (o:Oper):Bool:=DO τ o || EP o
def Eh (vs:List Nat):List Nat->List Nat
 | []=>[]
 | q::l=>match DF q vs with
  | true=>Eh vs l
  | false=>q::Eh vs l
def VG (bf:Array Nat):List Nat->Bool
 | []=>true
 | i::l=>l.all (λj=>Nat.testBit (bf.getD j 0) i) && VG bf l
def Y6 (ops:Array Oper) (bf:Array Nat) (c:List Nat):List Nat->Nat
 | []=>ops.size
 | i::l=>match (match ops[i]? with
   | some o=>DO τ o
   | none=>false) && VG bf (Eh [i] c) with
  | true=>i
  | false=>Y6 ops bf c l
def AbD (bf:Array Nat) (p:Nat):List Nat->List Nat
 | []=>[p]
 | i::l=>match Nat.testBit (bf.getD i 0) p with
  | true=>p::i::l
  | false=>i::AbD bf p l
def Je (ops:Array Oper) (bf:Array Nat) (c:List Nat):List Nat->List Nat
 | []=>[]
 | i::l=>match (match ops[i]? with
   | some o=>Gi τ o
   | none=>false) && !(c.all λj=>Nat.beq i j || (Nat.testBit (bf.getD i 0) j || Nat.testBit (bf.getD j 0) i)) with
  | true=>i::Je ops bf c l
  | false=>Je ops bf c l
def AbE (bf:Array Nat):List Nat->List Nat->List Nat
 | [],c=>c
 | p::ps,c=>AbE bf ps (AbD bf p c)
def AbK (ops:Array Oper) (bf:Array Nat) (c:List Nat) (p:Nat):List Nat×List Nat :=
 match Nat.blt p ops.size with
 | true=>([p],AbD bf p (Eh [p] c))
 | false=>(Je τ ops bf c c,AbE bf (Je τ ops bf c c) (Eh (Je τ ops bf c c) c))
def AbJ (ops:Array Oper) (bf:Array Nat) (c:List Nat):List Nat×List Nat :=
 match VG bf c with
 | true=>([],c)
 | false=>AbK τ ops bf c (Y6 τ ops bf c c)
def KA (bf:Array Nat) (ps:List Nat):List Nat->Bool
 | []=>true
 | i::l=>(l.all (λj=>DF j ps || Nat.testBit (bf.getD j 0) i) && (i::l).all λj=>!Nat.testBit (bf.getD i 0) j) && (!DF i l && KA bf ps l)
def Aoc (ops:List Oper):Bool:=ops.all λo=>match o.op with
 | .select _ _=>false
 | _=>true
def Ff:Nat->List Nat->Bool
 | _,[]=>true
 | m,q::l=>match Nat.ble m q with
  | true=>Ff (Nat.succ q) l
  | false=>false
def SD (ops:Array Oper) (m:Nat) (es ls ps ord:List Nat):Bool :=
 (KA (Region.before ops) ps ord && ord.all λi=>Nat.ble m i && Nat.blt i ops.size && !DF i (es++ls) && (List.range m).all λj=>DF j (es++ls) || Nat.testBit ((Region.before ops).getD i 0) j) &&
 ((List.range ops.size).all λi=>Nat.blt i m || DF i (es++ls) || DF i ord) && (ps.all λp=>(match ops[p]? with
   | some o=>Gi τ o
   | none=>false) && ps.all λq=>!Nat.testBit ((Region.before ops).getD p 0) q) && (ls.all λi=>(List.range i).all λj=>!Nat.testBit ((Region.before ops).getD i 0) j || (Nat.blt j m || DF j (es++ls))) &&
 Aoc ops.toList && Ff 0 (es++ls) && Ff m ls && es.all (λq=>Nat.blt q m) && Nat.ble m ops.size && (es++ls).all λq=>match ops[q]? with
  | some oq=>D2 oq && HA ops (Region.before ops) m (es++ls) q oq 0 ops.toList && (match oq.dst with
   | some d=>!(oq.looksAt ops).contains d
   | none=>false)
  | none=>false
def C3 (bf:Array Nat) (i:Nat):List Nat->List Nat
 | []=>[]
 | q::l=>match Nat.testBit (bf.getD i 0) q with
  | true=>C3 bf i l
  | false=>q::C3 bf i l
def RZ:V->V->T Unit
 | .ptr a b,.ptr c d=>match Nat.beq a c,Nat.beq b d with
  | true,true=>.leaf ()
  | _,_=>.fail
 | .ref a,.ref b=>match Nat.beq a b with
  | true=>.leaf ()
  | false=>.fail
 | .jref a,.jref b=>match Nat.beq a b with
  | true=>.leaf ()
  | false=>.fail
 | .mref a i,.mref b i'=>match Nat.beq a b with
  | true=>.br (BY i i') (.leaf ()) .fail
  | false=>.fail
 | .mmap a i,.mmap b i'=>match Nat.beq a b with
  | true=>.br (BY i i') (.leaf ()) .fail
  | false=>.fail
 | .ept a s i o,.ept b s' i' o'=>match Nat.beq a b,Nat.beq s s',Nat.beq o o' with
  | true,true,true=>.br (BY i i') (.leaf ()) .fail
  | _,_,_=>.fail
 | .jept a s i o,.jept b s' i' o'=>match Nat.beq a b,Nat.beq s s',Nat.beq o o' with
  | true,true,true=>.br (BY i i') (.leaf ()) .fail
  | _,_,_=>.fail
 | .val (.int k a),.val (.int k' b)=>match WJ k k' with
  | true=>.br (ieq a b) (.leaf ()) .fail
  | false=>.fail
 | .val (.bool a),.val (.bool b)=>.br (JZ a b) (.leaf ()) .fail
 | .str a,.str b=>.br (seq a b) (.leaf ()) .fail
 | .nilS,.nilS=>.leaf ()
 | _,_=>.fail
def Wc:List V->List V->T Unit
 | [],[]=>.leaf ()
 | a::as0,b::bs=>(RZ a b).bind λ_=>Wc as0 bs
 | _,_=>.fail
def Ox:V->V->T Unit
 | .agg as0,.agg bs=>Wc as0 bs
 | a,b=>RZ a b
def Jz (all:Array Oper):List Nat->St->T St
 | [],st=>.leaf st
 | q::l,st=>match all[q]? with
  | some o=>(CY τ Γ all o st).bind λv=>Jz all l (put st o.dst v)
  | none=>.fail
def HU (all:Array Oper):List Nat->St->T Unit
 | [],_=>.leaf ()
 | q::l,st=>match all[q]? with
  | some o=>match o.dst with
   | some d=>(CY τ Γ all o st).bind λv=>(Ox v (nth st.t d)).bind λ_=>HU all l st
   | none=>.fail
  | none=>.fail
def AaA:V->Bool
 | .sl _ _ _=>true
 | .slr _ _ _ _=>true
 | .pp _=>true
 | _=>false
def Ahw:V->Bool
 | .agg cs=>cs.any AaA
 | v=>AaA v
def Gt (all:Array Oper) (st:St):List Nat->List Nat
 | []=>[]
 | q::l=>match all[q]? with
  | some o=>match o.dst with
   | some d=>match Ahw (nth st.t d) with
    | true=>q::Gt all st l
    | false=>Gt all st l
   | none=>Gt all st l
  | none=>Gt all st l
def Abm (st:St) (y:Operand):Option (Option Nat) :=
 match ev Γ st y with
 | .ptr id _=>match st.h[id]? with
  | some (.cells _)=>some (some id)
  | _=>none
 | .ept id _ _ _=>match st.h[id]? with
  | some (.row _ _ _ _)=>some (some id)
  | _=>none
 | .pp (.agg (_::_))=>some none
 | .jept id _ _ _=>match st.h[id]? with
  | some (.jag _)=>some (some id)
  | _=>none
 | _=>none
def Ng (all:Array Oper) (st:St) (q:Nat):Bool :=
 match all[q]? with
 | some oq=>match oq.op with
  | .move _=>true
  | .build _ _=>true
  | .indexAddr _ _ _=>true
  | .fieldAddr s _ f=>match Fh τ s f (.ptr 0 0) with
   | .leaf _=>true
   | _=>false
  | .load _ y=>match Abm Γ st y with
   | some _=>true
   | none=>false
  | _=>false
 | none=>false
def UZ (all:Array Oper) (o:Oper) (st:St) (q:Nat):Bool :=
 match o.op with
 | .store _ x _=>match ev Γ st x with
  | .ptr id _=>match st.h[id]? with
   | some (.cells _)=>match all[q]? with
    | some oq=>match oq.op with
     | .indexAddr _ _ _=>true
     | .load _ y=>match Abm Γ st y with
      | some (some id')=>match Nat.beq id id' with
       | true=>false
       | false=>true
      | some none=>true
      | none=>false
     | _=>false
    | none=>false
   | _=>false
  | _=>false
 | _=>false
def Va (all:Array Oper) (o:Oper) (st:St) (q:Nat):Bool :=
 match o.op with
 | .move _ | .assign _ | .build _ _=>true
 | .call _=>Ng τ Γ all st q
 | _=>match DO τ o with
  | true=>Ng τ Γ all st q
  | false=>UZ Γ all o st q
def AcJ (o:Oper) (st:St):List Nat->T Unit
 | []=>.leaf ()
 | _::_=>match o.op with
  | .call c=>match c.callee with
   | .value f=>match ev Γ st f with
    | .fn g caps=>(Γ.call g (args Γ st c.args.toList++caps) st).bind λr=>allT (AcH r.2)
    | _=>.fail
   | _=>.fail
  | _=>.leaf ()
def WP (all:Array Oper) (ql:List Nat) (p:Nat) (st:St):T Unit :=
 match all[p]? with
 | some o=>match o.dst with
  | some d=>match nth st.t d with
   | .und=>(allT (EP o || ql.all (Ng τ Γ all st))).bind λ_=>(allT (Nat.blt d st.t.length)).bind λ_=>(step τ Γ o st).bind λ_=>.leaf ()
   | _=>.fail
  | none=>.fail
 | none=>.fail
def NS (all:Array Oper) (bf:Array Nat) (ql il:List Nat):List Nat->St->T Unit
 | [],_=>.leaf ()
 | p::ps,st=>(match DF p il && il.all λj=>!Nat.testBit (bf.getD p 0) j with
   | true=>WP τ Γ all ql p st
   | false=>.leaf ()).bind λ_=>NS all bf ql il ps st
def IO (all:Array Oper) (bf:Array Nat) (lts vs ps:List Nat):List Nat->List Nat->St->T St
 | _,[],st=>.leaf st
 | ql,i::l,st=>match all[i]? with
  | some o=>(NS τ Γ all bf ql (i::l) ps st).bind λ_=>(allT ((C3 bf i vs).all (Va τ Γ all o st))).bind λ_=>(AcJ Γ o st (C3 bf i vs)).bind λ_=>(Oy τ Γ all o st).bind λst1=>(HU τ Γ all (C3 bf i lts) st1).bind λ_=>IO all bf lts vs ps (C3 bf i ql) l st1
  | none=>.fail
def DV (ops:Array Oper):Bool :=
 match HD 0 ops.toList,MH ops.toList with
 | true,true=>Mb ops (Region.before ops) 0 ops.toList
 | _,_=>false
end
def PH (ops:Array Oper) (p:Nat) (st:St):St :=
 match ops[p]? with
 | some o=>put st o.dst .und
 | none=>st
def It (ops:Array Oper):List Nat->St->St
 | [],st=>st
 | p::ps,st=>It ops ps (PH ops p st)
def Ls (τ:List Ty) (Γ:Cx0) (ops:Array Oper) (m:Nat) (lts ps ord vs:List Nat) (st:St):T (Ex×St) :=
 (allT (vs.isEmpty || (List.range m).all λi=>DF i lts)).bind λ_=>(HU τ Γ ops (Eh vs lts) st).bind λ_ =>
  (IO τ Γ ops (Region.before ops) (Eh vs lts) vs ps lts ord (It ops ps st)).bind λst=>.leaf (.nm,st)
def GW (τ:List Ty) (Γ:Cx0) (ops:Array Oper) (m:Nat) (es ls:List Nat) (po:List Nat×List Nat) (st:St):T (Ex×St) :=
 match SD τ ops m es ls po.1 po.2 with
 | true=>(G3 τ Γ ops (ops.toList.take m) st).bind λst=>(Jz τ Γ ops ls st).bind λst=>Ls τ Γ ops m (es++ls) po.1 po.2 (Gt ops st (es++ls)) st
 | false=>.fail
def E7 (τ:List Ty) (Γ:Cx0) (ops:Array Oper) (m:Nat) (es ls:List Nat) (st:St):T (Ex×St) :=
 GW τ Γ ops m es ls (AbJ τ ops (Region.before ops) (Eh (es++ls) ((List.range ops.size).drop m))) st
def SU (bf:Array Nat) (n:Nat):Nat->List Oper->List Nat
 | _,[]=>[]
 | i,o::l=>match D2 o,(List.range n).all λj=>Nat.beq j i || Nat.testBit (bf.getD i 0) j || Nat.testBit (bf.getD j 0) i with
  | true,false=>i::SU bf n (Nat.succ i) l
  | _,_=>SU bf n (Nat.succ i) l
def Pe (τ:List Ty) (ops:Array Oper) (m:Nat) (bf:Array Nat) (es ls:List Nat) (Γ:Cx0) (po:List Nat×List Nat) (st:St):T (Ex×St) :=
 match SD τ ops m es ls po.1 po.2 with
 | true=>(G3 τ Γ ops (ops.toList.take m) st).bind λst1=>(Jz τ Γ ops ls st1).bind λst2 =>
  match (Gt ops st2 (es++ls)).isEmpty || (List.range m).all λi=>DF i (es++ls) with
  | true=>Ls τ Γ ops m (es++ls) po.1 po.2 (Gt ops st2 (es++ls)) st2
  | false=>E7 τ Γ ops 0 [] (Lt bf 0 [] (SU bf ops.size 0 ops.toList)) st
 | false=>.fail
def Pd (τ:List Ty) (ops:Array Oper) (m:Nat) (bf:Array Nat) (es ls:List Nat) (Γ:Cx0) (st:St):T (Ex×St) :=
 Pe τ ops m bf es ls Γ (AbJ τ ops (Region.before ops) (Eh (es++ls) ((List.range ops.size).drop m))) st
def JA (τ:List Ty) (ops:Array Oper) (m:Nat) (bf:Array Nat) (ls:List Nat) (Γ:Cx0) (st:St):T (Ex×St) :=
 Pd τ ops m bf (LM bf m ops.size ls 0 (ops.toList.take m)) ls Γ st
def IL (o:Oper):Bool :=
 match o.op with
 | .assign _ | .pick _ _ _ | .unOp _ _ _=>true
 | _=>D2 { o with guard:=none }
def TW:Nat->List Oper->Option Nat
 | _,[]=>none
 | i,o::l=>match o.op with
  | .store _ _ _=>some i
  | _=>TW (Nat.succ i) l
def Qa (s:Nat):Nat->List Oper->Bool
 | _,[]=>true
 | i,o::l=>match Nat.beq i s || IL o with
  | true=>Qa s (Nat.succ i) l
  | false=>false
def OF (ops:Array Oper):Option Nat :=
 match TW 0 ops.toList with
 | some s=>match Qa s 0 ops.toList with
  | true=>some s
  | false=>none
 | none=>none
def J7 (rs:List Nat):List Oper->Bool
 | []=>true
 | o::l=>match o.dst with
  | some d=>match DF d rs with
   | true=>false
   | false=>J7 rs l
  | none=>J7 rs l
def Lb (τ:List Ty) (Γ:Cx0) (all:Array Oper) (s:Nat):Nat->List Oper->St->T St
 | _,[],st=>.leaf st
 | i,o::l,st=>match Nat.beq i s with
  | true=>Lb τ Γ all s (Nat.succ i) l (put st o.dst AH)
  | false=>(CY τ Γ all o st).bind λv=>Lb τ Γ all s (Nat.succ i) l (put st o.dst v)
def Fw (τ:List Ty) (Γ:Cx0) (ops:Array Oper) (s:Nat) (st:St):T (Ex×St) :=
 match ops[s]? with
 | some o=>match o.op,o.guard,o.dst with
  | .store t x y,none,none=>match ev Γ st x,J7 (B6 ops o) (ops.toList.drop (Nat.succ s)) with
   | .ptr id _,true=>(Lb τ Γ ops s 0 ops.toList ⟨st.t,st.h.set id .dead⟩).bind λst1 =>
    match ev Γ ⟨CQ (B6 ops o) 0 st1.t,[]⟩ x,st.h[id]?,(ev Γ ⟨CQ (B6 ops o) 0 st1.t,[]⟩ y).cells,τ[t]? with
    | .ptr id' off,some (.cells old),some cs,some ty=>match Nat.beq id' id,Nat.beq cs.length ty.size,Nat.ble (Nat.add off cs.length) old.length with
     | true,true,true=>.leaf (.nm,⟨st1.t,st.h.set id (.cells (Dp old off cs))⟩)
     | _,_,_=>.fail
    | _,_,_,_=>.fail
   | _,_=>.fail
  | _,_,_=>.fail
 | none=>.fail
section
variable (τ:List Ty) (Γ:Cx)
def AK:Code->Nat->St->T (Ex×St)
 | .skip,_,st=>.leaf (.nm,st)
 | .region _ ops draw,_,st=>match draw with
  | false=>(Hj τ Γ.base ops ops.toList st).bind λst=>.leaf (.nm,st)
  | true=>match DV ops with
   | true=>match Nat.beq (Du τ ops.toList) (Gj ops.toList) with
    | true=>match LP (Region.before ops) (DX ops) (Nat.sub ops.size (DX ops)) with
     | true=>(G3 τ Γ.base ops (ops.toList.take (DX ops)) st).bind λst=>(Hj τ Γ.base ops (ops.toList.drop (DX ops)) st).bind λst=>.leaf (.nm,st)
     | false=>match OF ops with
      | some s=>Fw τ Γ.base ops s st
      | none=>JA τ ops (Du τ ops.toList) (Region.before ops) (Lt (Region.before ops) (Du τ ops.toList) [] (NL (Region.before ops) (Du τ ops.toList) 0 ops.toList)) Γ.base st
    | false=>JA τ ops (Du τ ops.toList) (Region.before ops) (Lt (Region.before ops) (Du τ ops.toList) [] (NL (Region.before ops) (Du τ ops.toList) 0 ops.toList)) Γ.base st
   | false=>.fail
 | .seq a b,id,st=>(AK a id st).bind λr =>
  match r.1 with
  | .nm=>AK b id r.2
  | .ex j=>.leaf (.ex j,r.2)
  | .rt=>.leaf (.rt,r.2)
 | .cond c x y,id,st =>
  match ev Γ.base st c with
  | .val (.bool b)=>.br b (AK x id st) (AK y id st)
  | _=>.fail
 | .block i c,_,st=>(AK c i st).bind λr =>
  match r.1 with
  | .nm=>.leaf (.nm,r.2)
  | .ex j=>match Nat.beq j i with
   | true=>.leaf (.nm,r.2)
   | false=>.leaf (.ex j,r.2)
  | .rt=>.leaf (.rt,r.2)
 | .loop c,id,st=>Γ.loop id (λst=>AK c id st) st
 | .exit i,_,st=>.leaf (.ex i,st)
 | .ret,_,st=>.leaf (.rt,st)
 | _,_,_=>.fail
def Akf (st:St):ResultVar->Option V
 | .tmp t=>some (nth st.t t)
 | .cell a t=>match nth st.t a with
  | .ptr id off=>match st.h[id]? with
   | some (.cells cs)=>H7 τ t cs off
   | _=>none
  | _=>none
def Zz (st:St):List ResultVar->Option (List V)
 | []=>some []
 | r::l=>match Akf τ st r,Zz st l with
  | some a,some b=>some (a::b)
  | _,_=>none
def J1 (fn:Func) (st:St):Option V :=
 match Zz τ st fn.results.toList with
 | some [v]=>some v
 | some vs=>some (.tup vs)
 | none=>none
def Ib:V->List Nat
 | .agg cs=>refs cs
 | .tup cs=>refs cs
 | .fn _ cs=>refs cs
 | .ref id=>[id]
 | .jref id=>[id]
 | _=>[]
 where refs:List V->List Nat
 | []=>[]
 | v::vs=>Ib v++refs vs
def posN (id:Nat):List Nat->Nat->Option Nat
 | [],_=>none
 | k::l,i=>match Nat.beq k id with
  | true=>some i
  | false=>posN id l (Nat.succ i)
def QQ (ids:List Nat):V->V
 | .agg cs=>.agg (packs cs)
 | .tup cs=>.tup (packs cs)
 | .fn f cs=>.fn f (packs cs)
 | .ref id=>match posN id ids 0 with
  | some k=>.ref k
  | none=>.und
 | .jref id=>match posN id ids 0 with
  | some k=>.jref k
  | none=>.und
 | .ptr _ _=>.und
 | .ept _ _ _ _=>.und
 | .rct _ _=>.und
 | .jept _ _ _ _=>.und
 | .mref _ _=>.und
 | .mmap _ _=>.und
 | .mept _ _ _ _ _=>.und
 | v=>v
 where packs:List V->List V
 | []=>[]
 | v::vs=>QQ ids v::packs vs
def U0 (h:List Blk):List Nat->Option (List Blk)
 | []=>some []
 | id::l=>match h[id]?,U0 h l with
  | some (.row e s n g),some bs=>some (.row e s n g::bs)
  | some (.jag j),some bs=>some (.jag j::bs)
  | _,_=>none
def Kv:List Nat->Bool
 | []=>true
 | k::l=>match DF k l with
  | true=>false
  | false=>Kv l
def Z7 (v:V) (h:List Blk):Option (V×List Blk) :=
 match Kv (Ib v),U0 h (Ib v) with
 | true,some hr=>some (QQ (Ib v) v,hr)
 | _,_=>none
def Ay (t:T (V×List Blk)):T (V×List Blk):=t.bind λp=>T.ofOpt (Z7 p.1 p.2)
def Vz (F:List V->T (V×List Blk)) (vs:List V) (h:List Blk):T (V×List Blk) :=
 match Dx.lends h vs with
 | none=>.fail
 | some vs'=>(F vs').bind λp =>
  match free.frees vs with
  | true=>.leaf (shift h.length p.1,p.2)
  | false=>match MO p.1 with
   | false=>.fail
   | true=>match p.2 with
    | []=>.leaf (shift h.length p.1,[])
    | b::l=>.br (Ct (b::l)) (.leaf (shift h.length p.1,b::l)) .fail
def AdQ (F:List V->T (V×List Blk)) (vs:List V) (h:List Blk):T (V×List Blk) :=
 match WL h with
 | false=>Vz F vs h
 | true=>match free.frees vs with
  | true=>Vz F vs h
  | false=>.br (BP h) (Vz F vs h) .fail
def Lq {α:Type} (f:Nat):List (Nat×α)->Option α
 | []=>none
 | (k,x)::l=>match Nat.beq k f with
   | true=>some x
   | false=>Lq f l
def AhQ (t:T (V×List Blk)):T (V×Res):=t.bind λp=>.leaf (p.1,.more p.2)
def A2 (tbl:List (Nat×(List V->T (V×List Blk)))) (f:FuncId) (vs:List V) (st:St):T (V×Res) :=
 match Lq f tbl with
 | some F=>AhQ (AdQ F vs st.h)
 | none=>.fail
def AoL (tbl:List (Nat×V)) (g:Nat):V :=
 match Lq g tbl with
 | some v=>v
 | none=>.und
def Oe:Nat->List V
 | 0=>[]
 | n+1=>AH::Oe n
def Aj (fn:Func) (vs:List V) (h:List Blk):T (V×List Blk) :=
 match fn.body with
 | some c=>(AK τ Γ c 0 ⟨vs++Oe (Nat.sub fn.ntmps vs.length),h⟩).bind λr =>
  match r.1 with
  | .ex _=>.fail
  | .nm=>match J1 τ fn r.2 with
   | some v=>.leaf (v,r.2.h)
   | none=>.fail
  | .rt=>match J1 τ fn r.2 with
   | some v=>.leaf (v,r.2.h)
   | none=>.fail
 | none=>.fail
end
def Z5:List V:=[.tup []]
def Yt:List V->Bool
 | [.tup []]=>true
 | _=>false
def F8 (τ:List Ty) (Γ:Cx) (fn:Func) (vs:List V) (st:St):T (V×Res) :=
 (Aj τ Γ fn vs (st.h++[.saved st.t])).bind λp=>match p.2[st.h.length]? with
  | some (.saved t)=>match Yt t with
   | false=>.leaf (p.1,.all ⟨t,p.2.set st.h.length .dead⟩)
   | true=>.fail
  | _=>.fail
def Yf (h:List Blk):V->T (Nat×Nat×Nat×(Nat->V))
 | .ref id=>match h[id]? with
  | some (.row e s n g)=>.leaf (e,s,n,g)
  | _=>.fail
 | .mref id i=>match h[id]? with
  | some (.jag j)=>.br (j.live i) (.leaf (j.e',j.s',j.len i,j.mem i)) .fail
  | _=>.fail
 | _=>.fail
def G4:List Blk->List Blk
 | []=>[]
 | _::l=>.saved Z5::G4 l
def AbH (st:St) (q:Nat) (p:Nat×Nat×Nat×(Nat->V)):St:=⟨st.t.set q (.ref st.h.length),G4 st.h++[.xrow true p.1 p.2.1 p.2.2.1 p.2.2.2]⟩
def Mc:List Blk->List Blk->Bool
 | [],_=>true
 | _::l,.saved vs::h=>match Yt vs with
  | true=>Mc l h
  | false=>false
 | _::_,_=>false
def AcI (n:Nat) (v:V):V :=
 match MO v,PS n v with
 | true,true=>v
 | _,_=>.und
def SG (n:Nat):List V->List V
 | []=>[]
 | v::l=>AcI n v::SG n l
def I7 (it:List (Nat×(List V->St->T (V×Res)))) (call:FuncId->List V->St->T (V×Res)) (f:FuncId) (vs:List V) (st:St):T (V×Res) :=
 match Lq f it with
 | some I=>I vs st
 | none=>call f vs st
def KC (want:Nat):Code->Nat->Option Code
 | .seq a b,id=>match KC want a id with
  | some c=>some c
  | none=>KC want b id
 | .cond _ a b,id=>match KC want a id with
  | some c=>some c
  | none=>KC want b id
 | .block i c,_=>KC want c i
 | .loop c,id=>match Nat.beq id want with
  | true=>some c
  | false=>KC want c id
 | _,_=>none
def A3 (fn:Func) (want:Nat):Code :=
 match fn.body with
 | some c=>match KC want c 0 with
  | some c=>c
  | none=>.skip
 | none=>.skip
abbrev AA:=T (V×List Blk)
abbrev AE:=List (Nat×(List V->AA))
abbrev Ab:Nat->V:=λ_=>.und
abbrev Aq:=Nat->Option Value
abbrev LT:=Nat->(St->T (Ex×St))->St->T (Ex×St)
abbrev PT:=(St->T (Ex×St))->St->Bool
abbrev nV (n:Nat):V:=iV (Int.ofNat n)
def jsV:Nat->Nat->(Nat->V)->List (Nat×V)->List V
 | 0,_,_,_=>[]
 | n+1,i,j,[]=>j i::jsV n (Nat.succ i) j []
 | n+1,i,j,(k,v)::l=>match Nat.beq i k with
  | true=>v::jsV n (Nat.succ i) j l
  | false=>j i::jsV n (Nat.succ i) j ((k,v)::l)
def bmK:Nat->Nat->List Nat->List Bool
 | 0,_,_=>[]
 | n+1,i,[]=>false::bmK n (Nat.succ i) []
 | n+1,i,k::l=>match Nat.beq i k with
  | true=>true::bmK n (Nat.succ i) l
  | false=>false::bmK n (Nat.succ i) (k::l)
def bbK:Nat->Nat->List Bool
 | 0,_=>[]
 | n+1,v=>Nat.beq (v%2) 1::bbK n (v/2)
def lkU (m:Nat):List (Nat×V)->Nat->V
 | [],i=>match Nat.beq ((m>>>i)%2) 1 with
  | true=>.und
  | false=>AH
 | (k,v)::l,i=>match Nat.beq i k with
   | true=>v
   | false=>lkU m l i
def lkV (d:V):List (Nat×V)->Nat->V
 | [],_=>d
 | (k,v)::l,i=>match Nat.beq i k with
   | true=>v
   | false=>lkV d l i
end Go.Sy
