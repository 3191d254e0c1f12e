/-
  A symbolic big-step evaluator for the model's code, with no program in sight: values, decision trees, states, the evaluator. Its soundness is proved in the texts behind this one. No conditions.
-/
import Derived.Calls
import Derived.Laws.Entries
import Derived.OrdersHeld
namespace Go.Sy
def sel {α:Type} (b:Bool) (x y:α):α:=bif b then x else y
def wr (k:IntKind) (x:Int):Int:=k.wrap x
def Ai (a b:Int):Int:=a+b
def Bz (a b:Int):Int:=a-b
def Pi (a b:Int):Int:=a * b
def Ad9 (a b:Int):Int:=a.tdiv b
def Ay (a b:Int):Int:=a.tmod b
def Aqj (k:IntKind) (a b:Int):Int:=a * 2 ^ (min b.toNat k.bits)
def Aqi (k:IntKind) (a b:Int):Int:=a.fdiv (2 ^ (min b.toNat k.bits))
def YP (op:BinOp) (k:IntKind) (a b:Int):Int:=Go.bits op k a b
def ieq (a b:Int):Bool:=a == b
def ilt (a b:Int):Bool:=decide (a<b)
def ile (a b:Int):Bool:=decide (a <= b)
def toN (a:Int):Nat:=a.toNat
def Al (a b:Bool):Bool:=a && b
def bor (a b:Bool):Bool:=a || b
def AQ (a:Bool):Bool:=!a
def JR (a b:Bool):Bool:=a == b
def seq (a b:List UInt8):Bool:=a == b
def slt (a b:List UInt8):Bool:=Op.bytesLess a b
def BK (a b:List UInt8):List UInt8:=a++b
def Gv (n:Nat) (l:List UInt8):List UInt8:=l.drop n
def Gr (n:Nat) (l:List UInt8):List UInt8:=l.take n
def Bq (l:List UInt8):Nat:=l.length
def ER (l:List UInt8) (n:Nat):Int:=((l.getD n 0).toNat:Int)
def H6 (a b:List UInt8):Bool:=decide (a.length+b.length <= 9223372036854775807)
def nlt (a b:Nat):Bool:=decide (a<b)
def BN (a b:Nat):Bool:=Nat.beq a b
def Agx (a b:Nat):Bool:=Nat.blt a b
def AE (a b:Nat):Nat:=a+b
def IU (a b:Nat):Nat:=a-b
def Bs (n m bytes:Nat):Bool:=decide ((n+m) * bytes <= 140737488355328)
def Ej (x:Int):Bool:=decide (-9223372036854775808 <= x) && decide (x <= 9223372036854775807)
def EX (bytes:Nat) (l c:Int):Bool:=decide (0 <= l) && (decide (l <= c) && (decide ((bytes:Int) * c <= 281474976710656) && decide (c <= 9223372036854775807)))
inductive V where
 | val (v:Value)
 | str (l:List UInt8)
 | agg (cs:List V)
 | tup (vs:List V)
 | fn (f:FuncId) (caps:List V)
 | nilS
 | sl (size n:Nat) (get:Nat->V)
 | slr (size n m:Nat) (get:Nat->V)
 | pp (v:V)
 | ptr (id off:Nat)
 | ref (id:Nat)
 | ept (id size i off:Nat)
 | rct (id k:Nat)
 | jref (id:Nat)
 | jept (id size i off:Nat)
 | mref (id i:Nat)
 | mept (id i size k off:Nat)
 | mmap (id i:Nat)
 | anym
 | und
instance:Inhabited V:=⟨.und⟩
structure Mp where
 off:Nat
 t:TypeId
 live:Nat->Bool
 len:Nat->Nat
 hs:Nat->Int->Bool
 get:Nat->Int->Int
structure Jag where
 e:TypeId
 size:Nat
 n:Nat
 get:Nat->V
 off:Nat
 e':TypeId
 s':Nat
 live:Nat->Bool
 len:Nat->Nat
 mem:Nat->Nat->V
 mp:Option Mp
inductive Blk where
 | cells (cs:List V)
 | row (e:TypeId) (size n:Nat) (get:Nat->V)
 | imap (t:TypeId) (n:Nat) (get:Int->Int)
 | xrow (lk:Bool) (e:TypeId) (size n:Nat) (get:Nat->V)
 | jag (j:Jag)
 | saved (vs:List V)
 | dead
structure St where
 t:List V
 h:List Blk
inductive Ex where
 | nm
 | ex (id:Nat)
 | rt
inductive T (α:Type) where
 | leaf (a:α)
 | br (b:Bool) (x y:T α)
 | fail
 | ask (o:Option (Ex×St)) (k:Ex×St->T α)
def T.bind {α β:Type} (t:T α) (f:α->T β):T β :=
 match t with
 | .leaf a=>f a
 | .br b x y=>.br b (x.bind f) (y.bind f)
 | .fail=>.fail
 | .ask o k=>.ask o λr=>(k r).bind f
def T.sem {α:Type}:T α->Option α
 | .leaf a=>some a
 | .br b x y=>sel b x.sem y.sem
 | .fail=>none
 | .ask o k=>match o with
  | some r=>(k r).sem
  | none=>none
def T.ofOpt {α:Type}:Option α->T α
 | some a=>.leaf a
 | none=>.fail
def AK:V:=.val (.tuple #[])
def iV (n:Int):V:=.val (.int .i64 n)
def bV (b:Bool):V:=.val (.bool b)
def Nl:Value->V
 | .string s=>.str s.data.toList
 | .slice none 0 0=>.nilS
 | .agg _=>.und
 | .tuple _=>.und
 | v=>.val v
def ofValue:Value->V
 | .agg cs=>.agg (cs.toList.map Nl)
 | v=>Nl v
def JW:V->Bool
 | .agg _ | .val (.agg _) | .val (.tuple _) | .tup _ | .und=>false
 | _=>true
def RY:List V->Bool
 | []=>true
 | v::l=>match JW v with
  | true=>RY l
  | false=>false
def V.cells:V->Option (List V)
 | .agg cs=>match RY cs with
  | true=>some cs
  | false=>none
 | .val (.agg _) | .val (.tuple _) | .tup _ | .und=>none
 | v=>some [v]
inductive K where
 | bool
 | int (k:IntKind)
 | str
 | sl (e:Nat)
 | arr (n e:Nat)
 | st (fs:List (Nat×Nat))
 | imap (e:Nat)
 | other
structure Ty where
 k:K
 size:Nat
 bytes:Nat
 zero:V
 plain:Bool
def Su (P:Program):Nat->TypeId->Bool
 | 0,_=>false
 | d+1,t=>match P.underlying t with
  | some (.array _ e)=>Su P d e
  | some (.struct fs)=>fs.toList.all λf=>f.name != "_" && Su P d f.type
  | some (.int _) | some .bool | some .string=>true
  | _=>false
def GN (P:Program) (t:TypeId):Bool :=
 match P.underlying t with
 | some (.array _ e)=>Su P 3 e && !P.eqGuardType P.depth t
 | some (.struct fs)=>(fs.toList.all λf=>f.name != "_" && Su P 3 f.type) && !P.stoodInHeld t && !P.eqGuardType P.depth t
 | _=>false
def kOf (P:Program):TypeDesc->K
 | .bool=>.bool
 | .int k=>.int k
 | .string=>.str
 | .slice e=>.sl e
 | .array n e=>.arr n e
 | .struct fs=>.st (fs.toList.map λf=>(f.offset,f.type))
 | .map k e=>match P.underlying k,P.underlying e with
  | some (.int .i64),some (.int .i64)=>.imap e
  | _,_=>.other
 | _=>.other
def Abn (P:Program) (t:TypeId):Option Ty :=
 match P.info? t,P.underlying t with
 | some i,some d=>some { k:=kOf P d,size:=i.size,bytes:=i.bytes,zero:=match i.zero with | some z=>ofValue z | none=>.und,plain:=GN P t }
 | _,_=>none
section
variable (τ:List Ty)
def SY:K->Bool
 | .st _ | .arr _ _=>true
 | _=>false
def nth (l:List V) (n:Nat):V :=
 match l,n with
 | [],_=>.und
 | v::_,0=>v
 | _::l,n+1=>nth l n
def HF (t:TypeId) (cs:List V) (off:Nat):Option V :=
 match τ[t]? with
 | some ty =>
  match SY ty.k with
  | true=>match Nat.ble (Nat.add off ty.size) cs.length with
   | true=>some (.agg ((cs.drop off).take ty.size))
   | false=>none
  | false=>cs[off]?
 | none=>none
def Ew (t:TypeId) (v:V) (off:Nat):Option V :=
 match v.cells with
 | some cs=>HF τ t cs off
 | none=>none
def Ju (cs:List V) (off:Nat) (new:List V):List V:=cs.take off++(new++cs.drop (Nat.add off new.length))
def Ro (place:Nat->Option (Nat×Nat)) (cells:List V):List (Nat×V)->Option (List V)
 | []=>some cells
 | (i,v)::rest =>
   match place i,v.cells with
   | some (off,size),some cs =>
    match Nat.beq cs.length size,Nat.ble (Nat.add off size) cells.length with
    | true,true=>Ro place (Ju cells off cs) rest
    | _,_=>none
   | _,_=>none
def KZ (fs:List (Nat×Nat)):Option (List (Nat×Nat)) :=
 match fs with
 | []=>some []
 | f::fs=>match τ[f.2]?,KZ fs with
  | some ty,some l=>some ((f.1,ty.size)::l)
  | _,_=>none
def XB (t:TypeId) (parts:List (Nat×V)):Option V :=
 match τ[t]? with
 | some ty =>
  match ty.zero,ty.k with
  | .agg zero,.st fs =>
   match KZ τ fs with
   | some places=>match Ro (λi=>places[i]?) zero parts with
    | some cs=>some (.agg cs)
    | none=>none
   | none=>none
  | .agg zero,.arr _ e =>
   match τ[e]? with
   | some te=>match Ro (λi=>some (Nat.mul i te.size,te.size)) zero parts with
    | some cs=>some (.agg cs)
    | none=>none
   | none=>none
  | _,_=>none
 | none=>none
def Mo {α:Type} (i:Int) (f:Nat->T α):Nat->Nat->T α
 | 0,_=>.fail
 | n+1,k=>.br (ieq i (Int.ofNat k)) (f k) (Mo i f n (Nat.succ k))
def M1:Operand->Bool
 | .const _=>true
 | _=>false
def Xj:IntKind->IntKind->Bool
 | .i8,.i8 | .i16,.i16 | .i32,.i32 | .i64,.i64 | .u8,.u8 | .u16,.u16 | .u32,.u32 | .u64,.u64=>true
 | _,_=>false
def AdA:Int->Bool
 | .ofNat 0=>true
 | _=>false
def IY (i:Int) (n:Nat):Bool :=
 match i with
 | .ofNat k=>Nat.blt k n
 | _=>false
def Xt:K->V->V->Option Bool
 | .int _,.val (.int k a),.val (.int k' b)=>match Xj k k' with
  | true=>some (ieq a b)
  | false=>none
 | .bool,.val (.bool a),.val (.bool b)=>some (JR a b)
 | .str,.str a,.str b=>some (seq a b)
 | _,_,_=>none
def AdY (f:TypeId->V->V->Option Bool):List (Nat×Nat)->List V->List V->Option Bool
 | [],_,_=>some true
 | (off,t)::fs,as0,bs=>match HF τ t as0 off,HF τ t bs off with
   | some u,some v=>match f t u v,AdY f fs as0 bs with
    | some x,some y=>some (Al x y)
    | _,_=>none
   | _,_=>none
def Vv (f:V->V->Option Bool) (e:TypeId) (size:Nat) (as0 bs:List V):Nat->Nat->Option Bool
 | 0,_=>some true
 | m+1,i=>match HF τ e as0 (Nat.mul i size),HF τ e bs (Nat.mul i size) with
  | some u,some v=>match f u v,Vv f e size as0 bs m (Nat.succ i) with
   | some x,some y=>some (Al x y)
   | _,_=>none
  | _,_=>none
def eqV:Nat->TypeId->V->V->Option Bool
 | 0,_,_,_=>none
 | d+1,t,x,y=>match τ[t]? with
  | some ty=>match ty.k,x,y with
   | .arr n e,.agg as0,.agg bs=>match τ[e]? with
    | some te=>Vv τ (eqV d e) e te.size as0 bs n 0
    | none=>none
   | .st fs,.agg as0,.agg bs=>match ty.plain with
    | true=>AdY τ (eqV d) fs as0 bs
    | false=>none
   | k,x,y=>Xt k x y
  | none=>none
def AmH (op:BinOp) (t:TypeId) (lit:Bool):V->V->T V
 | .val (.int k a),.val (.int k' b) =>
  match op with
  | .shl=>.br (ile 0 b) (.leaf (.val (.int k (wr k (Aqj k a b))))) .fail
  | .shr=>.br (ile 0 b) (.leaf (.val (.int k (Aqi k a b)))) .fail
  | op =>
   match Xj k k' with
   | false=>.fail
   | true =>
   match op with
   | .add=>.leaf (.val (.int k (wr k (Ai a b))))
   | .sub=>.leaf (.val (.int k (wr k (Bz a b))))
   | .mul=>.leaf (.val (.int k (wr k (Pi a b))))
   | .quo=>match lit with
    | true=>match AdA b with
     | true=>.fail
     | false=>.leaf (.val (.int k (wr k (Ad9 a b))))
    | false=>.br (ieq b 0) .fail (.leaf (.val (.int k (wr k (Ad9 a b)))))
   | .rem=>match lit with
    | true=>match AdA b with
     | true=>.fail
     | false=>.leaf (.val (.int k (Ay a b)))
    | false=>.br (ieq b 0) .fail (.leaf (.val (.int k (Ay a b))))
   | .and=>.leaf (.val (.int k (YP .and k a b)))
   | .or=>.leaf (.val (.int k (YP .or k a b)))
   | .xor=>.leaf (.val (.int k (YP .xor k a b)))
   | .andNot=>.leaf (.val (.int k (YP .andNot k a b)))
   | .eql=>.leaf (bV (ieq a b))
   | .neq=>.leaf (bV (AQ (ieq a b)))
   | .lss=>.leaf (bV (ilt a b))
   | .leq=>.leaf (bV (ile a b))
   | .gtr=>.leaf (bV (ilt b a))
   | .geq=>.leaf (bV (ile b a))
   | _=>.fail
 | .val (.bool a),.val (.bool b) =>
  match τ[t]? with
  | some ty=>match op,ty.k with
   | .eql,.bool=>.leaf (bV (JR a b))
   | .neq,.bool=>.leaf (bV (AQ (JR a b)))
   | _,_=>.fail
  | none=>.fail
 | .str a,.str b =>
  match op with
  | .add=>.br (H6 a b) (.leaf (.str (BK a b))) .fail
  | .eql=>.leaf (bV (seq a b))
  | .neq=>.leaf (bV (AQ (seq a b)))
  | .lss=>.leaf (bV (slt a b))
  | .leq=>.leaf (bV (bor (slt a b) (seq a b)))
  | .gtr=>.leaf (bV (AQ (bor (slt a b) (seq a b))))
  | .geq=>.leaf (bV (AQ (slt a b)))
  | _=>.fail
 | .agg a,.agg b =>
  match τ[t]? with
  | some ty=>match ty.plain with
   | true=>match op,eqV τ 5 t (.agg a) (.agg b) with
    | .eql,some x=>.leaf (bV x)
    | .neq,some x=>.leaf (bV (AQ x))
    | _,_=>.fail
   | false=>.fail
  | none=>.fail
 | _,_=>.fail
def unV (op:UnOp):V->T V
 | .val (.int k a) =>
  match op with
  | .neg=>.leaf (.val (.int k (wr k (Bz 0 a))))
  | _=>.fail
 | .val (.bool b) =>
  match op with
  | .not=>.leaf (bV (AQ b))
  | _=>.fail
 | _=>.fail
def Aet (src dst:TypeId):V->T V
 | .val (.int _ a) =>
  match τ[src]?,τ[dst]? with
  | some _,some ty=>match ty.k with
   | .int k=>.leaf (.val (.int k (wr k a)))
   | _=>.fail
  | _,_=>.fail
 | .str l =>
  match τ[src]?,τ[dst]? with
  | some _,some ty=>match ty.k with
   | .str=>.leaf (.str l)
   | _=>.fail
  | _,_=>.fail
 | _=>.fail
end
def free:V->Bool
 | .agg cs=>frees cs
 | .tup cs=>frees cs
 | .fn _ cs=>frees cs
 | .ref _ | .ptr _ _ | .ept _ _ _ _ | .rct _ _=>false
 | .jref _ | .jept _ _ _ _ | .mref _ _ | .mept _ _ _ _ _ | .mmap _ _=>false
 | _=>true
 where frees:List V->Bool
 | []=>true
 | v::vs=>match free v with
  | true=>frees vs
  | false=>false
def YD (j:Jag) (i:Nat):V :=
 match j.size with
 | 1=>.sl j.s' (j.len i) (j.mem i)
 | _=>match j.get i with
  | .agg cs=>match j.mp with
   | none=>.agg (cs.set j.off (.sl j.s' (j.len i) (j.mem i)))
   | some q=>.agg ((cs.set j.off (.sl j.s' (j.len i) (j.mem i))).set q.off .anym)
  | _=>.und
def lend (h:List Blk):V->Option V
 | .agg cs=>match lends cs with
  | some l=>some (.agg l)
  | none=>none
 | .tup cs=>match lends cs with
  | some l=>some (.tup l)
  | none=>none
 | .fn f cs=>match lends cs with
  | some l=>some (.fn f l)
  | none=>none
 | .ref id=>match h[id]? with
  | some (.row _ s n g)=>some (.sl s n g)
  | _=>none
 | .nilS=>some (.sl 1 0 λ_=>.und)
 | .ptr id 0=>match h[id]? with
  | some (.cells cs)=>match free.frees cs with
   | true=>some (.pp (.agg cs))
   | false=>none
  | _=>none
 | .jref id=>match h[id]? with
  | some (.jag j)=>some (.sl j.size j.n (YD j))
  | _=>none
 | .mref id i=>match h[id]? with
  | some (.jag j)=>some (.sl j.s' (j.len i) (j.mem i))
  | _=>none
 | .mmap _ _=>some .anym
 | .ptr _ _ | .ept _ _ _ _ | .rct _ _ | .jept _ _ _ _ | .mept _ _ _ _ _ | .und=>none
 | v=>some v
 where lends:List V->Option (List V)
 | []=>some []
 | v::vs=>match lend h v,lends vs with
  | some a,some b=>some (a::b)
  | _,_=>none
def MJ:V->Bool
 | .agg cs=>bares cs
 | .tup cs=>bares cs
 | .fn _ cs=>bares cs
 | .sl _ _ _ | .slr _ _ _ _ | .pp _=>false
 | _=>true
 where bares:List V->Bool
 | []=>true
 | v::vs=>match MJ v with
  | true=>bares vs
  | false=>false
def Cj:List Blk->Bool
 | []=>true
 | .row _ _ n g::l=>(List.range n).all (λi=>MJ (g i)) && Cj l
 | .jag j::l=>(List.range j.n).all (λi=>MJ (j.get i) && (List.range (j.len i)).all λk=>MJ (j.mem i k)) && Cj l
 | _::_=>false
def BO:List Blk->Bool
 | []=>true
 | .jag j::l=>(List.range j.n).all j.live && BO l
 | _::l=>BO l
def Xk:List Blk->Bool
 | []=>false
 | .jag _::_=>true
 | _::l=>Xk l
def kill (id:Nat):V->V
 | .agg cs=>.agg (kills cs)
 | .tup cs=>.tup (kills cs)
 | .fn f cs=>.fn f (kills cs)
 | .ref k=>match Nat.beq k id with
  | true=>.und
  | false=>.ref k
 | .ept k s i o=>match Nat.beq k id with
  | true=>.und
  | false=>.ept k s i o
 | .rct k i=>match Nat.beq k id with
  | true=>.und
  | false=>.rct k i
 | .jref k=>match Nat.beq k id with
  | true=>.und
  | false=>.jref k
 | .jept k s i o=>match Nat.beq k id with
  | true=>.und
  | false=>.jept k s i o
 | .mref k i=>match Nat.beq k id with
  | true=>.und
  | false=>.mref k i
 | .mept k i s j o=>match Nat.beq k id with
  | true=>.und
  | false=>.mept k i s j o
 | .mmap k i=>match Nat.beq k id with
  | true=>.und
  | false=>.mmap k i
 | v=>v
 where kills:List V->List V
 | []=>[]
 | v::vs=>kill id v::kills vs
def EQ (id:Nat):Blk->Blk
 | .cells cs=>.cells (kill.kills id cs)
 | .saved vs=>.saved (kill.kills id vs)
 | b=>b
def Bg (id:Nat):List Blk->List Blk
 | []=>[]
 | b::l=>EQ id b::Bg id l
def killM (id:Nat):V->V
 | .agg cs=>.agg (kills cs)
 | .tup cs=>.tup (kills cs)
 | .fn f cs=>.fn f (kills cs)
 | .mref k i=>match Nat.beq k id with
  | true=>.und
  | false=>.mref k i
 | .mept k i s j o=>match Nat.beq k id with
  | true=>.und
  | false=>.mept k i s j o
 | .mmap k i=>match Nat.beq k id with
  | true=>.und
  | false=>.mmap k i
 | v=>v
 where kills:List V->List V
 | []=>[]
 | v::vs=>killM id v::kills vs
def EJ (id:Nat):Blk->Blk
 | .cells cs=>.cells (killM.kills id cs)
 | .saved vs=>.saved (killM.kills id vs)
 | b=>b
def BZ (id:Nat):List Blk->List Blk
 | []=>[]
 | b::l=>EJ id b::BZ id l
def St.kill (id:Nat) (st:St):St:=⟨Sy.kill.kills id st.t,Bg id st.h⟩
def shift (d:Nat):V->V
 | .agg cs=>.agg (shifts cs)
 | .tup cs=>.tup (shifts cs)
 | .fn f cs=>.fn f (shifts cs)
 | .ptr id o=>.ptr (Nat.add d id) o
 | .ref id=>.ref (Nat.add d id)
 | .ept id s i o=>.ept (Nat.add d id) s i o
 | .rct id k=>.rct (Nat.add d id) k
 | .jref id=>.jref (Nat.add d id)
 | .jept id s i o=>.jept (Nat.add d id) s i o
 | .mref id i=>.mref (Nat.add d id) i
 | .mept id i s k o=>.mept (Nat.add d id) i s k o
 | .mmap id i=>.mmap (Nat.add d id) i
 | v=>v
 where shifts:List V->List V
 | []=>[]
 | v::vs=>shift d v::shifts vs
def PO (n:Nat):V->Bool
 | .agg cs=>belows cs
 | .tup cs=>belows cs
 | .fn _ cs=>belows cs
 | .ref id=>Nat.blt id n
 | .ptr id _=>Nat.blt id n
 | .ept id _ _ _=>Nat.blt id n
 | .rct id _=>Nat.blt id n
 | .jref id=>Nat.blt id n
 | .jept id _ _ _=>Nat.blt id n
 | .mref id _=>Nat.blt id n
 | .mept id _ _ _ _=>Nat.blt id n
 | .mmap id _=>Nat.blt id n
 | _=>true
 where belows:List V->Bool
 | []=>true
 | v::vs=>match PO n v with
  | true=>belows vs
  | false=>false
def Tk (n:Nat) (v:V):V :=
 match PO n v with
 | true=>v
 | false=>.und
def CZ (n:Nat):List V->List V
 | []=>[]
 | v::l=>Tk n v::CZ n l
def Ix (n:Nat):Blk->Blk
 | .cells cs=>.cells (CZ n cs)
 | .saved vs=>.saved (CZ n vs)
 | b=>b
def Dx (n:Nat):List Blk->List Blk
 | []=>[]
 | b::l=>Ix n b::Dx n l
def Yy:List Bool->List V->List V
 | b::bs,v::l=>(match b with
  | true=>v
  | false=>.und)::Yy bs l
 | _,[]=>[]
 | [],v::l=>v::l
def HN (ks:List Bool) (n:Nat) (st:St):St:=⟨CZ n (Yy ks st.t),Dx n (st.h.take n)⟩
structure Lp where
 ks:List Bool
 n:Nat
 ke:List Bool
 ne:Nat
 fuel:Nat
def Av (f:St->T (Ex×St)) (l:Lp):Nat->St->T (Ex×St)
 | 0,_=>.fail
 | m+1,st=>(f st).bind λr=>match r.1 with
  | .nm=>Av f l m (HN l.ks l.n r.2)
  | .ex i=>.leaf (.ex i,HN l.ke l.ne r.2)
  | .rt=>.leaf (.rt,HN l.ke l.ne r.2)
inductive Res where
 | more (l:List Blk)
 | all (st:St)
def Ad3:Res->Bool
 | .more (.dead::_)=>false
 | .more _=>true
 | .all _=>false
def allT (b:Bool):T Unit :=
 match b with
 | true=>.leaf ()
 | false=>.fail
structure Cx0 where
 call:FuncId->List V->St->T (V×Res)
 glob:Nat->V
structure Cx where
 call:FuncId->List V->St->T (V×Res)
 loop:Nat->(St->T (Ex×St))->St->T (Ex×St)
 glob:Nat->V
def Cx.base (Γ:Cx):Cx0:=⟨Γ.call,Γ.glob⟩
def ev (Γ:Cx0) (st:St):Operand->V
 | .tmp t=>nth st.t t
 | .const v=>ofValue v
 | .global g=>Γ.glob g
 | .func f=>.fn f []
def put (st:St) (d:Option Tmp) (v:V):St :=
 match d with
 | some d=>⟨st.t.set d v,st.h⟩
 | none=>st
def cif (b:Bool) (u v:V):V:=bif b then u else v
def IZ (b:Bool) (u v:V):V :=
 match u,v with
 | .val (.int k x),.val (.int k' y)=>match Xj k k' with
  | true=>.val (.int k (sel b x y))
  | false=>cif b (.val (.int k x)) (.val (.int k' y))
 | .val (.bool x),.val (.bool y)=>.val (.bool (sel b x y))
 | .str l,.str l'=>.str (sel b l l')
 | u,v=>cif b u v
def Is (b:Bool):List V->List V->List V
 | u::us,v::vs=>IZ b u v::Is b us vs
 | _,_=>[]
def vif (b:Bool) (u v:V):V :=
 match u,v with
 | .agg us,.agg vs=>match Nat.beq us.length vs.length with
  | true=>.agg (Is b us vs)
  | false=>cif b (.agg us) (.agg vs)
 | u,v=>cif b u v
def AD (n:Nat) (g:Nat->V) (x:V):Nat->V:=λi=>vif (BN i n) x (g i)
def PS (n:Nat) (g g':Nat->V):Nat->V:=λi=>vif (Agx i n) (g i) (g' (i-n))
def Bn (n m:Nat) (gx g:Nat->V):Nat->V :=
 match m with
 | 1=>AD n gx (g 0)
 | _=>PS n gx g
def BD (g:Nat->V) (k:Nat) (x:V):Nat->V:=λi=>vif (BN i k) x (g i)
section
variable (τ:List Ty) (Γ:Cx0)
def Ea (st:St) (b:Blk) (v:Nat->V):T (V×St):=.leaf (v st.h.length,⟨st.t,st.h++[b]⟩)
def evs (st:St):List (Nat×Operand)->List (Nat×V)
 | []=>[]
 | (i,x)::l=>(i,ev Γ st x)::evs st l
def args (st:St):List Operand->List V
 | []=>[]
 | x::l=>ev Γ st x::args st l
def QN:List V->Nat->V
 | [],_=>.und
 | [v],_=>v
 | v::l,i=>IZ (BN i 0) v (QN l (IU i 1))
def Ah3:V->Bool
 | .val (.int .u8 _)=>true
 | _=>false
def Amq:V->Bool
 | .str _=>true
 | _=>false
def SQ (len:Nat) (els:List V):Bool :=
 match Nat.blt 1 len with
 | true=>match els.all Ah3 with
  | true=>true
  | false=>match Nat.blt 16 len with
   | true=>els.all Amq
   | false=>false
 | false=>false
def FL (len:Nat) (els:List V):Nat->V :=
 match SQ len els with
 | true=>λi=>QN els i
 | false=>λi=>nth els i
def Abi (b:Bool) (u v:V):V :=
 match u,v with
 | .agg us,.agg vs=>match Nat.beq us.length vs.length with
  | true=>.agg (Is b us vs)
  | false=>cif b (.agg us) (.agg vs)
 | u,v=>IZ b u v
def QO:List V->Nat->V
 | [],_=>.und
 | [v],_=>v
 | v::l,i=>Abi (BN i 0) v (QO l (IU i 1))
def O5 (f:Nat->Option V):Nat->Nat->Option (List V)
 | 0,_=>some []
 | m+1,k=>match f k,O5 f m (Nat.succ k) with
  | some v,some l=>some (v::l)
  | _,_=>none
def Ht:Nat->List (Nat×V)->Option (List V)
 | _,[]=>some []
 | k,(i,v)::l=>match Nat.beq i k,Ht (Nat.succ k) l with
  | true,some vs=>some (v::vs)
  | _,_=>none
def LC (size:Nat):List V->Bool
 | []=>true
 | v::l=>match v.cells with
  | some cs=>match Nat.beq cs.length size,free v with
   | true,true=>LC size l
   | _,_=>false
  | none=>false
def C2 (f:Nat->Bool) (k:Nat) (b:Bool):Nat->Bool:=λi=>sel (BN i k) b (f i)
def Dm (f:Nat->Nat) (k n:Nat):Nat->Nat:=λi=>sel (BN i k) n (f i)
def Dn (f:Nat->Nat->V) (k:Nat) (g:Nat->V):Nat->Nat->V:=λi j=>Abi (BN i k) (g j) (f i j)
def Js (st:St) (id i:Nat):T St :=
 match st.h[id]? with
 | some (.jag j)=>.br (j.live i) (.leaf ⟨killM.kills id st.t,(BZ id st.h).set id (.jag { j with live:=C2 j.live i false })++[.row j.e' j.s' (j.len i) (j.mem i)]⟩) .fail
 | _=>.fail
def U2 (st:St) (id i r:Nat):T St :=
 match st.h[id]?,st.h[r]? with
 | some (.jag j),some (.row e s n g)=>match Nat.beq e j.e',Nat.beq s j.s' with
  | true,true=>.br (nlt i j.n) (.leaf ⟨killM.kills id (kill.kills r st.t),((BZ id (Bg r st.h)).set r .dead).set id (.jag { j with live:=C2 j.live i true,len:=Dm j.len i n,mem:=Dn j.mem i g })⟩) .fail
  | _,_=>.fail
 | _,_=>.fail
def Ee {α:Type} (f:Nat->Int->α) (k:Nat) (g:Int->α):Nat->Int->α:=λi x=>sel (BN i k) (g x) (f i x)
def As4:Option Mp->Nat->Bool
 | none,_=>false
 | some q,off=>Nat.beq off q.off
def Ac3:Option Mp->Nat->Nat->Bool
 | none,_,_=>true
 | some q,off,n=>bor (Nat.ble (Nat.add off n) q.off) (Nat.blt q.off off)
def Acj (st:St) (id i r:Nat):T St :=
 match st.h[id]?,st.h[r]? with
 | some (.jag j),some (.imap t 0 _)=>match j.mp with
  | some q=>match Nat.beq t q.t with
   | true=>.br (nlt i j.n) (.leaf ⟨killM.kills id (kill.kills r st.t),((BZ id (Bg r st.h)).set r .dead).set id (.jag { j with mp:=some { q with live:=C2 q.live i true,len:=Dm q.len i 0,hs:=Ee q.hs i λ_=>false,get:=Ee q.get i λ_=>0 } })⟩) .fail
   | false=>.fail
  | none=>.fail
 | _,_=>.fail
def SO (st:St) (e:TypeId) (r:Nat):T (V×St) :=
 match st.h[r]? with
 | some (.row e' s' n g)=>.leaf (.jref st.h.length,⟨kill.kills r st.t,(Bg r st.h).set r .dead++[.jag ⟨e,1,1,λ_=>.und,0,e',s',λ_=>true,λ_=>n,λ_=>g,none⟩]⟩)
 | _=>.fail
def AdJ (ty:Ty) (e:TypeId) (st:St) (id id':Nat):T (V×St) :=
 match st.h[id]?,st.h[id']? with
 | some (.jag j),some (.jag y) =>
  match j.mp,y.mp with
  | none,none=>match Nat.beq j.e e,Nat.beq j.size y.size,Nat.beq j.off y.off,Nat.beq j.e' y.e',Nat.beq j.s' y.s',Nat.beq y.n 1,Nat.beq j.size ty.size,Nat.beq id id' with
   | true,true,true,true,true,true,true,false =>
    .br (y.live 0) (.br (Bs j.n 1 ty.bytes)
     (.leaf (.jref id,⟨kill.kills id (kill.kills id' st.t),((Bg id (Bg id' st.h)).set id' .dead).set id (.jag { j with n:=AE j.n 1,get:=AD j.n j.get (y.get 0),live:=C2 j.live j.n true,len:=Dm j.len j.n (y.len 0),mem:=Dn j.mem j.n (y.mem 0) })⟩)) .fail) .fail
   | _,_,_,_,_,_,_,_=>.fail
  | _,_=>.fail
 | _,_=>.fail
def Rl (ty:Ty) (e:TypeId) (st:St) (x:V) (m:Nat) (g:Nat->V):T (V×St) :=
 match x with
 | .ref id=>match st.h[id]? with
  | some (.row e' s n gx) =>
   match Nat.beq e e',Nat.beq s ty.size with
   | true,true =>
    .br (Bs n m ty.bytes)
     (.leaf (.ref id,⟨kill.kills id st.t,(Bg id st.h).set id (.row e s (AE n m) (Bn n m gx g))⟩)) .fail
   | _,_=>.fail
  | some (.xrow true e' s n gx) =>
   match Nat.beq e e',Nat.beq s ty.size with
   | true,true =>
    .br (Bs n m ty.bytes)
     (.leaf (.ref id,⟨kill.kills id st.t,(Bg id st.h).set id (.xrow true e s (AE n m) (Bn n m gx g))⟩)) .fail
   | _,_=>.fail
  | _=>.fail
 | _=>.fail
def YR (ty:Ty) (e:TypeId) (st:St) (x:V) (m:Nat) (g:Nat->V):T (V×St) :=
 match x with
 | .nilS=>Rl ty e ⟨st.t,st.h++[.row e ty.size 0 λ_=>.und]⟩ (.ref st.h.length) m g
 | .mref id i=>(Js st id i).bind λst1=>Rl ty e st1 (.ref st.h.length) m g
 | .rct id k=>match st.h[id]? with
  | some (.row e' s _ gx)=>Rl ty e ⟨kill.kills id st.t,(Bg id st.h).set id (.row e' s k gx)⟩ (.ref id) m g
  | _=>.fail
 | x=>Rl ty e st x m g
def TK (st:St) (t:TypeId) (x y:V):T (V×St) :=
 match τ[t]? with
 | some ts=>match ts.k with
  | .sl e =>
   match τ[e]? with
   | some ty =>
    match ty.zero.cells with
    | some zc =>
     match Nat.beq zc.length ty.size,Nat.blt 0 ty.size,Nat.blt 0 ty.bytes with
     | true,true,true =>
      match y with
      | .ref id'=>match st.h[id']? with
       | some (.row _ s' m g)=>match Nat.beq s' ty.size with
        | true=>YR ty e st x m g
        | false=>.fail
       | _=>.fail
      | .sl s' m g=>match Nat.beq s' ty.size with
       | true=>YR ty e st x m g
       | false=>.fail
      | .jref id'=>match x with
       | .jref id=>AdJ ty e st id id'
       | _=>.fail
      | _=>.fail
     | _,_,_=>.fail
    | none=>.fail
   | none=>.fail
  | _=>.fail
 | none=>.fail
def AeA (x:Int):UInt8:=UInt8.ofNat x.toNat
def Aev (st:St) (src dst:TypeId) (x:V):T V :=
 match x with
 | .ref id=>match τ[src]?,τ[dst]? with
  | some ts,some td=>match ts.k,td.k with
   | .sl e,.str=>match τ[e]?,st.h[id]? with
    | some te,some (.row _ 1 1 g)=>match te.k,g 0 with
     | .int .u8,.val (.int .u8 b)=>.leaf (.str [AeA b])
     | _,_=>.fail
    | _,_=>.fail
   | _,_=>.fail
  | _,_=>.fail
 | x=>Aet τ src dst x
def YI (j:Jag) (id i:Nat):V :=
 match j.size with
 | 1=>.mref id i
 | _=>match j.get i with
  | .agg cs=>match j.mp with
   | none=>.agg (cs.set j.off (.mref id i))
   | some q=>.agg ((cs.set j.off (.mref id i)).set q.off (.mmap id i))
  | _=>.und
def Adr (st:St) (t:TypeId):V->T V
 | .ptr id off=>match st.h[id]? with
  | some (.cells cs)=>match HF τ t cs off with
   | some v=>.leaf (v)
   | none=>.fail
  | _=>.fail
 | .pp v=>match Ew τ t v 0 with
  | some v=>.leaf (v)
  | none=>.fail
 | .ept id s i off=>match st.h[id]? with
  | some (.row _ s' n g)=>match Nat.beq s s',Ew τ t (g i) off with
   | true,some v=>.br (nlt i n) (.leaf (v)) .fail
   | _,_=>.fail
  | _=>.fail
 | .jept id s i off=>match st.h[id]? with
  | some (.jag j)=>match Nat.beq s j.size,Ew τ t (YI j id i) off with
   | true,some v=>.br (nlt i j.n) (.br (j.live i) (.leaf v) .fail) .fail
   | _,_=>.fail
  | _=>.fail
 | .mept id i s k off=>match st.h[id]? with
  | some (.jag j)=>match Nat.beq s j.s',Ew τ t (j.mem i k) off with
   | true,some v=>.br (j.live i) (.br (nlt k (j.len i)) (.leaf v) .fail) .fail
   | _,_=>.fail
  | _=>.fail
 | _=>.fail
def Eg (old:V) (off:Nat) (cs:List V):Option V :=
 match old with
 | .agg l=>match Nat.ble (Nat.add off cs.length) l.length with
  | true=>some (.agg (Ju l off cs))
  | false=>none
 | v=>match JW v,off,cs with
  | true,0,[x]=>some x
  | _,_,_=>none
def RS (st:St) (t:TypeId) (a x:V):T (V×St) :=
 match x.cells,τ[t]? with
 | some cs,some ty=>match Nat.beq cs.length ty.size with
  | true=>match a with
   | .ptr id off=>match st.h[id]? with
    | some (.cells old)=>match Nat.ble (Nat.add off cs.length) old.length with
     | true=>.leaf (AK,⟨st.t,st.h.set id (.cells (Ju old off cs))⟩)
     | false=>.fail
    | _=>.fail
   | .ept id s' i off=>match st.h[id]? with
    | some (.row e s n g)=>match Eg (g i) off cs,free.frees cs,Nat.beq s s' with
     | some v,true,true=>.br (nlt i n) (.leaf (AK,⟨st.t,st.h.set id (.row e s n (BD g i v))⟩)) .fail
     | _,_,_=>.fail
    | some (.xrow false e s n g)=>match Eg (g i) off cs,free.frees cs,Nat.beq s s' with
     | some v,true,true=>.br (nlt i n) (.leaf (AK,⟨st.t,st.h.set id (.xrow false e s n (BD g i v))⟩)) .fail
     | _,_,_=>.fail
    | _=>.fail
   | .jept id s' i off=>match st.h[id]? with
    | some (.jag j)=>match Nat.beq s' j.size with
     | true=>match Nat.beq off j.off,x with
      | true,.ref r=>(U2 st id i r).bind λst=>.leaf (AK,st)
      | true,.mref id2 i2=>(Js st id2 i2).bind λst1=>(U2 st1 id i st.h.length).bind λst=>.leaf (AK,st)
      | _,_=>match As4 j.mp off,x with
       | true,.ref r=>(Acj st id i r).bind λst=>.leaf (AK,st)
       | _,_=>match Eg (j.get i) off cs,free.frees cs,Al (bor (Nat.ble (Nat.add off cs.length) j.off) (Nat.blt j.off off)) (Ac3 j.mp off cs.length) with
        | some v,true,true=>.br (nlt i j.n) (.leaf (AK,⟨st.t,st.h.set id (.jag { j with get:=BD j.get i v })⟩)) .fail
        | _,_,_=>.fail
     | false=>.fail
    | _=>.fail
   | .mept id u s' i off=>match st.h[id]? with
    | some (.jag j)=>match Eg (j.mem u i) off cs,free.frees cs,Nat.beq s' j.s' with
     | some v,true,true=>.br (j.live u) (.br (nlt i (j.len u)) (.leaf (AK,⟨st.t,st.h.set id (.jag { j with mem:=Dn j.mem u (BD (j.mem u) i v) })⟩)) .fail) .fail
     | _,_,_=>.fail
    | _=>.fail
   | _=>.fail
  | false=>.fail
 | _,_=>.fail
def Wp (st:St) (t:TypeId) (x:V) (lo hi:Option V):T V :=
 match τ[t]? with
 | some ty =>
  match ty.k,x with
  | .str,.str l =>
   match lo,hi with
   | none,none=>.leaf (.str l)
   | some (.val (.int _ a)),none=>.br (Al (ile 0 a) (ile a (Int.ofNat (Bq l)))) (.leaf (.str (Gv (toN a) l))) .fail
   | none,some (.val (.int _ b))=>.br (Al (ile 0 b) (ile b (Int.ofNat (Bq l)))) (.leaf (.str (Gr (toN b) l))) .fail
   | some (.val (.int _ a)),some (.val (.int _ b)) =>
    .br (Al (ile 0 a) (Al (ile a b) (ile b (Int.ofNat (Bq l))))) (.leaf (.str (Gv (toN a) (Gr (toN b) l)))) .fail
   | _,_=>.fail
  | .sl e,.sl s n g =>
   match τ[e]? with
   | some te=>match Nat.beq s te.size with
    | true=>match lo,hi with
     | none,none=>.leaf (.sl s n g)
     | some (.val (.int _ a)),none=>.br (Al (ile 0 a) (ile a (Int.ofNat n))) (.leaf (.sl s (IU n (toN a)) λi=>g (AE (toN a) i))) .fail
     | none,some (.val (.int _ b))=>.br (Al (ile 0 b) (ile b (Int.ofNat n))) (.leaf (.sl s (toN b) g)) .fail
     | some (.val (.int _ a)),some (.val (.int _ b)) =>
      .br (Al (ile 0 a) (Al (ile a b) (ile b (Int.ofNat n)))) (.leaf (.sl s (IU (toN b) (toN a)) λi=>g (AE (toN a) i))) .fail
     | _,_=>.fail
    | false=>.fail
   | none=>.fail
  | .sl e,.slr s _ m g =>
   match τ[e]? with
   | some te=>match Nat.beq s te.size with
    | true=>match lo,hi with
     | none,some (.val (.int _ b))=>.br (Al (ile 0 b) (ile b (Int.ofNat m))) (.leaf (.sl s (toN b) g)) .fail
     | _,_=>.fail
    | false=>.fail
   | none=>.fail
  | .sl e,.ref id=>match st.h[id]? with
   | some (.row _ s n _)=>match τ[e]? with
    | some te=>match Nat.beq s te.size with
     | true=>match lo,hi with
      | none,some (.val (.int _ b))=>.br (Al (ile 0 b) (ile b (Int.ofNat n))) (.leaf (.rct id (toN b))) .fail
      | _,_=>.fail
     | false=>.fail
    | none=>.fail
   | _=>.fail
  | _,_=>.fail
 | none=>.fail
def Kt (st:St) (t:TypeId) (lit:Bool) (x ix:V):T V :=
 match ix,τ[t]? with
 | .val (.int _ i),some ty =>
  match ty.k with
  | .sl e=>match τ[e]? with
   | some te=>match x with
    | .sl s n g=>match Nat.beq s te.size with
     | true=>.br (Al (ile 0 i) (ilt i (Int.ofNat n))) (.leaf (.pp (g (toN i)))) .fail
     | false=>.fail
    | .rct id k=>match st.h[id]? with
     | some (.row _ s _ _)=>match Nat.beq s te.size with
      | true=>.br (Al (ile 0 i) (ilt i (Int.ofNat k))) (.leaf (.ept id s (toN i) 0)) .fail
      | false=>.fail
     | _=>.fail
    | .ref id=>match st.h[id]? with
     | some (.row _ s n _)=>match Nat.beq s te.size with
      | true=>.br (Al (ile 0 i) (ilt i (Int.ofNat n))) (.leaf (.ept id s (toN i) 0)) .fail
      | false=>.fail
     | some (.xrow false _ s n _)=>match Nat.beq s te.size with
      | true=>.br (Al (ile 0 i) (ilt i (Int.ofNat n))) (.leaf (.ept id s (toN i) 0)) .fail
      | false=>.fail
     | _=>.fail
    | .jref id=>match st.h[id]? with
     | some (.jag j)=>match Nat.beq j.size te.size with
      | true=>.br (Al (ile 0 i) (ilt i (Int.ofNat j.n))) (.leaf (.jept id j.size (toN i) 0)) .fail
      | false=>.fail
     | _=>.fail
    | .mref id k=>match st.h[id]? with
     | some (.jag j)=>match Nat.beq j.s' te.size with
      | true=>.br (j.live k) (.br (Al (ile 0 i) (ilt i (Int.ofNat (j.len k)))) (.leaf (.mept id k j.s' (toN i) 0)) .fail) .fail
      | false=>.fail
     | _=>.fail
    | _=>.fail
   | none=>.fail
  | .arr len e=>match τ[e]? with
   | some te=>match x with
    | .ptr id off=>match lit with
     | true=>match IY i len with
      | true=>.leaf (.ptr id (Nat.add off (Nat.mul i.toNat te.size)))
      | false=>.fail
     | false=>Mo i (λk=>.leaf (.ptr id (Nat.add off (Nat.mul k te.size)))) len 0
    | .pp v=>match lit with
     | true=>match IY i len with
      | true=>match Ew τ e v (Nat.mul i.toNat te.size) with
       | some v=>.leaf (.pp v)
       | none=>.fail
      | false=>.fail
     | false=>match Nat.blt 16 len,O5 (λk=>Ew τ e v (Nat.mul k te.size)) len 0 with
      | true,some ps=>.br (Al (ile 0 i) (ilt i (Int.ofNat len))) (.leaf (.pp (QO ps (toN i)))) .fail
      | _,_=>Mo i (λk=>match Ew τ e v (Nat.mul k te.size) with
       | some v=>.leaf (.pp v)
       | none=>.fail) len 0
    | .ept id s 0 0=>match st.h[id]? with
     | some (.row _ s' n _)=>match Nat.beq s s',Nat.beq s te.size,Nat.beq n len with
      | true,true,true=>.br (Al (ile 0 i) (ilt i (Int.ofNat n))) (.leaf (.ept id s (toN i) 0)) .fail
      | _,_,_=>.fail
     | _=>.fail
    | _=>.fail
   | none=>.fail
  | _=>.fail
 | _,_=>.fail
def Xh (t:TypeId) (lit:Bool) (x ix:V):T V :=
 match ix,τ[t]? with
 | .val (.int _ i),some ty =>
  match ty.k,x with
  | .str,.str l=>.br (Al (ile 0 i) (ilt i (Int.ofNat (Bq l)))) (.leaf (.val (.int .u8 (ER l (toN i))))) .fail
  | .arr len e,.agg cs=>match τ[e]? with
   | some te=>match lit with
    | true=>match IY i len with
     | true=>T.ofOpt (HF τ e cs (Nat.mul i.toNat te.size))
     | false=>.fail
    | false=>Mo i (λk=>T.ofOpt (HF τ e cs (Nat.mul k te.size))) len 0
   | none=>.fail
  | _,_=>.fail
 | _,_=>.fail
def Aml (st:St) (t:TypeId) (x:V):T V :=
 match τ[t]? with
 | some ty =>
  match ty.k,x with
  | .str,.str l=>.leaf (iV (Int.ofNat (Bq l)))
  | .sl _,.sl _ n _=>.leaf (iV (Int.ofNat n))
  | .sl _,.nilS=>.leaf (iV 0)
  | .sl _,.rct _ k=>.leaf (iV (Int.ofNat k))
  | .sl _,.ref id=>match st.h[id]? with
   | some (.row _ _ n _)=>.leaf (iV (Int.ofNat n))
   | some (.xrow _ _ _ n _)=>.leaf (iV (Int.ofNat n))
   | _=>.fail
  | .sl _,.jref id=>match st.h[id]? with
   | some (.jag j)=>.leaf (iV (Int.ofNat j.n))
   | _=>.fail
  | .sl _,.mref id i=>match st.h[id]? with
   | some (.jag j)=>.br (j.live i) (.leaf (iV (Int.ofNat (j.len i)))) .fail
   | _=>.fail
  | .arr n _,_=>.leaf (iV (Int.ofNat n))
  | .imap _,.mmap id i=>match st.h[id]? with
   | some (.jag j)=>match j.mp with
    | some q=>.br (nlt i j.n) (.br (q.live i) (.leaf (iV (Int.ofNat (q.len i)))) .fail) .fail
    | none=>.fail
   | _=>.fail
  | _,_=>.fail
 | none=>.fail
def IR:List (Nat×Nat)->Option (Nat×Nat×Nat)
 | []=>none
 | (off,t)::l=>match τ[t]? with
   | some ty=>match ty.k with
    | .sl e=>match τ[e]? with
     | some te=>match Nat.blt 0 te.size with
      | true=>some (off,e,te.size)
      | false=>IR l
     | none=>IR l
    | _=>IR l
   | none=>IR l
def Hf:List (Nat×Nat)->Option (Nat×Nat×Nat)
 | []=>none
 | (off,t)::l=>match τ[t]? with
   | some ty=>match ty.k with
    | .sl e=>match τ[e]? with
     | some te=>match Nat.blt 0 te.size with
      | true=>some (off,e,te.size)
      | false=>Hf l
     | none=>Hf l
    | .st fs=>match IR τ fs with
     | some (o,e,s)=>some (Nat.add off o,e,s)
     | none=>Hf l
    | _=>Hf l
   | none=>Hf l
def IQ (e:TypeId):Option (Nat×Nat×Nat) :=
 match τ[e]? with
 | some ty=>match ty.k with
  | .sl _=>Hf τ [(0,e)]
  | .st fs=>Hf τ fs
  | _=>none
 | none=>none
def OK (st:St) (t:TypeId) (v:V):T (V×St) :=
 match v with
 | .nilS=>match τ[t]? with
  | some ty=>match ty.k with
   | .sl e=>match τ[e]? with
    | some te=>match Nat.blt 0 te.size with
     | true=>match te.k with
      | .sl _=>match IQ τ e with
       | some (off,e',s')=>Ea st (.jag ⟨e,te.size,0,λ_=>.und,off,e',s',λ_=>true,λ_=>0,λ_ _=>.und,none⟩) .jref
       | none=>.leaf (.nilS,st)
      | _=>Ea st (.row e te.size 0 λ_=>.und) .ref
     | false=>.leaf (.nilS,st)
    | none=>.leaf (.nilS,st)
   | _=>.leaf (.nilS,st)
  | none=>.leaf (.nilS,st)
 | v=>.leaf (v,st)
def NV:List (Nat×Nat)->St->List V->T (List V×St)
 | [],st,cs=>.leaf (cs,st)
 | (off,t)::l,st,cs=>match cs[off]? with
   | some .nilS=>(OK τ st t .nilS).bind λr=>NV l r.2 (cs.set off r.1)
   | _=>NV l st cs
def upV (st:St) (t:TypeId) (v:V):T (V×St) :=
 match v with
 | .nilS=>OK τ st t .nilS
 | .agg cs=>match τ[t]? with
  | some ty=>match ty.k with
   | .st fs=>(NV τ fs st cs).bind λr=>.leaf (.agg r.1,r.2)
   | _=>.leaf (.agg cs,st)
  | none=>.leaf (.agg cs,st)
 | v=>.leaf (v,st)
def UI:List (Nat×Nat)->List V->Nat->Option Mp
 | [],_,_=>none
 | (o,t)::l,zc,off=>match τ[t]? with
   | some ty=>match ty.k,zc[o]?,Nat.beq o off with
    | .imap _,some (.val (.map none)),false=>some ⟨o,t,λ_=>false,λ_=>0,λ_ _=>false,λ_ _=>0⟩
    | _,_,_=>UI l zc off
   | none=>UI l zc off
def Iq (te:Ty) (zc:List V) (off:Nat):Option Mp :=
 match te.k with
 | .st fs=>UI τ fs zc off
 | _=>none
def AcD (st:St) (t:TypeId) (l c:V):T (V×St) :=
 match l,c,τ[t]? with
 | .val (.int .i64 l),.val (.int .i64 c),some ty=>match ty.k with
  | .sl e=>match τ[e]? with
   | some te=>match te.zero.cells with
    | some zc=>match Nat.beq zc.length te.size,Nat.blt 0 te.size with
     | true,true=>match IQ τ e with
      | some (off,e',s')=>match zc[off]? with
       | some .nilS=>.br (EX te.bytes l c) (Ea st (.jag ⟨e,te.size,toN l,λ_=>te.zero,off,e',s',λ_=>true,λ_=>0,λ_ _=>.und,Iq τ te zc off⟩) .jref) .fail
       | _=>.fail
      | none =>
      .br (EX te.bytes l c)
       (Ea st (.row e te.size (toN l) λ_=>te.zero) .ref) .fail
     | _,_=>.fail
    | none=>.fail
   | none=>.fail
  | _=>.fail
 | _,_,_=>.fail
def OL (st:St) (t:TypeId):T (V×St) :=
 match τ[t]? with
 | some ty=>match ty.k with
  | .imap _=>Ea st (.imap t 0 λ_=>0) .ref
  | _=>.fail
 | none=>.fail
def Hj (get:Int->Int) (k v:Int):Int->Int:=λx=>sel (ieq x k) v (get x)
def TS (e:TypeId):Bool :=
 match τ[e]? with
 | some te=>match te.zero with
  | .val (.int .i64 (.ofNat 0))=>true
  | _=>false
 | none=>false
def SJ (st:St) (t:TypeId) (m x:V):T V :=
 match τ[t]? with
 | some ty=>match ty.k,m,x with
  | .imap e,.ref id,.val (.int .i64 k)=>match st.h[id]?,TS τ e with
   | some (.imap t' _ get),true=>match Nat.beq t t' with
    | true=>.br (Ej k) (.leaf (.val (.int .i64 (get k)))) .fail
    | false=>.fail
   | _,_=>.fail
  | .imap e,.mmap id i,.val (.int .i64 k)=>match st.h[id]?,TS τ e with
   | some (.jag j),true=>match j.mp with
    | some q=>match Nat.beq t q.t with
     | true=>.br (q.live i) (.br (Ej k) (.leaf (.val (.int .i64 (q.get i k)))) .fail) .fail
     | false=>.fail
    | none=>.fail
   | _,_=>.fail
  | _,_,_=>.fail
 | none=>.fail
def SK (st:St) (t:TypeId) (m x:V):T V :=
 match τ[t]? with
 | some ty=>match ty.k,m,x with
  | .imap e,.mmap id i,.val (.int .i64 k)=>match st.h[id]?,TS τ e with
   | some (.jag j),true=>match j.mp with
    | some q=>match Nat.beq t q.t with
     | true=>.br (q.live i) (.br (Ej k) (.leaf (.tup [.val (.int .i64 (q.get i k)),bV (q.hs i k)])) .fail) .fail
     | false=>.fail
    | none=>.fail
   | _,_=>.fail
  | _,_,_=>.fail
 | none=>.fail
def SD (st:St) (t:TypeId) (m x v:V):T (V×St) :=
 match τ[t]? with
 | some ty=>match ty.k,m,x,v with
  | .imap _,.ref id,.val (.int .i64 k),.val (.int .i64 y)=>match st.h[id]? with
   | some (.imap t' n get)=>match Nat.beq t t' with
    | true=>.br (nlt n 4611686018427387904) (.br (Ej k) (.br (Ej y) (.leaf (AK,⟨st.t,st.h.set id (.imap t (AE n 1) (Hj get k y))⟩)) .fail) .fail) .fail
    | false=>.fail
   | _=>.fail
  | .imap _,.mmap id i,.val (.int .i64 k),.val (.int .i64 y)=>match st.h[id]? with
   | some (.jag j)=>match j.mp with
    | some q=>match Nat.beq t q.t with
     | true=>.br (nlt i j.n) (.br (q.live i) (.br (nlt (q.len i) 4611686018427387904) (.br (Ej k) (.br (Ej y) (.leaf (AK,⟨st.t,st.h.set id (.jag { j with mp:=some { q with len:=Dm q.len i (sel (q.hs i k) (q.len i) (AE (q.len i) 1)),hs:=Ee q.hs i λx=>sel (ieq x k) true (q.hs i x),get:=Ee q.get i (Hj (q.get i) k y) } })⟩)) .fail) .fail) .fail) .fail) .fail
     | false=>.fail
    | none=>.fail
   | _=>.fail
  | _,_,_,_=>.fail
 | none=>.fail
def AiT (t:TypeId):Bool:=match τ[t]? with
 | some ty=>match ty.k with
  | .imap _=>true
  | _=>false
 | none=>false
def AmI (st:St) (op:BinOp) (t:TypeId) (lit:Bool) (x y:V):T V :=
 match x,y with
 | .mmap id i,.val (.map none)=>match st.h[id]? with
  | some (.jag j)=>match j.mp,AiT τ t with
   | some q,true=>match op with
    | .eql=>.leaf (bV (AQ (q.live i)))
    | .neq=>.leaf (bV (q.live i))
    | _=>.fail
   | _,_=>.fail
  | _=>.fail
 | x,y=>AmH τ op t lit x y
def Fb (s:TypeId) (f:Nat) (x:V):T V :=
 match τ[s]? with
 | some ty=>match ty.k with
  | .st fs=>match fs[f]? with
   | some (off,ft)=>match τ[ft]? with
    | some te=>match Nat.blt 0 te.size with
     | true=>match x with
      | .ptr id o=>.leaf (.ptr id (Nat.add o off))
      | .ept id s i o=>.leaf (.ept id s i (Nat.add o off))
      | .jept id s i o=>.leaf (.jept id s i (Nat.add o off))
      | .mept id i s k o=>.leaf (.mept id i s k (Nat.add o off))
      | .pp v=>match Ew τ ft v off with
       | some v=>.leaf (.pp v)
       | none=>.fail
      | _=>.fail
     | false=>.fail
    | none=>.fail
   | none=>.fail
  | _=>.fail
 | none=>.fail
def Xq (s:TypeId) (f:Nat) (x:V):T V :=
 match τ[s]? with
 | some ty=>match ty.k,x with
  | .st fs,.agg cs=>match fs[f]? with
   | some (off,ft)=>T.ofOpt (HF τ ft cs off)
   | none=>.fail
  | _,_=>.fail
 | none=>.fail
def keep (st:St) (t:T V):T (V×St):=t.bind λv=>.leaf (v,st)
def KP (o:Oper) (st:St):T V :=
 match o.op with
 | .move x | .assign x =>
  match ev Γ st x with
  | .nilS=>.fail
  | v=>.leaf v
 | .pick c a b =>
  match ev Γ st c with
  | .val (.bool c)=>.br c (.leaf (ev Γ st a)) (.leaf (ev Γ st b))
  | _=>.fail
 | .build t parts=>T.ofOpt (XB τ t (evs Γ st parts.toList))
 | .load t a=>Adr τ st t (ev Γ st a)
 | .nilCheck x =>
  match ev Γ st x with
  | .ptr id o=>.leaf (.ptr id o)
  | .ept id s i o=>.leaf (.ept id s i o)
  | .jept id s i o=>.leaf (.jept id s i o)
  | .mept id i s k o=>.leaf (.mept id i s k o)
  | .pp v=>.leaf (.pp v)
  | .fn f cs=>.leaf (.fn f cs)
  | _=>.fail
 | .binOp op t x y _=>AmI τ st op t (M1 y) (ev Γ st x) (ev Γ st y)
 | .unOp op _ x=>unV op (ev Γ st x)
 | .convert src dst x=>Aev τ st src dst (ev Γ st x)
 | .makeFunc (.func f) first captured=>match Nat.beq first.size 0 with
  | true=>.leaf (.fn f (args Γ st captured.toList))
  | false=>.fail
 | .slice t x lo hi none=>Wp τ st t (ev Γ st x) (lo.map (ev Γ st)) (hi.map (ev Γ st))
 | .fieldAddr s x f=>Fb τ s f (ev Γ st x)
 | .field s x f=>Xq τ s f (ev Γ st x)
 | .indexAddr t x ix=>Kt τ st t (M1 ix) (ev Γ st x) (ev Γ st ix)
 | .lookup t m x false=>SJ τ st t (ev Γ st m) (ev Γ st x)
 | .lookup t m x true=>SK τ st t (ev Γ st m) (ev Γ st x)
 | .index t x ix=>Xh τ t (M1 ix) (ev Γ st x) (ev Γ st ix)
 | .extract x i =>
  match ev Γ st x with
  | .tup vs=>T.ofOpt vs[i]?
  | _=>.fail
 | .call c =>
  match c.callee with
  | .value f =>
   match ev Γ st f with
   | .fn g caps=>(Γ.call g (args Γ st c.args.toList++caps) st).bind λr=>match r.2 with
    | .more []=>.leaf r.1
    | _=>.fail
   | _=>.fail
  | .builtin .len =>
   match args Γ st c.args.toList,c.argTypes.toList with
   | [x],[t]=>Aml τ st t x
   | _,_=>.fail
  | .builtin .min =>
   match args Γ st c.args.toList with
   | [.val (.int k x),.val (.int _ y)]=>.leaf (.val (.int k (sel (ilt y x) y x)))
   | [.val (.int k x),.val (.int _ y),.val (.int _ z)]=>.leaf (.val (.int k (sel (ilt z (sel (ilt y x) y x)) z (sel (ilt y x) y x))))
   | _=>.fail
  | .builtin .max =>
   match args Γ st c.args.toList with
   | [.val (.int k x),.val (.int _ y)]=>.leaf (.val (.int k (sel (ilt x y) y x)))
   | _=>.fail
  | _=>.fail
 | _=>.fail
def after (h:List Blk):List Blk->List Blk
 | []=>h
 | .dead::l=>l
 | b::l=>h++b::l
def K8 (st:St):Res->St
 | .more l=>⟨st.t,after st.h l⟩
 | .all st'=>st'
def Ab8 (c:Call) (st:St):T (V×St) :=
 match c.callee with
 | .value f =>
  match ev Γ st f with
  | .fn g caps=>(Γ.call g (args Γ st c.args.toList++caps) st).bind λr=>.leaf (r.1,K8 st r.2)
  | _=>.fail
 | .builtin .append =>
  match args Γ st c.args.toList,c.argTypes.toList with
  | [x,y],[t,t']=>match Nat.beq t t' with
   | true=>TK τ st t x y
   | false=>.fail
  | _,_=>.fail
 | _=>.fail
def UL (c:Call):Bool :=
 match c.callee with
 | .value _=>true
 | .builtin .append=>true
 | _=>false
def Py:List V->Nat->Bool
 | [],0=>true
 | .val (.bool false)::l,n+1=>Py l n
 | _,_=>false
def NT:List V->Nat->Bool
 | [],0=>true
 | .val (.int .i64 (.ofNat 0))::l,n+1=>NT l n
 | _,_=>false
def XE (ty:Ty) (cs:List V):Option (Nat×V) :=
 match ty.k with
 | .arr n _=>match Nat.blt 14 n,Nat.ble n 1000000,Py cs n with
  | true,true,true=>some (n,bV false)
  | true,true,false=>match NT cs n with
   | true=>some (n,iV 0)
   | false=>none
  | _,_,_=>none
 | _=>none
def XC (te:Ty) (e:TypeId) (st:St) (len:Nat) (els:List V):T (V×St) :=
 match te.k,IQ τ e,Nat.beq te.size 1,Nat.beq len 1,te.zero.cells,els with
 | .sl _,some (_,e',s'),true,true,some [_],[.ref r]=>match st.h[r]? with
  | some (.row e2 s2 _ _)=>match Nat.beq e' e2,Nat.beq s' s2 with
   | true,true=>SO st e r
   | _,_=>.fail
  | _=>.fail
 | .sl _,some (_,e',s'),true,true,some [_],[.mref id i]=>(Js st id i).bind λst1=>match st1.h[st.h.length]? with
  | some (.row e2 s2 _ _)=>match Nat.beq e' e2,Nat.beq s' s2 with
   | true,true=>SO st1 e st.h.length
   | _,_=>.fail
  | _=>.fail
 | _,_,_,_,_,_=>.fail
def step (o:Oper) (st:St):T (V×St) :=
 match o.op with
 | .move x | .assign x=>OK τ st o.type (ev Γ st x)
 | .alloc t =>
  match τ[t]? with
  | some ty=>match ty.zero.cells with
   | some cs=>match XE ty cs with
    | some p=>Ea st (.row t 1 p.1 λ_=>p.2) λid=>.ept id 1 0 0
    | none=>Ea st (.cells cs) (.ptr · 0)
   | none=>.fail
  | none=>.fail
 | .box _ x =>
  match (ev Γ st x).cells with
  | some cs=>Ea st (.cells cs) (.ptr · 0)
  | none=>.fail
 | .buildSlice t len parts =>
  match τ[t]? with
  | some ty=>match ty.k with
   | .sl e=>match τ[e]? with
    | some te =>
     match Ht 0 (evs Γ st parts.toList) with
     | some els =>
      match LC te.size els,Nat.beq els.length len,Nat.ble (Nat.mul len te.size) 16777216,Nat.blt 0 te.size,te.zero.cells with
      | true,true,true,true,some zc=>match Nat.beq zc.length te.size with
       | true=>Ea st (.row e te.size len (FL len els)) .ref
       | false=>.fail
      | _,_,_,_,_=>XC τ te e st len els
     | none=>.fail
    | none=>.fail
   | _=>.fail
  | none=>.fail
 | .store t a x=>match ev Γ st a with
  | .ptr id off=>(upV τ st t (ev Γ st x)).bind λr=>RS τ r.2 t (.ptr id off) r.1
  | av=>RS τ st t av (ev Γ st x)
 | .makeSlice t l c=>AcD τ st t (ev Γ st l) (ev Γ st c)
 | .makeMap t none=>OL τ st t
 | .mapUpdate t m x v=>SD τ st t (ev Γ st m) (ev Γ st x) (ev Γ st v)
 | .call c=>match UL c with
  | true=>Ab8 τ Γ c st
  | false=>keep st (KP τ Γ o st)
 | _=>keep st (KP τ Γ o st)
def M4 {α:Type} (all:Array Oper) (st:St) (o:Oper) (run skip:T α):T α :=
 match o.guard with
 | none=>run
 | some (j,want) =>
  match all[j]? with
  | some oj=>match oj.dst with
   | some d=>match nth st.t d with
    | .val (.bool b)=>match want with
     | true=>.br b run skip
     | false=>.br b skip run
    | .val (.tuple _)=>skip
    | _=>.fail
   | none=>.fail
  | none=>.fail
def QD (all:Array Oper) (o:Oper) (st:St):T St :=
 M4 all st o ((step τ Γ o st).bind λr=>.leaf (put r.2 o.dst r.1)) (.leaf (put st o.dst AK))
def Hh (all:Array Oper):List Oper->St->T St
 | [],st=>.leaf st
 | o::l,st=>(QD τ Γ all o st).bind (Hh all l)
def IM:List Operand->List Nat
 | []=>[]
 | .tmp t::l=>t::IM l
 | _::l=>IM l
def CN (all:Array Oper) (o:Oper):List Nat :=
 match o.guard with
 | some (j,_)=>match all[j]? with
  | some oj=>match oj.dst with
   | some d=>d::IM o.op.operands.toList
   | none=>IM o.op.operands.toList
  | none=>IM o.op.operands.toList
 | none=>IM o.op.operands.toList
def Ey (n:Nat):List Nat->Bool
 | []=>false
 | m::l=>match Nat.beq m n with
  | true=>true
  | false=>Ey n l
def E9 (rs:List Nat):Nat->List V->List V
 | _,[]=>[]
 | i,v::l=>(match Ey i rs with
  | true=>v
  | false=>.und)::E9 rs (Nat.succ i) l
def Ev (all:Array Oper) (o:Oper) (st:St):T V :=
 M4 all ⟨E9 (CN all o) 0 st.t,st.h⟩ o (KP τ Γ o ⟨E9 (CN all o) 0 st.t,st.h⟩) (.leaf AK)
def Gy (all:Array Oper):List Oper->St->T St
 | [],st=>.leaf st
 | o::l,st=>(Ev τ Γ all o st).bind λv=>Gy all l (put st o.dst v)
def HM:Nat->List Oper->Bool
 | _,[]=>true
 | i,o::l=>match o.after.toList.all (λe=>match Region.binds .any e with
   | true=>Nat.blt e.on i
   | false=>true) with
  | true=>HM (Nat.succ i) l
  | false=>false
def MC:List Oper->Bool
 | []=>true
 | o::l=>match o.dst with
  | some d=>match l.all (λo'=>match o'.dst with
    | some d'=>match Nat.beq d d' with
     | true=>false
     | false=>true
    | none=>true) with
   | true=>MC l
   | false=>false
  | none=>MC l
def KW (bf:Array Nat) (j:Nat) (rs:List Nat):Nat->List Oper->Bool
 | _,[]=>true
 | k,o::l=>match (match o.dst with
   | some d=>match Ey d rs,Nat.beq k j with
    | true,false=>match Nat.blt k j with
     | true=>Nat.testBit (bf.getD j 0) k
     | false=>Nat.testBit (bf.getD k 0) j
    | true,true=>false
    | false,_=>true
   | none=>true) with
  | true=>KW bf j rs (Nat.succ k) l
  | false=>false
def LU (all:Array Oper) (bf:Array Nat):Nat->List Oper->Bool
 | _,[]=>true
 | j,o::l=>match KW bf j (CN all o) 0 all.toList with
  | true=>LU all bf (Nat.succ j) l
  | false=>false
def Gg:List Oper->Nat
 | []=>0
 | o::l=>match o.op with
  | .store _ _ _=>0
  | .mapUpdate _ _ _ _=>0
  | _=>Nat.succ (Gg l)
def LJ (bf:Array Nat):Nat->Nat->Bool
 | _,0=>true
 | k,n+1=>match (List.range k).all λj=>Nat.testBit (bf.getD k 0) j with
  | true=>LJ bf (Nat.succ k) n
  | false=>false
def HS (bf:Array Nat):Nat->Nat
 | 0=>0
 | k+1=>match (List.range k).all λj=>Nat.testBit (bf.getD k 0) j with
  | true=>HS bf k
  | false=>Nat.succ k
def DI (ops:Array Oper):Nat:=match Nat.ble (HS (Region.before ops) ops.size) (Gg ops.toList) with
 | true=>HS (Region.before ops) ops.size
 | false=>Gg ops.toList
def AgP (o:Oper):Bool :=
 match o.op with
 | .store _ _ _ | .mapUpdate _ _ _ _ | .buildSlice _ _ _ | .makeSlice _ _ _ | .makeMap _ _ | .alloc _ | .box _ _=>true
 | .call c=>match c.callee with
  | .builtin .append=>true
  | .value _=>match τ[o.type]? with
   | some ty=>match ty.k with
    | .sl _=>true
    | .st _=>match IQ τ o.type with
     | some _=>true
     | none=>false
    | _=>false
   | none=>false
  | _=>false
 | _=>false
def LW:List Oper->List Tmp
 | []=>[]
 | o::l=>match o.op with
  | .fieldAddr _ _ _ | .indexAddr _ _ _ | .nilCheck _=>match o.dst with
   | some d=>d::LW l
   | none=>LW l
  | _=>LW l
def Agn (ts:List Tmp) (o:Oper):Bool :=
 match o.op with
 | .call c=>match c.callee with
  | .value _=>c.args.toList.any λx=>match x with
   | .tmp t=>Ey t ts
   | _=>false
  | _=>false
 | _=>false
def Vs (ts:List Tmp):List Oper->Nat
 | []=>0
 | o::l=>match AgP τ o || Agn ts o with
  | true=>0
  | false=>Nat.succ (Vs ts l)
def Iz (l:List Oper):Nat:=Vs τ (LW l) l
def DF (o:Oper):Bool :=
 match o.guard with
 | some _=>false
 | none=>match o.op with
  | .move _ | .fieldAddr _ _ _ | .indexAddr _ _ _ | .load _ _ | .nilCheck _ | .binOp _ _ _ _ _ | .build _ _=>match o.dst with
   | some _=>true
   | none=>false
  | _=>false
def SS (bf:Array Nat) (m:Nat):Nat->List Oper->List Nat
 | _,[]=>[]
 | i,o::l=>match Nat.ble m i,DF o,(List.range i).all λj=>Nat.testBit (bf.getD i 0) j with
  | true,true,false=>i::SS bf m (Nat.succ i) l
  | _,_,_=>SS bf m (Nat.succ i) l
def LD (bf:Array Nat) (m n:Nat) (ls:List Nat):Nat->List Oper->List Nat
 | _,[]=>[]
 | i,o::l=>match DF o,(List.range n).all λj=>Nat.blt j m || Ey j ls || Nat.testBit (bf.getD j 0) i with
  | true,false=>i::LD bf m n ls (Nat.succ i) l
  | _,_=>LD bf m n ls (Nat.succ i) l
def HJ (all:Array Oper) (bf:Array Nat) (m:Nat) (lts:List Nat) (q:Nat) (oq:Oper):Nat->List Oper->Bool
 | _,[]=>true
 | j,o::l=>match Nat.beq j q || (Nat.blt j m && !Ey j lts) || Nat.testBit (bf.getD q 0) j || ((o.after.toList.any (λe=>Region.binds .any e && Nat.beq e.on q) || Oper.apart all oq o) && (match o.dst with
    | some d=>!(oq.looksAt all).contains d || (!Ey j lts && Nat.testBit (bf.getD j 0) q)
    | none=>true)) with
  | true=>HJ all bf m lts q oq (Nat.succ j) l
  | false=>false
def Hl (o:Oper):Bool :=
 match o.guard,o.dst with
 | none,some _=>match o.op with
  | .alloc t=>match τ[t]? with
   | some ty=>match ty.zero.cells with
    | some cs=>match XE ty cs with
     | some _=>false
     | none=>true
    | none=>false
   | none=>false
  | .buildSlice t _ _=>match τ[t]? with
   | some ts=>match ts.k with
    | .sl e=>match τ[e]? with
     | some te=>match te.k with
      | .sl _=>false
      | _=>true
     | none=>false
    | _=>false
   | none=>false
  | _=>false
 | _,_=>false
def Eu (vs:List Nat):List Nat->List Nat
 | []=>[]
 | q::l=>match Ey q vs with
  | true=>Eu vs l
  | false=>q::Eu vs l
def Wa (bf:Array Nat):List Nat->Bool
 | []=>true
 | i::l=>l.all (λj=>Nat.testBit (bf.getD j 0) i) && Wa bf l
def NG (ops:Array Oper) (bf:Array Nat) (c:List Nat):List Nat->Nat
 | []=>ops.size
 | i::l=>match (match ops[i]? with
   | some o=>Hl τ o
   | none=>false) && Wa bf (Eu [i] c) with
  | true=>i
  | false=>NG ops bf c l
def AiK (bf:Array Nat) (p:Nat):List Nat->List Nat
 | []=>[p]
 | i::l=>match Nat.testBit (bf.getD i 0) p with
  | true=>p::i::l
  | false=>i::AiK bf p l
def Acv (ops:Array Oper) (bf:Array Nat) (c:List Nat):Nat×List Nat :=
 match Wa bf c with
 | true=>(ops.size,c)
 | false=>(NG τ ops bf c c,AiK bf (NG τ ops bf c c) (Eu [NG τ ops bf c c] c))
def K3 (bf:Array Nat) (p:Nat):List Nat->Bool
 | []=>true
 | i::l=>(l.all (λj=>Nat.beq j p || Nat.testBit (bf.getD j 0) i) && (i::l).all λj=>!Nat.testBit (bf.getD i 0) j) && (!Ey i l && K3 bf p l)
def Ap1 (ops:List Oper):Bool:=ops.all λo=>match o.op with
 | .select _ _=>false
 | _=>true
def EV:Nat->List Nat->Bool
 | _,[]=>true
 | m,q::l=>match Nat.ble m q with
  | true=>EV (Nat.succ q) l
  | false=>false
def SR (ops:Array Oper) (m:Nat) (es ls:List Nat) (p:Nat) (ord:List Nat):Bool :=
 (K3 (Region.before ops) p ord && ord.all λi=>Nat.ble m i && Nat.blt i ops.size && !Ey i (es++ls) && (List.range m).all λj=>Ey j (es++ls) || Nat.testBit ((Region.before ops).getD i 0) j) &&
 ((List.range ops.size).all λi=>Nat.blt i m || Ey i (es++ls) || Ey i ord) && (match ops[p]? with
   | some o=>Hl τ o
   | none=>true) && (ls.all λi=>(List.range i).all λj=>!Nat.testBit ((Region.before ops).getD i 0) j || (Nat.blt j m || Ey j (es++ls))) &&
 Ap1 ops.toList && EV 0 (es++ls) && EV m ls && es.all (λq=>Nat.blt q m) && Nat.ble m ops.size && (es++ls).all λq=>match ops[q]? with
  | some oq=>DF oq && HJ ops (Region.before ops) m (es++ls) q oq 0 ops.toList && (match oq.dst with
   | some d=>!(oq.looksAt ops).contains d
   | none=>false)
  | none=>false
def CJ (bf:Array Nat) (i:Nat):List Nat->List Nat
 | []=>[]
 | q::l=>match Nat.testBit (bf.getD i 0) q with
  | true=>CJ bf i l
  | false=>q::CJ bf i l
def Se:V->V->T Unit
 | .ptr a b,.ptr c d=>match Nat.beq a c,Nat.beq b d with
  | true,true=>.leaf ()
  | _,_=>.fail
 | .ref a,.ref b=>match Nat.beq a b with
  | true=>.leaf ()
  | false=>.fail
 | .jref a,.jref b=>match Nat.beq a b with
  | true=>.leaf ()
  | false=>.fail
 | .mref a i,.mref b i'=>match Nat.beq a b with
  | true=>.br (BN i i') (.leaf ()) .fail
  | false=>.fail
 | .mmap a i,.mmap b i'=>match Nat.beq a b with
  | true=>.br (BN i i') (.leaf ()) .fail
  | false=>.fail
 | .ept a s i o,.ept b s' i' o'=>match Nat.beq a b,Nat.beq s s',Nat.beq o o' with
  | true,true,true=>.br (BN i i') (.leaf ()) .fail
  | _,_,_=>.fail
 | .jept a s i o,.jept b s' i' o'=>match Nat.beq a b,Nat.beq s s',Nat.beq o o' with
  | true,true,true=>.br (BN i i') (.leaf ()) .fail
  | _,_,_=>.fail
 | .val (.int k a),.val (.int k' b)=>match Xj k k' with
  | true=>.br (ieq a b) (.leaf ()) .fail
  | false=>.fail
 | .val (.bool a),.val (.bool b)=>.br (JR a b) (.leaf ()) .fail
 | .str a,.str b=>.br (seq a b) (.leaf ()) .fail
 | .nilS,.nilS=>.leaf ()
 | _,_=>.fail
def Wz:List V->List V->T Unit
 | [],[]=>.leaf ()
 | a::as0,b::bs=>(Se a b).bind λ_=>Wz as0 bs
 | _,_=>.fail
def Om:V->V->T Unit
 | .agg as0,.agg bs=>Wz as0 bs
 | a,b=>Se a b
def Jz (all:Array Oper):List Nat->St->T St
 | [],st=>.leaf st
 | q::l,st=>match all[q]? with
  | some o=>(Ev τ Γ all o st).bind λv=>Jz all l (put st o.dst v)
  | none=>.fail
def Ic (all:Array Oper):List Nat->St->T Unit
 | [],_=>.leaf ()
 | q::l,st=>match all[q]? with
  | some o=>match o.dst with
   | some d=>(Ev τ Γ all o st).bind λv=>(Om v (nth st.t d)).bind λ_=>Ic all l st
   | none=>.fail
  | none=>.fail
def Abj:V->Bool
 | .sl _ _ _=>true
 | .slr _ _ _ _=>true
 | .pp _=>true
 | _=>false
def Aiv:V->Bool
 | .agg cs=>cs.any Abj
 | v=>Abj v
def Gp (all:Array Oper) (st:St):List Nat->List Nat
 | []=>[]
 | q::l=>match all[q]? with
  | some o=>match o.dst with
   | some d=>match Aiv (nth st.t d) with
    | true=>q::Gp all st l
    | false=>Gp all st l
   | none=>Gp all st l
  | none=>Gp all st l
def AbK (st:St) (y:Operand):Option (Option Nat) :=
 match ev Γ st y with
 | .ptr id _=>match st.h[id]? with
  | some (.cells _)=>some (some id)
  | _=>none
 | .ept id _ _ _=>match st.h[id]? with
  | some (.row _ _ _ _)=>some (some id)
  | _=>none
 | .pp (.agg (_::_))=>some none
 | .jept id _ _ _=>match st.h[id]? with
  | some (.jag _)=>some (some id)
  | _=>none
 | _=>none
def MW (all:Array Oper) (st:St) (q:Nat):Bool :=
 match all[q]? with
 | some oq=>match oq.op with
  | .move _=>true
  | .build _ _=>true
  | .indexAddr _ _ _=>true
  | .fieldAddr s _ f=>match Fb τ s f (.ptr 0 0) with
   | .leaf _=>true
   | _=>false
  | .load _ y=>match AbK Γ st y with
   | some _=>true
   | none=>false
  | _=>false
 | none=>false
def Vo (all:Array Oper) (o:Oper) (st:St) (q:Nat):Bool :=
 match o.op with
 | .store _ x _=>match ev Γ st x with
  | .ptr id _=>match st.h[id]? with
   | some (.cells _)=>match all[q]? with
    | some oq=>match oq.op with
     | .indexAddr _ _ _=>true
     | .load _ y=>match AbK Γ st y with
      | some (some id')=>match Nat.beq id id' with
       | true=>false
       | false=>true
      | some none=>true
      | none=>false
     | _=>false
    | none=>false
   | _=>false
  | _=>false
 | _=>false
def Vp (all:Array Oper) (o:Oper) (st:St) (q:Nat):Bool :=
 match o.op with
 | .move _ | .assign _=>true
 | .call _=>MW τ Γ all st q
 | _=>match Hl τ o with
  | true=>MW τ Γ all st q
  | false=>Vo Γ all o st q
def Ad5 (o:Oper) (st:St):List Nat->T Unit
 | []=>.leaf ()
 | _::_=>match o.op with
  | .call c=>match c.callee with
   | .value f=>match ev Γ st f with
    | .fn g caps=>(Γ.call g (args Γ st c.args.toList++caps) st).bind λr=>allT (Ad3 r.2)
    | _=>.fail
   | _=>.fail
  | _=>.leaf ()
def AdT (all:Array Oper) (ql:List Nat) (p:Nat) (st:St):T Unit :=
 match all[p]? with
 | some o=>match o.dst with
  | some d=>match nth st.t d with
   | .und=>(allT (ql.all (MW τ Γ all st))).bind λ_=>(allT (Nat.blt d st.t.length)).bind λ_=>(step τ Γ o st).bind λ_=>.leaf ()
   | _=>.fail
  | none=>.fail
 | none=>.fail
def IT (all:Array Oper) (bf:Array Nat) (lts vs:List Nat) (p:Nat):List Nat->List Nat->St->T St
 | _,[],st=>.leaf st
 | ql,i::l,st=>match all[i]? with
  | some o=>(match Ey p (i::l) with
    | true=>AdT τ Γ all ql p st
    | false=>.leaf ()).bind λ_=>(allT ((CJ bf i vs).all (Vp τ Γ all o st))).bind λ_=>(Ad5 Γ o st (CJ bf i vs)).bind λ_=>(QD τ Γ all o st).bind λst1=>(Ic τ Γ all (CJ bf i lts) st1).bind λ_=>IT all bf lts vs p (CJ bf i ql) l st1
  | none=>.fail
def EM (ops:Array Oper):Bool :=
 match HM 0 ops.toList,MC ops.toList with
 | true,true=>LU ops (Region.before ops) 0 ops.toList
 | _,_=>false
end
def K1 (ops:Array Oper) (p:Nat) (st:St):St :=
 match ops[p]? with
 | some o=>put st o.dst .und
 | none=>st
def Ll (τ:List Ty) (Γ:Cx0) (ops:Array Oper) (m:Nat) (lts:List Nat) (p:Nat) (ord vs:List Nat) (st:St):T (Ex×St) :=
 (allT (vs.isEmpty || (List.range m).all λi=>Ey i lts)).bind λ_=>(Ic τ Γ ops (Eu vs lts) st).bind λ_ =>
  (IT τ Γ ops (Region.before ops) (Eu vs lts) vs p lts ord (K1 ops p st)).bind λst=>.leaf (.nm,st)
def GU (τ:List Ty) (Γ:Cx0) (ops:Array Oper) (m:Nat) (es ls:List Nat) (po:Nat×List Nat) (st:St):T (Ex×St) :=
 match SR τ ops m es ls po.1 po.2 with
 | true=>(Gy τ Γ ops (ops.toList.take m) st).bind λst=>(Jz τ Γ ops ls st).bind λst=>Ll τ Γ ops m (es++ls) po.1 po.2 (Gp ops st (es++ls)) st
 | false=>.fail
def Ez (τ:List Ty) (Γ:Cx0) (ops:Array Oper) (m:Nat) (es ls:List Nat) (st:St):T (Ex×St) :=
 GU τ Γ ops m es ls (Acv τ ops (Region.before ops) (Eu (es++ls) ((List.range ops.size).drop m))) st
def Tj (bf:Array Nat) (n:Nat):Nat->List Oper->List Nat
 | _,[]=>[]
 | i,o::l=>match DF o,(List.range n).all λj=>Nat.beq j i || Nat.testBit (bf.getD i 0) j || Nat.testBit (bf.getD j 0) i with
  | true,false=>i::Tj bf n (Nat.succ i) l
  | _,_=>Tj bf n (Nat.succ i) l
def Pd (τ:List Ty) (ops:Array Oper) (m:Nat) (bf:Array Nat) (es ls:List Nat) (Γ:Cx0) (po:Nat×List Nat) (st:St):T (Ex×St) :=
 match SR τ ops m es ls po.1 po.2 with
 | true=>(Gy τ Γ ops (ops.toList.take m) st).bind λst1=>(Jz τ Γ ops ls st1).bind λst2 =>
  match (Gp ops st2 (es++ls)).isEmpty || (List.range m).all λi=>Ey i (es++ls) with
  | true=>Ll τ Γ ops m (es++ls) po.1 po.2 (Gp ops st2 (es++ls)) st2
  | false=>Ez τ Γ ops 0 [] (Tj bf ops.size 0 ops.toList) st
 | false=>.fail
def Pb (τ:List Ty) (ops:Array Oper) (m:Nat) (bf:Array Nat) (es ls:List Nat) (Γ:Cx0) (st:St):T (Ex×St) :=
 Pd τ ops m bf es ls Γ (Acv τ ops (Region.before ops) (Eu (es++ls) ((List.range ops.size).drop m))) st
def Mx (τ:List Ty) (ops:Array Oper) (m:Nat) (bf:Array Nat) (ls:List Nat) (Γ:Cx0) (st:St):T (Ex×St) :=
 Pb τ ops m bf (LD bf m ops.size ls 0 (ops.toList.take m)) ls Γ st
section
variable (τ:List Ty) (Γ:Cx)
def AA:Code->Nat->St->T (Ex×St)
 | .skip,_,st=>.leaf (.nm,st)
 | .region _ ops draw,_,st=>match draw with
  | false=>(Hh τ Γ.base ops ops.toList st).bind λst=>.leaf (.nm,st)
  | true=>match EM ops with
   | true=>match Nat.beq (Iz τ ops.toList) (Gg ops.toList) with
    | true=>match LJ (Region.before ops) (DI ops) (Nat.sub ops.size (DI ops)) with
     | true=>(Gy τ Γ.base ops (ops.toList.take (DI ops)) st).bind λst=>(Hh τ Γ.base ops (ops.toList.drop (DI ops)) st).bind λst=>.leaf (.nm,st)
     | false=>.fail
    | false=>Mx τ ops (Iz τ ops.toList) (Region.before ops) (SS (Region.before ops) (Iz τ ops.toList) 0 ops.toList) Γ.base st
   | false=>.fail
 | .seq a b,id,st=>(AA a id st).bind λr =>
  match r.1 with
  | .nm=>AA b id r.2
  | .ex j=>.leaf (.ex j,r.2)
  | .rt=>.leaf (.rt,r.2)
 | .cond c x y,id,st =>
  match ev Γ.base st c with
  | .val (.bool b)=>.br b (AA x id st) (AA y id st)
  | _=>.fail
 | .block i c,_,st=>(AA c i st).bind λr =>
  match r.1 with
  | .nm=>.leaf (.nm,r.2)
  | .ex j=>match Nat.beq j i with
   | true=>.leaf (.nm,r.2)
   | false=>.leaf (.ex j,r.2)
  | .rt=>.leaf (.rt,r.2)
 | .loop c,id,st=>Γ.loop id (λst=>AA c id st) st
 | .exit i,_,st=>.leaf (.ex i,st)
 | .ret,_,st=>.leaf (.rt,st)
 | _,_,_=>.fail
def AkQ (st:St):ResultVar->Option V
 | .tmp t=>some (nth st.t t)
 | .cell a t=>match nth st.t a with
  | .ptr id off=>match st.h[id]? with
   | some (.cells cs)=>HF τ t cs off
   | _=>none
  | _=>none
def ZQ (st:St):List ResultVar->Option (List V)
 | []=>some []
 | r::l=>match AkQ τ st r,ZQ st l with
  | some a,some b=>some (a::b)
  | _,_=>none
def J1 (fn:Func) (st:St):Option V :=
 match ZQ τ st fn.results.toList with
 | some [v]=>some v
 | some vs=>some (.tup vs)
 | none=>none
def Ii:V->List Nat
 | .agg cs=>refs cs
 | .tup cs=>refs cs
 | .fn _ cs=>refs cs
 | .ref id=>[id]
 | .jref id=>[id]
 | _=>[]
 where refs:List V->List Nat
 | []=>[]
 | v::vs=>Ii v++refs vs
def posN (id:Nat):List Nat->Nat->Option Nat
 | [],_=>none
 | k::l,i=>match Nat.beq k id with
  | true=>some i
  | false=>posN id l (Nat.succ i)
def QQ (ids:List Nat):V->V
 | .agg cs=>.agg (packs cs)
 | .tup cs=>.tup (packs cs)
 | .fn f cs=>.fn f (packs cs)
 | .ref id=>match posN id ids 0 with
  | some k=>.ref k
  | none=>.und
 | .jref id=>match posN id ids 0 with
  | some k=>.jref k
  | none=>.und
 | .ptr _ _=>.und
 | .ept _ _ _ _=>.und
 | .rct _ _=>.und
 | .jept _ _ _ _=>.und
 | .mref _ _=>.und
 | .mmap _ _=>.und
 | .mept _ _ _ _ _=>.und
 | v=>v
 where packs:List V->List V
 | []=>[]
 | v::vs=>QQ ids v::packs vs
def UA (h:List Blk):List Nat->Option (List Blk)
 | []=>some []
 | id::l=>match h[id]?,UA h l with
  | some (.row e s n g),some bs=>some (.row e s n g::bs)
  | some (.jag j),some bs=>some (.jag j::bs)
  | _,_=>none
def SA:List Nat->Bool
 | []=>true
 | k::l=>match Ey k l with
  | true=>false
  | false=>SA l
def ZY (v:V) (h:List Blk):Option (V×List Blk) :=
 match SA (Ii v),UA h (Ii v) with
 | true,some hr=>some (QQ (Ii v) v,hr)
 | _,_=>none
def A0 (t:T (V×List Blk)):T (V×List Blk):=t.bind λp=>T.ofOpt (ZY p.1 p.2)
def VE (F:List V->T (V×List Blk)) (vs:List V) (h:List Blk):T (V×List Blk) :=
 match lend.lends h vs with
 | none=>.fail
 | some vs'=>(F vs').bind λp =>
  match free.frees vs with
  | true=>.leaf (shift h.length p.1,p.2)
  | false=>match MJ p.1 with
   | false=>.fail
   | true=>match p.2 with
    | []=>.leaf (shift h.length p.1,[])
    | b::l=>.br (Cj (b::l)) (.leaf (shift h.length p.1,b::l)) .fail
def Ae7 (F:List V->T (V×List Blk)) (vs:List V) (h:List Blk):T (V×List Blk) :=
 match Xk h with
 | false=>VE F vs h
 | true=>match free.frees vs with
  | true=>VE F vs h
  | false=>.br (BO h) (VE F vs h) .fail
def Ka {α:Type} (f:Nat):List (Nat×α)->Option α
 | []=>none
 | (k,x)::l=>match Nat.beq k f with
   | true=>some x
   | false=>Ka f l
def AiQ (t:T (V×List Blk)):T (V×Res):=t.bind λp=>.leaf (p.1,.more p.2)
def Aw (tbl:List (Nat×(List V->T (V×List Blk)))) (f:FuncId) (vs:List V) (st:St):T (V×Res) :=
 match Ka f tbl with
 | some F=>AiQ (Ae7 F vs st.h)
 | none=>.fail
def Aqr (tbl:List (Nat×V)) (g:Nat):V :=
 match Ka g tbl with
 | some v=>v
 | none=>.und
def NW:Nat->List V
 | 0=>[]
 | n+1=>AK::NW n
def Aj (fn:Func) (vs:List V) (h:List Blk):T (V×List Blk) :=
 match fn.body with
 | some c=>(AA τ Γ c 0 ⟨vs++NW (Nat.sub fn.ntmps vs.length),h⟩).bind λr =>
  match r.1 with
  | .ex _=>.fail
  | .nm=>match J1 τ fn r.2 with
   | some v=>.leaf (v,r.2.h)
   | none=>.fail
  | .rt=>match J1 τ fn r.2 with
   | some v=>.leaf (v,r.2.h)
   | none=>.fail
 | none=>.fail
end
def C3:List V:=[.tup []]
def YJ:List V->Bool
 | [.tup []]=>true
 | _=>false
def M3 (τ:List Ty) (Γ:Cx) (fn:Func) (vs:List V) (st:St):T (V×Res) :=
 (Aj τ Γ fn vs (st.h++[.saved st.t])).bind λp=>match p.2[st.h.length]? with
  | some (.saved t)=>match YJ t with
   | false=>.leaf (p.1,.all ⟨t,p.2.set st.h.length .dead⟩)
   | true=>.fail
  | _=>.fail
def UO (h:List Blk):V->T (Nat×Nat×Nat×(Nat->V))
 | .ref id=>match h[id]? with
  | some (.row e s n g)=>.leaf (e,s,n,g)
  | _=>.fail
 | .mref id i=>match h[id]? with
  | some (.jag j)=>.br (j.live i) (.leaf (j.e',j.s',j.len i,j.mem i)) .fail
  | _=>.fail
 | _=>.fail
def G1:List Blk->List Blk
 | []=>[]
 | _::l=>.saved C3::G1 l
def O3 (st:St) (q:Nat) (p:Nat×Nat×Nat×(Nat->V)):St:=⟨st.t.set q (.ref st.h.length),G1 st.h++[.xrow true p.1 p.2.1 p.2.2.1 p.2.2.2]⟩
def JL:List Blk->List Blk->Bool
 | [],_=>true
 | _::l,.saved vs::h=>match YJ vs with
  | true=>JL l h
  | false=>false
 | _::_,_=>false
def Ad4 (n:Nat) (v:V):V :=
 match MJ v,PO n v with
 | true,true=>v
 | _,_=>.und
def Pe (n:Nat):List V->List V
 | []=>[]
 | v::l=>Ad4 n v::Pe n l
def Ji (it:List (Nat×(List V->St->T (V×Res)))) (call:FuncId->List V->St->T (V×Res)) (f:FuncId) (vs:List V) (st:St):T (V×Res) :=
 match Ka f it with
 | some I=>I vs st
 | none=>call f vs st
def K5 (want:Nat):Code->Nat->Option Code
 | .seq a b,id=>match K5 want a id with
  | some c=>some c
  | none=>K5 want b id
 | .cond _ a b,id=>match K5 want a id with
  | some c=>some c
  | none=>K5 want b id
 | .block i c,_=>K5 want c i
 | .loop c,id=>match Nat.beq id want with
  | true=>some c
  | false=>K5 want c id
 | _,_=>none
def As (fn:Func) (want:Nat):Code :=
 match fn.body with
 | some c=>match K5 want c 0 with
  | some c=>c
  | none=>.skip
 | none=>.skip
abbrev A5:=T (V×List Blk)
abbrev A7:=List (Nat×(List V->A5))
abbrev Aa:Nat->V:=λ_=>.und
abbrev Ax:=Nat->Option Value
abbrev LT:=Nat->(St->T (Ex×St))->St->T (Ex×St)
abbrev PT:=(St->T (Ex×St))->St->Bool
abbrev nV (n:Nat):V:=iV (Int.ofNat n)
def jsV:Nat->Nat->(Nat->V)->List (Nat×V)->List V
 | 0,_,_,_=>[]
 | n+1,i,j,[]=>j i::jsV n (Nat.succ i) j []
 | n+1,i,j,(k,v)::l=>match Nat.beq i k with
  | true=>v::jsV n (Nat.succ i) j l
  | false=>j i::jsV n (Nat.succ i) j ((k,v)::l)
def bmK:Nat->Nat->List Nat->List Bool
 | 0,_,_=>[]
 | n+1,i,[]=>false::bmK n (Nat.succ i) []
 | n+1,i,k::l=>match Nat.beq i k with
  | true=>true::bmK n (Nat.succ i) l
  | false=>false::bmK n (Nat.succ i) (k::l)
def bbK:Nat->Nat->List Bool
 | 0,_=>[]
 | n+1,v=>Nat.beq (v%2) 1::bbK n (v/2)
def lkU (m:Nat):List (Nat×V)->Nat->V
 | [],i=>match Nat.beq ((m>>>i)%2) 1 with
  | true=>.und
  | false=>AK
 | (k,v)::l,i=>match Nat.beq i k with
   | true=>v
   | false=>lkU m l i
def lkV (d:V):List (Nat×V)->Nat->V
 | [],_=>d
 | (k,v)::l,i=>match Nat.beq i k with
   | true=>v
   | false=>lkV d l i
end Go.Sy
