/-
  A symbolic big-step evaluator for the model's code, with no program in sight: values, decision trees, states, the evaluator. Its soundness is proved in the texts behind this one. No conditions.
-/
import Derived.Calls
import Derived.Laws.Entries
import Derived.OrdersHeld
namespace Go.Sy
def sel {α:Type} (b:Bool) (x y:α):α:=bif b then x else y
def wr (k:IntKind) (x:Int):Int:=k.wrap x
def Aj (a b:Int):Int:=a+b
def Ay (a b:Int):Int:=a-b
def Bs (a b:Int):Int:=a * b
def Qs (a b:Int):Int:=a.tdiv b
def Aw (a b:Int):Int:=a.tmod b
def An6 (k:IntKind) (a b:Int):Int:=a * 2 ^ (min b.toNat k.bits)
def Nv (k:IntKind) (a b:Int):Int:=a.fdiv (2 ^ (min b.toNat k.bits))
def GW (op:BinOp) (k:IntKind) (a b:Int):Int:=Go.bits op k a b
def ieq (a b:Int):Bool:=a == b
def ilt (a b:Int):Bool:=decide (a<b)
def ile (a b:Int):Bool:=decide (a <= b)
def toN (a:Int):Nat:=a.toNat
def Av (a b:Bool):Bool:=a && b
def bor (a b:Bool):Bool:=a || b
def AL (a:Bool):Bool:=!a
def JD (a b:Bool):Bool:=a == b
def seq (a b:List UInt8):Bool:=a == b
def slt (a b:List UInt8):Bool:=Op.bytesLess a b
def AoJ (a b:List UInt8):List UInt8:=a++b
def K2 (n:Nat) (l:List UInt8):List UInt8:=l.drop n
def K0 (n:Nat) (l:List UInt8):List UInt8:=l.take n
def CU (l:List UInt8):Nat:=l.length
def Ov (l:List UInt8) (n:Nat):Int:=((l.getD n 0).toNat:Int)
def Y7 (a b:List UInt8):Bool:=decide (a.length+b.length <= 9223372036854775807)
def nlt (a b:Nat):Bool:=decide (a<b)
def Fz (a b:Nat):Bool:=Nat.beq a b
def RA (a b:Nat):Bool:=Nat.blt a b
def Bh (a b:Nat):Nat:=a+b
def FF (a b:Nat):Nat:=a-b
def Ci (n m bytes:Nat):Bool:=decide ((n+m) * bytes <= 140737488355328)
def IM (x:Int):Bool:=decide (-9223372036854775808 <= x) && decide (x <= 9223372036854775807)
def F2 (bytes:Nat) (l c:Int):Bool:=decide (0 <= l) && (decide (l <= c) && (decide ((bytes:Int) * c <= 281474976710656) && decide (c <= 9223372036854775807)))
inductive V where
 | val (v:Value)
 | str (l:List UInt8)
 | agg (cs:List V)
 | tup (vs:List V)
 | fn (f:FuncId) (caps:List V)
 | nilS
 | sl (size n:Nat) (get:Nat->V)
 | slr (size n m:Nat) (get:Nat->V)
 | pp (v:V)
 | ptr (id off:Nat)
 | ref (id:Nat)
 | ept (id size i off:Nat)
 | rct (id k:Nat)
 | jref (id:Nat)
 | jept (id size i off:Nat)
 | mref (id i:Nat)
 | mept (id i size k off:Nat)
 | mmap (id i:Nat)
 | anym
 | und
instance:Inhabited V:=⟨.und⟩
structure Mp where
 off:Nat
 t:TypeId
 live:Nat->Bool
 len:Nat->Nat
 hs:Nat->Int->Bool
 get:Nat->Int->Int
structure Jag where
 e:TypeId
 size:Nat
 n:Nat
 get:Nat->V
 off:Nat
 e':TypeId
 s':Nat
 live:Nat->Bool
 len:Nat->Nat
 mem:Nat->Nat->V
 mp:Option Mp
inductive Key where
 | i (x:Int)
 | s (l:List UInt8)
def keq:Key->Key->Bool
 | .i a,.i b=>ieq a b
 | .s a,.s b=>seq a b
 | _,_=>false
def AaK:Bool->V->Option Key
 | false,.val (.int .i64 k)=>some (.i k)
 | true,.str l=>some (.s l)
 | _,_=>none
def XF:Key->Bool
 | .i x=>IM x
 | .s l=>Y7 l []
inductive Ex where
 | nm
 | ex (id:Nat)
 | rt
structure RngCode where
 ps:Array Tmp
 a:Code
 b:Code
inductive Rs where
 | ready
 | busy
 | done (e:Ex)
inductive Blk where
 | cells (cs:List V)
 | row (e:TypeId) (size n:Nat) (get:Nat->V)
 | imap (t:TypeId) (n:Nat) (get:Int->Int)
 | gmap (t:TypeId) (ks:List (Key×V)) (hs:Key->Bool) (get:Key->V)
 | xrow (lk:Bool) (e:TypeId) (size n:Nat) (get:Nat->V)
 | jag (j:Jag)
 | saved (vs:List V)
 | rng (cd:RngCode) (ts:List V) (q:Rs)
 | dead
structure St where
 t:List V
 h:List Blk
inductive T (α:Type) where
 | leaf (a:α)
 | br (b:Bool) (x y:T α)
 | fail
 | ask (o:Option (Ex×St)) (k:Ex×St->T α)
def T.bind {α β:Type} (t:T α) (f:α->T β):T β :=
 match t with
 | .leaf a=>f a
 | .br b x y=>.br b (x.bind f) (y.bind f)
 | .fail=>.fail
 | .ask o k=>.ask o λr=>(k r).bind f
def T.sem {α:Type}:T α->Option α
 | .leaf a=>some a
 | .br b x y=>sel b x.sem y.sem
 | .fail=>none
 | .ask o k=>match o with
  | some r=>(k r).sem
  | none=>none
def T.ofOpt {α:Type}:Option α->T α
 | some a=>.leaf a
 | none=>.fail
def A5:V:=.val (.tuple #[])
def iV (n:Int):V:=.val (.int .i64 n)
def bV (b:Bool):V:=.val (.bool b)
def Oh:Value->V
 | .string s=>.str s.data.toList
 | .slice none 0 0=>.nilS
 | .agg _=>.und
 | .tuple _=>.und
 | v=>.val v
def ofValue:Value->V
 | .agg cs=>.agg (cs.toList.map Oh)
 | v=>Oh v
def Jn:V->Bool
 | .agg _ | .val (.agg _) | .val (.tuple _) | .tup _ | .und=>false
 | _=>true
def Tz:List V->Bool
 | []=>true
 | v::l=>match Jn v with
  | true=>Tz l
  | false=>false
def V.cells:V->Option (List V)
 | .agg cs=>match Tz cs with
  | true=>some cs
  | false=>none
 | .val (.agg _) | .val (.tuple _) | .tup _ | .und=>none
 | v=>some [v]
inductive K where
 | bool
 | int (k:IntKind)
 | str
 | sl (e:Nat)
 | arr (n e:Nat)
 | st (fs:List (Nat×Nat))
 | imap (e:Nat)
 | gmap (s:Bool) (e:Nat)
 | other
structure Ty where
 k:K
 size:Nat
 bytes:Nat
 zero:V
 plain:Bool
def TK (P:Program):Nat->TypeId->Bool
 | 0,_=>false
 | d+1,t=>match P.underlying t with
  | some (.array _ e)=>TK P d e
  | some (.struct fs)=>fs.toList.all λf=>f.name != "_" && TK P d f.type
  | some (.int _) | some .bool | some .string=>true
  | _=>false
def Ho (P:Program) (t:TypeId):Bool :=
 match P.underlying t with
 | some (.array _ e)=>TK P 3 e && !P.eqGuardType P.depth t
 | some (.struct fs)=>(fs.toList.all λf=>f.name != "_" && TK P 3 f.type) && !P.stoodInHeld t && !P.eqGuardType P.depth t
 | _=>false
def kOf (P:Program):TypeDesc->K
 | .bool=>.bool
 | .int k=>.int k
 | .string=>.str
 | .slice e=>.sl e
 | .array n e=>.arr n e
 | .struct fs=>.st (fs.toList.map λf=>(f.offset,f.type))
 | .map k e=>match P.underlying k,P.underlying e with
  | some (.int .i64),some (.int .i64)=>.imap e
  | some (.int .i64),_=>.gmap false e
  | some .string,_=>.gmap true e
  | _,_=>.other
 | _=>.other
def AbL (P:Program) (t:TypeId):Option Ty :=
 match P.info? t,P.underlying t with
 | some i,some d=>some { k:=kOf P d,size:=i.size,bytes:=i.bytes,zero:=match i.zero with | some z=>ofValue z | none=>.und,plain:=Ho P t }
 | _,_=>none
section
variable (τ:List Ty)
def Ug:K->Bool
 | .st _ | .arr _ _=>true
 | _=>false
def nth (l:List V) (n:Nat):V :=
 match l,n with
 | [],_=>.und
 | v::_,0=>v
 | _::l,n+1=>nth l n
def HS (t:TypeId) (cs:List V) (off:Nat):Option V :=
 match τ[t]? with
 | some ty =>
  match Ug ty.k with
  | true=>match Nat.ble (Nat.add off ty.size) cs.length with
   | true=>some (.agg ((cs.drop off).take ty.size))
   | false=>none
  | false=>cs[off]?
 | none=>none
def EQ (t:TypeId) (v:V) (off:Nat):Option V :=
 match v.cells with
 | some cs=>HS τ t cs off
 | none=>none
def Dc (cs:List V) (off:Nat) (new:List V):List V:=cs.take off++(new++cs.drop (Nat.add off new.length))
def SR (place:Nat->Option (Nat×Nat)) (cells:List V):List (Nat×V)->Option (List V)
 | []=>some cells
 | (i,v)::rest =>
   match place i,v.cells with
   | some (off,size),some cs =>
    match Nat.beq cs.length size,Nat.ble (Nat.add off size) cells.length with
    | true,true=>SR place (Dc cells off cs) rest
    | _,_=>none
   | _,_=>none
def LI (fs:List (Nat×Nat)):Option (List (Nat×Nat)) :=
 match fs with
 | []=>some []
 | f::fs=>match τ[f.2]?,LI fs with
  | some ty,some l=>some ((f.1,ty.size)::l)
  | _,_=>none
def Yr (t:TypeId) (parts:List (Nat×V)):Option V :=
 match τ[t]? with
 | some ty =>
  match ty.zero,ty.k with
  | .agg zero,.st fs =>
   match LI τ fs with
   | some places=>match SR (λi=>places[i]?) zero parts with
    | some cs=>some (.agg cs)
    | none=>none
   | none=>none
  | .agg zero,.arr _ e =>
   match τ[e]? with
   | some te=>match SR (λi=>some (Nat.mul i te.size,te.size)) zero parts with
    | some cs=>some (.agg cs)
    | none=>none
   | none=>none
  | _,_=>none
 | none=>none
def Ng {α:Type} (i:Int) (f:Nat->T α):Nat->Nat->T α
 | 0,_=>.fail
 | n+1,k=>.br (ieq i (Int.ofNat k)) (f k) (Ng i f n (Nat.succ k))
def Nw:Operand->Bool
 | .const _=>true
 | _=>false
def XH:IntKind->IntKind->Bool
 | .i8,.i8 | .i16,.i16 | .i32,.i32 | .i64,.i64 | .u8,.u8 | .u16,.u16 | .u32,.u32 | .u64,.u64=>true
 | _,_=>false
def AdO:Int->Bool
 | .ofNat 0=>true
 | _=>false
def J2 (i:Int) (n:Nat):Bool :=
 match i with
 | .ofNat k=>Nat.blt k n
 | _=>false
def XR:K->V->V->Option Bool
 | .int _,.val (.int k a),.val (.int k' b)=>match XH k k' with
  | true=>some (ieq a b)
  | false=>none
 | .bool,.val (.bool a),.val (.bool b)=>some (JD a b)
 | .str,.str a,.str b=>some (seq a b)
 | _,_,_=>none
def Aem (f:TypeId->V->V->Option Bool):List (Nat×Nat)->List V->List V->Option Bool
 | [],_,_=>some true
 | (off,t)::fs,as0,bs=>match HS τ t as0 off,HS τ t bs off with
   | some u,some v=>match f t u v,Aem f fs as0 bs with
    | some x,some y=>some (Av x y)
    | _,_=>none
   | _,_=>none
def Wl (f:V->V->Option Bool) (e:TypeId) (size:Nat) (as0 bs:List V):Nat->Nat->Option Bool
 | 0,_=>some true
 | m+1,i=>match HS τ e as0 (Nat.mul i size),HS τ e bs (Nat.mul i size) with
  | some u,some v=>match f u v,Wl f e size as0 bs m (Nat.succ i) with
   | some x,some y=>some (Av x y)
   | _,_=>none
  | _,_=>none
def eqV:Nat->TypeId->V->V->Option Bool
 | 0,_,_,_=>none
 | d+1,t,x,y=>match τ[t]? with
  | some ty=>match ty.k,x,y with
   | .arr n e,.agg as0,.agg bs=>match τ[e]? with
    | some te=>Wl τ (eqV d e) e te.size as0 bs n 0
    | none=>none
   | .st fs,.agg as0,.agg bs=>match ty.plain with
    | true=>Aem τ (eqV d) fs as0 bs
    | false=>none
   | k,x,y=>XR k x y
  | none=>none
def AkS (op:BinOp) (t:TypeId) (lit:Bool):V->V->T V
 | .val (.int k a),.val (.int k' b) =>
  match op with
  | .shl=>.br (ile 0 b) (.leaf (.val (.int k (wr k (An6 k a b))))) .fail
  | .shr=>.br (ile 0 b) (.leaf (.val (.int k (Nv k a b)))) .fail
  | op =>
   match XH k k' with
   | false=>.fail
   | true =>
   match op with
   | .add=>.leaf (.val (.int k (wr k (Aj a b))))
   | .sub=>.leaf (.val (.int k (wr k (Ay a b))))
   | .mul=>.leaf (.val (.int k (wr k (Bs a b))))
   | .quo=>match lit with
    | true=>match AdO b with
     | true=>.fail
     | false=>.leaf (.val (.int k (wr k (Qs a b))))
    | false=>.br (ieq b 0) .fail (.leaf (.val (.int k (wr k (Qs a b)))))
   | .rem=>match lit with
    | true=>match AdO b with
     | true=>.fail
     | false=>.leaf (.val (.int k (Aw a b)))
    | false=>.br (ieq b 0) .fail (.leaf (.val (.int k (Aw a b))))
   | .and=>.leaf (.val (.int k (GW .and k a b)))
   | .or=>.leaf (.val (.int k (GW .or k a b)))
   | .xor=>.leaf (.val (.int k (GW .xor k a b)))
   | .andNot=>.leaf (.val (.int k (GW .andNot k a b)))
   | .eql=>.leaf (bV (ieq a b))
   | .neq=>.leaf (bV (AL (ieq a b)))
   | .lss=>.leaf (bV (ilt a b))
   | .leq=>.leaf (bV (ile a b))
   | .gtr=>.leaf (bV (ilt b a))
   | .geq=>.leaf (bV (ile b a))
   | _=>.fail
 | .val (.bool a),.val (.bool b) =>
  match τ[t]? with
  | some ty=>match op,ty.k with
   | .eql,.bool=>.leaf (bV (JD a b))
   | .neq,.bool=>.leaf (bV (AL (JD a b)))
   | _,_=>.fail
  | none=>.fail
 | .str a,.str b =>
  match op with
  | .add=>.br (Y7 a b) (.leaf (.str (AoJ a b))) .fail
  | .eql=>.leaf (bV (seq a b))
  | .neq=>.leaf (bV (AL (seq a b)))
  | .lss=>.leaf (bV (slt a b))
  | .leq=>.leaf (bV (bor (slt a b) (seq a b)))
  | .gtr=>.leaf (bV (AL (bor (slt a b) (seq a b))))
  | .geq=>.leaf (bV (AL (slt a b)))
  | _=>.fail
 | .agg a,.agg b =>
  match τ[t]? with
  | some ty=>match ty.plain with
   | true=>match op,eqV τ 5 t (.agg a) (.agg b) with
    | .eql,some x=>.leaf (bV x)
    | .neq,some x=>.leaf (bV (AL x))
    | _,_=>.fail
   | false=>.fail
  | none=>.fail
 | _,_=>.fail
def unV (op:UnOp):V->T V
 | .val (.int k a) =>
  match op with
  | .neg=>.leaf (.val (.int k (wr k (Ay 0 a))))
  | _=>.fail
 | .val (.bool b) =>
  match op with
  | .not=>.leaf (bV (AL b))
  | _=>.fail
 | _=>.fail
def Ae5 (src dst:TypeId):V->T V
 | .val (.int _ a) =>
  match τ[src]?,τ[dst]? with
  | some _,some ty=>match ty.k with
   | .int k=>.leaf (.val (.int k (wr k a)))
   | _=>.fail
  | _,_=>.fail
 | .str l =>
  match τ[src]?,τ[dst]? with
  | some _,some ty=>match ty.k with
   | .str=>.leaf (.str l)
   | _=>.fail
  | _,_=>.fail
 | _=>.fail
end
def free:V->Bool
 | .agg cs=>frees cs
 | .tup cs=>frees cs
 | .fn _ cs=>frees cs
 | .ref _ | .ptr _ _ | .ept _ _ _ _ | .rct _ _=>false
 | .jref _ | .jept _ _ _ _ | .mref _ _ | .mept _ _ _ _ _ | .mmap _ _=>false
 | _=>true
 where frees:List V->Bool
 | []=>true
 | v::vs=>match free v with
  | true=>frees vs
  | false=>false
def Zh (j:Jag) (i:Nat):V :=
 match j.size with
 | 1=>.sl j.s' (j.len i) (j.mem i)
 | _=>match j.get i with
  | .agg cs=>match j.mp with
   | none=>.agg (cs.set j.off (.sl j.s' (j.len i) (j.mem i)))
   | some q=>.agg ((cs.set j.off (.sl j.s' (j.len i) (j.mem i))).set q.off .anym)
  | _=>.und
def Qi (h:List Blk):List V->Option (List V)
 | []=>some []
 | v::vs=>match (match v with
  | .ref id=>match h[id]? with
   | some (.row _ s n g)=>some (.sl s n g)
   | _=>none
  | v=>match free v with
   | true=>some v
   | false=>none:Option V),Qi h vs with
  | some a,some b=>some (a::b)
  | _,_=>none
def Dv (h:List Blk):V->Option V
 | .agg cs=>match lends cs with
  | some l=>some (.agg l)
  | none=>none
 | .tup cs=>match lends cs with
  | some l=>some (.tup l)
  | none=>none
 | .fn f cs=>match lends cs with
  | some l=>some (.fn f l)
  | none=>none
 | .ref id=>match h[id]? with
  | some (.row _ s n g)=>some (.sl s n g)
  | _=>none
 | .nilS=>some (.sl 1 0 λ_=>.und)
 | .ptr id 0=>match h[id]? with
  | some (.cells cs)=>match free.frees cs with
   | true=>some (.pp (.agg cs))
   | false=>match Qi h cs with
    | some l=>some (.pp (.agg l))
    | none=>none
  | _=>none
 | .jref id=>match h[id]? with
  | some (.jag j)=>some (.sl j.size j.n (Zh j))
  | _=>none
 | .mref id i=>match h[id]? with
  | some (.jag j)=>some (.sl j.s' (j.len i) (j.mem i))
  | _=>none
 | .mmap _ _=>some .anym
 | .rct id k=>match h[id]? with
  | some (.row _ s n g)=>some (.slr s k n g)
  | _=>none
 | .ptr _ _ | .ept _ _ _ _ | .jept _ _ _ _ | .mept _ _ _ _ _ | .und=>none
 | v=>some v
 where lends:List V->Option (List V)
 | []=>some []
 | v::vs=>match Dv h v,lends vs with
  | some a,some b=>some (a::b)
  | _,_=>none
def MC:V->Bool
 | .agg cs=>bares cs
 | .tup cs=>bares cs
 | .fn _ cs=>bares cs
 | .sl _ _ _ | .slr _ _ _ _ | .pp _=>false
 | _=>true
 where bares:List V->Bool
 | []=>true
 | v::vs=>match MC v with
  | true=>bares vs
  | false=>false
def Ce:List Blk->Bool
 | []=>true
 | .row _ _ n g::l=>(List.range n).all (λi=>MC (g i)) && Ce l
 | .jag j::l=>(List.range j.n).all (λi=>MC (j.get i) && (List.range (j.len i)).all λk=>MC (j.mem i k)) && Ce l
 | _::_=>false
def Cg:List Blk->Bool
 | []=>true
 | .jag j::l=>(List.range j.n).all j.live && Cg l
 | _::l=>Cg l
def XI:List Blk->Bool
 | []=>false
 | .jag _::_=>true
 | _::l=>XI l
def kill (id:Nat):V->V
 | .agg cs=>.agg (kills cs)
 | .tup cs=>.tup (kills cs)
 | .fn f cs=>.fn f (kills cs)
 | .ref k=>match Nat.beq k id with
  | true=>.und
  | false=>.ref k
 | .ept k s i o=>match Nat.beq k id with
  | true=>.und
  | false=>.ept k s i o
 | .rct k i=>match Nat.beq k id with
  | true=>.und
  | false=>.rct k i
 | .jref k=>match Nat.beq k id with
  | true=>.und
  | false=>.jref k
 | .jept k s i o=>match Nat.beq k id with
  | true=>.und
  | false=>.jept k s i o
 | .mref k i=>match Nat.beq k id with
  | true=>.und
  | false=>.mref k i
 | .mept k i s j o=>match Nat.beq k id with
  | true=>.und
  | false=>.mept k i s j o
 | .mmap k i=>match Nat.beq k id with
  | true=>.und
  | false=>.mmap k i
 | v=>v
 where kills:List V->List V
 | []=>[]
 | v::vs=>kill id v::kills vs
def Fj (id:Nat):Blk->Blk
 | .cells cs=>.cells (kill.kills id cs)
 | .saved vs=>.saved (kill.kills id vs)
 | .rng cd ts q=>.rng cd (kill.kills id ts) q
 | b=>b
def AU (id:Nat):List Blk->List Blk
 | []=>[]
 | b::l=>Fj id b::AU id l
def killM (id:Nat):V->V
 | .agg cs=>.agg (kills cs)
 | .tup cs=>.tup (kills cs)
 | .fn f cs=>.fn f (kills cs)
 | .mref k i=>match Nat.beq k id with
  | true=>.und
  | false=>.mref k i
 | .mept k i s j o=>match Nat.beq k id with
  | true=>.und
  | false=>.mept k i s j o
 | .mmap k i=>match Nat.beq k id with
  | true=>.und
  | false=>.mmap k i
 | v=>v
 where kills:List V->List V
 | []=>[]
 | v::vs=>killM id v::kills vs
def Fi (id:Nat):Blk->Blk
 | .cells cs=>.cells (killM.kills id cs)
 | .saved vs=>.saved (killM.kills id vs)
 | .rng cd ts q=>.rng cd (killM.kills id ts) q
 | b=>b
def BL (id:Nat):List Blk->List Blk
 | []=>[]
 | b::l=>Fi id b::BL id l
def shift (d:Nat):V->V
 | .agg cs=>.agg (shifts cs)
 | .tup cs=>.tup (shifts cs)
 | .fn f cs=>.fn f (shifts cs)
 | .ptr id o=>.ptr (Nat.add d id) o
 | .ref id=>.ref (Nat.add d id)
 | .ept id s i o=>.ept (Nat.add d id) s i o
 | .rct id k=>.rct (Nat.add d id) k
 | .jref id=>.jref (Nat.add d id)
 | .jept id s i o=>.jept (Nat.add d id) s i o
 | .mref id i=>.mref (Nat.add d id) i
 | .mept id i s k o=>.mept (Nat.add d id) i s k o
 | .mmap id i=>.mmap (Nat.add d id) i
 | v=>v
 where shifts:List V->List V
 | []=>[]
 | v::vs=>shift d v::shifts vs
def QY (n:Nat):V->Bool
 | .agg cs=>belows cs
 | .tup cs=>belows cs
 | .fn _ cs=>belows cs
 | .ref id=>Nat.blt id n
 | .ptr id _=>Nat.blt id n
 | .ept id _ _ _=>Nat.blt id n
 | .rct id _=>Nat.blt id n
 | .jref id=>Nat.blt id n
 | .jept id _ _ _=>Nat.blt id n
 | .mref id _=>Nat.blt id n
 | .mept id _ _ _ _=>Nat.blt id n
 | .mmap id _=>Nat.blt id n
 | _=>true
 where belows:List V->Bool
 | []=>true
 | v::vs=>match QY n v with
  | true=>belows vs
  | false=>false
def Us (n:Nat) (v:V):V :=
 match QY n v with
 | true=>v
 | false=>.und
def Kl (n:Nat):List V->List V
 | []=>[]
 | v::l=>Us n v::Kl n l
def IL (n:Nat):Blk->Blk
 | .cells cs=>.cells (Kl n cs)
 | .saved vs=>.saved (Kl n vs)
 | .rng cd ts q=>.rng cd (Kl n ts) q
 | b=>b
def D5 (n:Nat):List Blk->List Blk
 | []=>[]
 | b::l=>IL n b::D5 n l
def Adn:List Bool->List V->List V
 | b::bs,v::l=>(match b with
  | true=>v
  | false=>.und)::Adn bs l
 | _,[]=>[]
 | [],v::l=>v::l
def FK (ks:List Bool) (n:Nat) (st:St):St:=⟨Kl n (Adn ks st.t),D5 n (st.h.take n)⟩
structure Lp where
 ks:List Bool
 n:Nat
 ke:List Bool
 ne:Nat
 fuel:Nat
def Ax (f:St->T (Ex×St)) (l:Lp):Nat->St->T (Ex×St)
 | 0,_=>.fail
 | m+1,st=>(f st).bind λr=>match r.1 with
  | .nm=>Ax f l m (FK l.ks l.n r.2)
  | .ex i=>.leaf (.ex i,FK l.ke l.ne r.2)
  | .rt=>.leaf (.rt,FK l.ke l.ne r.2)
inductive Res where
 | more (l:List Blk)
 | all (st:St)
def AdF:Res->Bool
 | .more (.dead::_)=>false
 | .more _=>true
 | .all _=>false
def Yx (b:Bool):T Unit :=
 match b with
 | true=>.leaf ()
 | false=>.fail
structure Cx0 where
 call:FuncId->List V->St->T (V×Res)
 glob:Nat->V
structure Cx where
 call:FuncId->List V->St->T (V×Res)
 loop:Nat->(St->T (Ex×St))->St->T (Ex×St)
 glob:Nat->V
def Cx.base (Γ:Cx):Cx0:=⟨Γ.call,Γ.glob⟩
def ev (Γ:Cx0) (st:St):Operand->V
 | .tmp t=>nth st.t t
 | .const v=>ofValue v
 | .global g=>Γ.glob g
 | .func f=>.fn f []
def put (st:St) (d:Option Tmp) (v:V):St :=
 match d with
 | some d=>⟨st.t.set d v,st.h⟩
 | none=>st
def cif (b:Bool) (u v:V):V:=bif b then u else v
def J3 (b:Bool) (u v:V):V :=
 match u,v with
 | .val (.int k x),.val (.int k' y)=>match XH k k' with
  | true=>.val (.int k (sel b x y))
  | false=>cif b (.val (.int k x)) (.val (.int k' y))
 | .val (.bool x),.val (.bool y)=>.val (.bool (sel b x y))
 | .str l,.str l'=>.str (sel b l l')
 | u,v=>cif b u v
def IF (b:Bool):List V->List V->List V
 | u::us,v::vs=>J3 b u v::IF b us vs
 | _,_=>[]
def vif (b:Bool) (u v:V):V :=
 match u,v with
 | .agg us,.agg vs=>match Nat.beq us.length vs.length with
  | true=>.agg (IF b us vs)
  | false=>cif b (.agg us) (.agg vs)
 | u,v=>cif b u v
def AA (n:Nat) (g:Nat->V) (x:V):Nat->V:=λi=>vif (Fz i n) x (g i)
def AeS (n:Nat) (g g':Nat->V):Nat->V:=λi=>vif (RA i n) (g i) (g' (i-n))
def BY (n m:Nat) (gx g:Nat->V):Nat->V :=
 match m with
 | 1=>AA n gx (g 0)
 | _=>AeS n gx g
def BF (g:Nat->V) (k:Nat) (x:V):Nat->V:=λi=>vif (Fz i k) x (g i)
section
variable (τ:List Ty) (Γ:Cx0)
def Ea (st:St) (b:Blk) (v:Nat->V):T (V×St):=.leaf (v st.h.length,⟨st.t,st.h++[b]⟩)
def evs (st:St):List (Nat×Operand)->List (Nat×V)
 | []=>[]
 | (i,x)::l=>(i,ev Γ st x)::evs st l
def args (st:St):List Operand->List V
 | []=>[]
 | x::l=>ev Γ st x::args st l
def Sv:List V->Nat->V
 | [],_=>.und
 | [v],_=>v
 | v::l,i=>J3 (Fz i 0) v (Sv l (FF i 1))
def AgO:V->Bool
 | .val (.int .u8 _)=>true
 | _=>false
def Aku:V->Bool
 | .str _=>true
 | _=>false
def Ad9 (len:Nat) (els:List V):Bool :=
 match Nat.blt 1 len with
 | true=>match els.all AgO with
  | true=>true
  | false=>match Nat.blt 16 len with
   | true=>els.all Aku
   | false=>false
 | false=>false
def Cy (len:Nat) (els:List V):Nat->V :=
 match Ad9 len els with
 | true=>λi=>Sv els i
 | false=>λi=>nth els i
def Ry (b:Bool) (u v:V):V :=
 match u,v with
 | .agg us,.agg vs=>match Nat.beq us.length vs.length with
  | true=>.agg (IF b us vs)
  | false=>cif b (.agg us) (.agg vs)
 | u,v=>J3 b u v
def Sx:List V->Nat->V
 | [],_=>.und
 | [v],_=>v
 | v::l,i=>Ry (Fz i 0) v (Sx l (FF i 1))
def PK (f:Nat->Option V):Nat->Nat->Option (List V)
 | 0,_=>some []
 | m+1,k=>match f k,PK f m (Nat.succ k) with
  | some v,some l=>some (v::l)
  | _,_=>none
def HC:Nat->List (Nat×V)->Option (List V)
 | _,[]=>some []
 | k,(i,v)::l=>match Nat.beq i k,HC (Nat.succ k) l with
  | true,some vs=>some (v::vs)
  | _,_=>none
def Mt (size:Nat):List V->Bool
 | []=>true
 | v::l=>match v.cells with
  | some cs=>match Nat.beq cs.length size,free v with
   | true,true=>Mt size l
   | _,_=>false
  | none=>false
def Da (f:Nat->Bool) (k:Nat) (b:Bool):Nat->Bool:=λi=>sel (Fz i k) b (f i)
def Dq (f:Nat->Nat) (k n:Nat):Nat->Nat:=λi=>sel (Fz i k) n (f i)
def Dz (f:Nat->Nat->V) (k:Nat) (g:Nat->V):Nat->Nat->V:=λi j=>Ry (Fz i k) (g j) (f i j)
def Iv (st:St) (id i:Nat):T St :=
 match st.h[id]? with
 | some (.jag j)=>.br (j.live i) (.leaf ⟨killM.kills id st.t,(BL id st.h).set id (.jag { j with live:=Da j.live i false })++[.row j.e' j.s' (j.len i) (j.mem i)]⟩) .fail
 | _=>.fail
def Vj (st:St) (id i r:Nat):T St :=
 match st.h[id]?,st.h[r]? with
 | some (.jag j),some (.row e s n g)=>match Nat.beq e j.e',Nat.beq s j.s' with
  | true,true=>.br (nlt i j.n) (.leaf ⟨killM.kills id (kill.kills r st.t),((BL id (AU r st.h)).set r .dead).set id (.jag { j with live:=Da j.live i true,len:=Dq j.len i n,mem:=Dz j.mem i g })⟩) .fail
  | _,_=>.fail
 | _,_=>.fail
def Gy {α:Type} (f:Nat->Int->α) (k:Nat) (g:Int->α):Nat->Int->α:=λi x=>sel (Fz i k) (g x) (f i x)
def Ap3:Option Mp->Nat->Bool
 | none,_=>false
 | some q,off=>Nat.beq off q.off
def Ade:Option Mp->Nat->Nat->Bool
 | none,_,_=>true
 | some q,off,n=>bor (Nat.ble (Nat.add off n) q.off) (Nat.blt q.off off)
def AcN (st:St) (id i r:Nat):T St :=
 match st.h[id]?,st.h[r]? with
 | some (.jag j),some (.imap t 0 _)=>match j.mp with
  | some q=>match Nat.beq t q.t with
   | true=>.br (nlt i j.n) (.leaf ⟨killM.kills id (kill.kills r st.t),((BL id (AU r st.h)).set r .dead).set id (.jag { j with mp:=some { q with live:=Da q.live i true,len:=Dq q.len i 0,hs:=Gy q.hs i λ_=>false,get:=Gy q.get i λ_=>0 } })⟩) .fail
   | false=>.fail
  | none=>.fail
 | _,_=>.fail
def TX (st:St) (e:TypeId) (r:Nat):T (V×St) :=
 match st.h[r]? with
 | some (.row e' s' n g)=>.leaf (.jref st.h.length,⟨kill.kills r st.t,(AU r st.h).set r .dead++[.jag ⟨e,1,1,λ_=>.und,0,e',s',λ_=>true,λ_=>n,λ_=>g,none⟩]⟩)
 | _=>.fail
def Zp (ty:Ty) (e:TypeId) (st:St) (id id':Nat):T (V×St) :=
 match st.h[id]?,st.h[id']? with
 | some (.jag j),some (.jag y) =>
  match j.mp,y.mp with
  | none,none=>match Nat.beq j.e e,Nat.beq j.size y.size,Nat.beq j.off y.off,Nat.beq j.e' y.e',Nat.beq j.s' y.s',Nat.beq y.n 1,Nat.beq j.size ty.size,Nat.beq id id' with
   | true,true,true,true,true,true,true,false =>
    .br (y.live 0) (.br (Ci j.n 1 ty.bytes)
     (.leaf (.jref id,⟨kill.kills id (kill.kills id' st.t),((AU id (AU id' st.h)).set id' .dead).set id (.jag { j with n:=Bh j.n 1,get:=AA j.n j.get (y.get 0),live:=Da j.live j.n true,len:=Dq j.len j.n (y.len 0),mem:=Dz j.mem j.n (y.mem 0) })⟩)) .fail) .fail
   | _,_,_,_,_,_,_,_=>.fail
  | _,_=>.fail
 | _,_=>.fail
def SH (ty:Ty) (e:TypeId) (st:St) (x:V) (m:Nat) (g:Nat->V):T (V×St) :=
 match x with
 | .ref id=>match st.h[id]? with
  | some (.row e' s n gx) =>
   match Nat.beq e e',Nat.beq s ty.size with
   | true,true =>
    .br (Ci n m ty.bytes)
     (.leaf (.ref id,⟨kill.kills id st.t,(AU id st.h).set id (.row e s (Bh n m) (BY n m gx g))⟩)) .fail
   | _,_=>.fail
  | some (.xrow true e' s n gx) =>
   match Nat.beq e e',Nat.beq s ty.size with
   | true,true =>
    .br (Ci n m ty.bytes)
     (.leaf (.ref id,⟨kill.kills id st.t,(AU id st.h).set id (.xrow true e s (Bh n m) (BY n m gx g))⟩)) .fail
   | _,_=>.fail
  | _=>.fail
 | _=>.fail
def Zo (ty:Ty) (e:TypeId) (st:St) (x:V) (m:Nat) (g:Nat->V):T (V×St) :=
 match x with
 | .nilS=>SH ty e ⟨st.t,st.h++[.row e ty.size 0 λ_=>.und]⟩ (.ref st.h.length) m g
 | .mref id i=>(Iv st id i).bind λst1=>SH ty e st1 (.ref st.h.length) m g
 | .rct id k=>match st.h[id]? with
  | some (.row e' s _ gx)=>SH ty e ⟨kill.kills id st.t,(AU id st.h).set id (.row e' s k gx)⟩ (.ref id) m g
  | _=>.fail
 | x=>SH ty e st x m g
def AeL (x:Int):UInt8:=UInt8.ofNat x.toNat
def Ae7 (st:St) (src dst:TypeId) (x:V):T V :=
 match x with
 | .ref id=>match τ[src]?,τ[dst]? with
  | some ts,some td=>match ts.k,td.k with
   | .sl e,.str=>match τ[e]?,st.h[id]? with
    | some te,some (.row _ 1 1 g)=>match te.k,g 0 with
     | .int .u8,.val (.int .u8 b)=>.leaf (.str [AeL b])
     | _,_=>.fail
    | _,_=>.fail
   | _,_=>.fail
  | _,_=>.fail
 | x=>Ae5 τ src dst x
def Zk (j:Jag) (id i:Nat):V :=
 match j.size with
 | 1=>.mref id i
 | _=>match j.get i with
  | .agg cs=>match j.mp with
   | none=>.agg (cs.set j.off (.mref id i))
   | some q=>.agg ((cs.set j.off (.mref id i)).set q.off (.mmap id i))
  | _=>.und
def Ad8 (st:St) (t:TypeId):V->T V
 | .ptr id off=>match st.h[id]? with
  | some (.cells cs)=>match HS τ t cs off with
   | some v=>.leaf (v)
   | none=>.fail
  | _=>.fail
 | .pp v=>match EQ τ t v 0 with
  | some v=>.leaf (v)
  | none=>.fail
 | .ept id s i off=>match st.h[id]? with
  | some (.row _ s' n g)=>match Nat.beq s s',EQ τ t (g i) off with
   | true,some v=>.br (nlt i n) (.leaf (v)) .fail
   | _,_=>.fail
  | _=>.fail
 | .jept id s i off=>match st.h[id]? with
  | some (.jag j)=>match Nat.beq s j.size,EQ τ t (Zk j id i) off with
   | true,some v=>.br (nlt i j.n) (.br (j.live i) (.leaf v) .fail) .fail
   | _,_=>.fail
  | _=>.fail
 | .mept id i s k off=>match st.h[id]? with
  | some (.jag j)=>match Nat.beq s j.s',EQ τ t (j.mem i k) off with
   | true,some v=>.br (j.live i) (.br (nlt k (j.len i)) (.leaf v) .fail) .fail
   | _,_=>.fail
  | _=>.fail
 | _=>.fail
def EC (old:V) (off:Nat) (cs:List V):Option V :=
 match old with
 | .agg l=>match Nat.ble (Nat.add off cs.length) l.length with
  | true=>some (.agg (Dc l off cs))
  | false=>none
 | v=>match Jn v,off,cs with
  | true,0,[x]=>some x
  | _,_,_=>none
def Pt (st:St) (t:TypeId) (a x:V):T (V×St) :=
 match x.cells,τ[t]? with
 | some cs,some ty=>match Nat.beq cs.length ty.size with
  | true=>match a with
   | .ptr id off=>match st.h[id]? with
    | some (.cells old)=>match Nat.ble (Nat.add off cs.length) old.length with
     | true=>.leaf (A5,⟨st.t,st.h.set id (.cells (Dc old off cs))⟩)
     | false=>.fail
    | _=>.fail
   | .ept id s' i off=>match st.h[id]? with
    | some (.row e s n g)=>match EC (g i) off cs,free.frees cs,Nat.beq s s' with
     | some v,true,true=>.br (nlt i n) (.leaf (A5,⟨st.t,st.h.set id (.row e s n (BF g i v))⟩)) .fail
     | _,_,_=>.fail
    | some (.xrow false e s n g)=>match EC (g i) off cs,free.frees cs,Nat.beq s s' with
     | some v,true,true=>.br (nlt i n) (.leaf (A5,⟨st.t,st.h.set id (.xrow false e s n (BF g i v))⟩)) .fail
     | _,_,_=>.fail
    | _=>.fail
   | .jept id s' i off=>match st.h[id]? with
    | some (.jag j)=>match Nat.beq s' j.size with
     | true=>match Nat.beq off j.off,x with
      | true,.ref r=>(Vj st id i r).bind λst=>.leaf (A5,st)
      | true,.mref id2 i2=>(Iv st id2 i2).bind λst1=>(Vj st1 id i st.h.length).bind λst=>.leaf (A5,st)
      | _,_=>match Ap3 j.mp off,x with
       | true,.ref r=>(AcN st id i r).bind λst=>.leaf (A5,st)
       | _,_=>match EC (j.get i) off cs,free.frees cs,Av (bor (Nat.ble (Nat.add off cs.length) j.off) (Nat.blt j.off off)) (Ade j.mp off cs.length) with
        | some v,true,true=>.br (nlt i j.n) (.leaf (A5,⟨st.t,st.h.set id (.jag { j with get:=BF j.get i v })⟩)) .fail
        | _,_,_=>.fail
     | false=>.fail
    | _=>.fail
   | .mept id u s' i off=>match st.h[id]? with
    | some (.jag j)=>match EC (j.mem u i) off cs,free.frees cs,Nat.beq s' j.s' with
     | some v,true,true=>.br (j.live u) (.br (nlt i (j.len u)) (.leaf (A5,⟨st.t,st.h.set id (.jag { j with mem:=Dz j.mem u (BF (j.mem u) i v) })⟩)) .fail) .fail
     | _,_,_=>.fail
    | _=>.fail
   | _=>.fail
  | false=>.fail
 | _,_=>.fail
def Xa (st:St) (t:TypeId) (x:V) (lo hi:Option V):T V :=
 match τ[t]? with
 | some ty =>
  match ty.k,x with
  | .str,.str l =>
   match lo,hi with
   | none,none=>.leaf (.str l)
   | some (.val (.int _ a)),none=>.br (Av (ile 0 a) (ile a (Int.ofNat (CU l)))) (.leaf (.str (K2 (toN a) l))) .fail
   | none,some (.val (.int _ b))=>.br (Av (ile 0 b) (ile b (Int.ofNat (CU l)))) (.leaf (.str (K0 (toN b) l))) .fail
   | some (.val (.int _ a)),some (.val (.int _ b)) =>
    .br (Av (ile 0 a) (Av (ile a b) (ile b (Int.ofNat (CU l))))) (.leaf (.str (K2 (toN a) (K0 (toN b) l)))) .fail
   | _,_=>.fail
  | .sl e,.sl s n g =>
   match τ[e]? with
   | some te=>match Nat.beq s te.size with
    | true=>match lo,hi with
     | none,none=>.leaf (.sl s n g)
     | some (.val (.int _ a)),none=>.br (Av (ile 0 a) (ile a (Int.ofNat n))) (.leaf (.sl s (FF n (toN a)) λi=>g (Bh (toN a) i))) .fail
     | none,some (.val (.int _ b))=>.br (Av (ile 0 b) (ile b (Int.ofNat n))) (.leaf (.sl s (toN b) g)) .fail
     | some (.val (.int _ a)),some (.val (.int _ b)) =>
      .br (Av (ile 0 a) (Av (ile a b) (ile b (Int.ofNat n)))) (.leaf (.sl s (FF (toN b) (toN a)) λi=>g (Bh (toN a) i))) .fail
     | _,_=>.fail
    | false=>.fail
   | none=>.fail
  | .sl e,.slr s _ m g =>
   match τ[e]? with
   | some te=>match Nat.beq s te.size with
    | true=>match lo,hi with
     | none,some (.val (.int _ b))=>.br (Av (ile 0 b) (ile b (Int.ofNat m))) (.leaf (.sl s (toN b) g)) .fail
     | _,_=>.fail
    | false=>.fail
   | none=>.fail
  | .sl e,.ref id=>match st.h[id]? with
   | some (.row _ s n _)=>match τ[e]? with
    | some te=>match Nat.beq s te.size with
     | true=>match lo,hi with
      | none,some (.val (.int _ b))=>.br (Av (ile 0 b) (ile b (Int.ofNat n))) (.leaf (.rct id (toN b))) .fail
      | _,_=>.fail
     | false=>.fail
    | none=>.fail
   | _=>.fail
  | _,_=>.fail
 | none=>.fail
def KT (st:St) (t:TypeId) (lit:Bool) (x ix:V):T V :=
 match ix,τ[t]? with
 | .val (.int _ i),some ty =>
  match ty.k with
  | .sl e=>match τ[e]? with
   | some te=>match x with
    | .sl s n g=>match Nat.beq s te.size with
     | true=>.br (Av (ile 0 i) (ilt i (Int.ofNat n))) (.leaf (.pp (g (toN i)))) .fail
     | false=>.fail
    | .rct id k=>match st.h[id]? with
     | some (.row _ s _ _)=>match Nat.beq s te.size with
      | true=>.br (Av (ile 0 i) (ilt i (Int.ofNat k))) (.leaf (.ept id s (toN i) 0)) .fail
      | false=>.fail
     | _=>.fail
    | .ref id=>match st.h[id]? with
     | some (.row _ s n _)=>match Nat.beq s te.size with
      | true=>.br (Av (ile 0 i) (ilt i (Int.ofNat n))) (.leaf (.ept id s (toN i) 0)) .fail
      | false=>.fail
     | some (.xrow false _ s n _)=>match Nat.beq s te.size with
      | true=>.br (Av (ile 0 i) (ilt i (Int.ofNat n))) (.leaf (.ept id s (toN i) 0)) .fail
      | false=>.fail
     | _=>.fail
    | .jref id=>match st.h[id]? with
     | some (.jag j)=>match Nat.beq j.size te.size with
      | true=>.br (Av (ile 0 i) (ilt i (Int.ofNat j.n))) (.leaf (.jept id j.size (toN i) 0)) .fail
      | false=>.fail
     | _=>.fail
    | .mref id k=>match st.h[id]? with
     | some (.jag j)=>match Nat.beq j.s' te.size with
      | true=>.br (j.live k) (.br (Av (ile 0 i) (ilt i (Int.ofNat (j.len k)))) (.leaf (.mept id k j.s' (toN i) 0)) .fail) .fail
      | false=>.fail
     | _=>.fail
    | _=>.fail
   | none=>.fail
  | .arr len e=>match τ[e]? with
   | some te=>match x with
    | .ptr id off=>match lit with
     | true=>match J2 i len with
      | true=>.leaf (.ptr id (Nat.add off (Nat.mul i.toNat te.size)))
      | false=>.fail
     | false=>Ng i (λk=>.leaf (.ptr id (Nat.add off (Nat.mul k te.size)))) len 0
    | .pp v=>match lit with
     | true=>match J2 i len with
      | true=>match EQ τ e v (Nat.mul i.toNat te.size) with
       | some v=>.leaf (.pp v)
       | none=>.fail
      | false=>.fail
     | false=>match Nat.blt 16 len,PK (λk=>EQ τ e v (Nat.mul k te.size)) len 0 with
      | true,some ps=>.br (Av (ile 0 i) (ilt i (Int.ofNat len))) (.leaf (.pp (Sx ps (toN i)))) .fail
      | _,_=>Ng i (λk=>match EQ τ e v (Nat.mul k te.size) with
       | some v=>.leaf (.pp v)
       | none=>.fail) len 0
    | .ept id s 0 0=>match st.h[id]? with
     | some (.row _ s' n _)=>match Nat.beq s s',Nat.beq s te.size,Nat.beq n len with
      | true,true,true=>.br (Av (ile 0 i) (ilt i (Int.ofNat n))) (.leaf (.ept id s (toN i) 0)) .fail
      | _,_,_=>.fail
     | _=>.fail
    | _=>.fail
   | none=>.fail
  | _=>.fail
 | _,_=>.fail
def XG (t:TypeId) (lit:Bool) (x ix:V):T V :=
 match ix,τ[t]? with
 | .val (.int _ i),some ty =>
  match ty.k,x with
  | .str,.str l=>.br (Av (ile 0 i) (ilt i (Int.ofNat (CU l)))) (.leaf (.val (.int .u8 (Ov l (toN i))))) .fail
  | .arr len e,.agg cs=>match τ[e]? with
   | some te=>match lit with
    | true=>match J2 i len with
     | true=>T.ofOpt (HS τ e cs (Nat.mul i.toNat te.size))
     | false=>.fail
    | false=>Ng i (λk=>T.ofOpt (HS τ e cs (Nat.mul k te.size))) len 0
   | none=>.fail
  | _,_=>.fail
 | _,_=>.fail
def lenV (st:St) (t:TypeId) (x:V):T V :=
 match τ[t]? with
 | some ty =>
  match ty.k,x with
  | .str,.str l=>.leaf (iV (Int.ofNat (CU l)))
  | .sl _,.sl _ n _=>.leaf (iV (Int.ofNat n))
  | .sl _,.nilS=>.leaf (iV 0)
  | .sl _,.rct _ k=>.leaf (iV (Int.ofNat k))
  | .sl _,.ref id=>match st.h[id]? with
   | some (.row _ _ n _)=>.leaf (iV (Int.ofNat n))
   | some (.xrow _ _ _ n _)=>.leaf (iV (Int.ofNat n))
   | _=>.fail
  | .sl _,.jref id=>match st.h[id]? with
   | some (.jag j)=>.leaf (iV (Int.ofNat j.n))
   | _=>.fail
  | .sl _,.mref id i=>match st.h[id]? with
   | some (.jag j)=>.br (j.live i) (.leaf (iV (Int.ofNat (j.len i)))) .fail
   | _=>.fail
  | .arr n _,_=>.leaf (iV (Int.ofNat n))
  | .imap _,.mmap id i=>match st.h[id]? with
   | some (.jag j)=>match j.mp with
    | some q=>.br (nlt i j.n) (.br (q.live i) (.leaf (iV (Int.ofNat (q.len i)))) .fail) .fail
    | none=>.fail
   | _=>.fail
  | _,_=>.fail
 | none=>.fail
def Jo:List (Nat×Nat)->Option (Nat×Nat×Nat)
 | []=>none
 | (off,t)::l=>match τ[t]? with
   | some ty=>match ty.k with
    | .sl e=>match τ[e]? with
     | some te=>match Nat.blt 0 te.size with
      | true=>some (off,e,te.size)
      | false=>Jo l
     | none=>Jo l
    | _=>Jo l
   | none=>Jo l
def Hz:List (Nat×Nat)->Option (Nat×Nat×Nat)
 | []=>none
 | (off,t)::l=>match τ[t]? with
   | some ty=>match ty.k with
    | .sl e=>match τ[e]? with
     | some te=>match Nat.blt 0 te.size with
      | true=>some (off,e,te.size)
      | false=>Hz l
     | none=>Hz l
    | .st fs=>match Jo τ fs with
     | some (o,e,s)=>some (Nat.add off o,e,s)
     | none=>Hz l
    | _=>Hz l
   | none=>Hz l
def Iy (e:TypeId):Option (Nat×Nat×Nat) :=
 match τ[e]? with
 | some ty=>match ty.k with
  | .sl _=>Hz τ [(0,e)]
  | .st fs=>Hz τ fs
  | _=>none
 | none=>none
def Oc (st:St) (t:TypeId) (v:V):T (V×St) :=
 match v with
 | .nilS=>match τ[t]? with
  | some ty=>match ty.k with
   | .sl e=>match τ[e]? with
    | some te=>match Nat.blt 0 te.size with
     | true=>match te.k with
      | .sl _=>match Iy τ e with
       | some (off,e',s')=>Ea st (.jag ⟨e,te.size,0,λ_=>.und,off,e',s',λ_=>true,λ_=>0,λ_ _=>.und,none⟩) .jref
       | none=>.leaf (.nilS,st)
      | _=>Ea st (.row e te.size 0 λ_=>.und) .ref
     | false=>.leaf (.nilS,st)
    | none=>.leaf (.nilS,st)
   | _=>.leaf (.nilS,st)
  | none=>.leaf (.nilS,st)
 | v=>.leaf (v,st)
def UE (st:St) (t:TypeId) (x y:V):T (V×St) :=
 match τ[t]? with
 | some ts=>match ts.k with
  | .sl e =>
   match τ[e]? with
   | some ty =>
    match ty.zero.cells with
    | some zc =>
     match Nat.beq zc.length ty.size,Nat.blt 0 ty.size,Nat.blt 0 ty.bytes with
     | true,true,true =>
      match y with
      | .ref id'=>match st.h[id']? with
       | some (.row _ s' m g)=>match Nat.beq s' ty.size with
        | true=>Zo ty e st x m g
        | false=>.fail
       | _=>.fail
      | .sl s' m g=>match Nat.beq s' ty.size with
       | true=>Zo ty e st x m g
       | false=>.fail
      | .jref id'=>match x with
       | .jref id=>Zp ty e st id id'
       | .nilS=>(Oc τ st t .nilS).bind λr=>match r.1 with
        | .jref id=>Zp ty e r.2 id id'
        | _=>.fail
       | _=>.fail
      | _=>.fail
     | _,_,_=>.fail
    | none=>.fail
   | none=>.fail
  | _=>.fail
 | none=>.fail
def Pi:List (Nat×Nat)->St->List V->T (List V×St)
 | [],st,cs=>.leaf (cs,st)
 | (off,t)::l,st,cs=>match cs[off]? with
   | some .nilS=>(Oc τ st t .nilS).bind λr=>Pi l r.2 (cs.set off r.1)
   | _=>Pi l st cs
def upV (st:St) (t:TypeId) (v:V):T (V×St) :=
 match v with
 | .nilS=>Oc τ st t .nilS
 | .agg cs=>match τ[t]? with
  | some ty=>match ty.k with
   | .st fs=>(Pi τ fs st cs).bind λr=>.leaf (.agg r.1,r.2)
   | _=>.leaf (.agg cs,st)
  | none=>.leaf (.agg cs,st)
 | v=>.leaf (v,st)
def V0:List (Nat×Nat)->List V->Nat->Option Mp
 | [],_,_=>none
 | (o,t)::l,zc,off=>match τ[t]? with
   | some ty=>match ty.k,zc[o]?,Nat.beq o off with
    | .imap _,some (.val (.map none)),false=>some ⟨o,t,λ_=>false,λ_=>0,λ_ _=>false,λ_ _=>0⟩
    | _,_,_=>V0 l zc off
   | none=>V0 l zc off
def I9 (te:Ty) (zc:List V) (off:Nat):Option Mp :=
 match te.k with
 | .st fs=>V0 τ fs zc off
 | _=>none
def Adq (st:St) (t:TypeId) (l c:V):T (V×St) :=
 match l,c,τ[t]? with
 | .val (.int .i64 l),.val (.int .i64 c),some ty=>match ty.k with
  | .sl e=>match τ[e]? with
   | some te=>match te.zero.cells with
    | some zc=>match Nat.beq zc.length te.size,Nat.blt 0 te.size with
     | true,true=>match Iy τ e with
      | some (off,e',s')=>match zc[off]? with
       | some .nilS=>.br (F2 te.bytes l c) (Ea st (.jag ⟨e,te.size,toN l,λ_=>te.zero,off,e',s',λ_=>true,λ_=>0,λ_ _=>.und,I9 τ te zc off⟩) .jref) .fail
       | _=>.fail
      | none =>
      .br (F2 te.bytes l c)
       (Ea st (.row e te.size (toN l) λ_=>te.zero) .ref) .fail
     | _,_=>.fail
    | none=>.fail
   | none=>.fail
  | _=>.fail
 | _,_,_=>.fail
def PX (st:St) (t:TypeId):T (V×St) :=
 match τ[t]? with
 | some ty=>match ty.k with
  | .imap _=>Ea st (.imap t 0 λ_=>0) .ref
  | .gmap _ e=>match τ[e]? with
   | some te=>Ea st (.gmap t [] (λ_=>false) λ_=>te.zero) .ref
   | none=>.fail
  | _=>.fail
 | none=>.fail
def I3 (get:Int->Int) (k v:Int):Int->Int:=λx=>sel (ieq x k) v (get x)
def UL (e:TypeId):Bool :=
 match τ[e]? with
 | some te=>match te.zero with
  | .val (.int .i64 (.ofNat 0))=>true
  | _=>false
 | none=>false
def P0 (hs:Key->Bool) (k:Key):Key->Bool:=λx=>bor (keq x k) (hs x)
def R1 (g:Key->V) (k:Key) (v:V):Key->V:=λx=>Ry (keq x k) v (g x)
def YL {α:Type} (k:Key) (f:V->T α):List (Key×V)->T α
 | []=>.fail
 | a::l=>.br (keq k a.1) (f a.2) (YL k f l)
def OJ:K->Bool
 | .other=>true
 | _=>false
def Uo {α:Type} (st:St) (t:TypeId) (b:Bool) (e:TypeId) (id:Nat) (x:V) (f:V->Bool->V) (r:V->T α):T α :=
 match st.h[id]?,τ[e]?,AaK b x with
 | some (.gmap t' ks hs get),some te,some k=>match Nat.beq t t',te.zero.cells with
  | true,some _=>.br (XF k) (match OJ te.k with
   | true=>YL k (λv=>r (f v true)) ks
   | false=>r (f (Ry (hs k) (get k) te.zero) (hs k))) .fail
  | _,_=>.fail
 | _,_,_=>.fail
def TV (st:St) (t:TypeId) (m x:V):T V :=
 match τ[t]? with
 | some ty=>match ty.k,m,x with
  | .imap e,.ref id,.val (.int .i64 k)=>match st.h[id]?,UL τ e with
   | some (.imap t' _ get),true=>match Nat.beq t t' with
    | true=>.br (IM k) (.leaf (.val (.int .i64 (get k)))) .fail
    | false=>.fail
   | _,_=>.fail
  | .imap e,.mmap id i,.val (.int .i64 k)=>match st.h[id]?,UL τ e with
   | some (.jag j),true=>match j.mp with
    | some q=>match Nat.beq t q.t with
     | true=>.br (q.live i) (.br (IM k) (.leaf (.val (.int .i64 (q.get i k)))) .fail) .fail
     | false=>.fail
    | none=>.fail
   | _,_=>.fail
  | .gmap b e,.ref id,x=>Uo τ st t b e id x (λv _=>v) .leaf
  | _,_,_=>.fail
 | none=>.fail
def TW (st:St) (t:TypeId) (m x:V):T V :=
 match τ[t]? with
 | some ty=>match ty.k,m,x with
  | .imap e,.mmap id i,.val (.int .i64 k)=>match st.h[id]?,UL τ e with
   | some (.jag j),true=>match j.mp with
    | some q=>match Nat.beq t q.t with
     | true=>.br (q.live i) (.br (IM k) (.leaf (.tup [.val (.int .i64 (q.get i k)),bV (q.hs i k)])) .fail) .fail
     | false=>.fail
    | none=>.fail
   | _,_=>.fail
  | .gmap b e,.ref id,x=>Uo τ st t b e id x (λv h=>.tup [v,bV h]) .leaf
  | _,_,_=>.fail
 | none=>.fail
def OD (st:St) (t:TypeId) (m x v:V):T (V×St) :=
 match τ[t]? with
 | some ty=>match ty.k,m,x,v with
  | .imap _,.ref id,.val (.int .i64 k),.val (.int .i64 y)=>match st.h[id]? with
   | some (.imap t' n get)=>match Nat.beq t t' with
    | true=>.br (nlt n 4611686018427387904) (.br (IM k) (.br (IM y) (.leaf (A5,⟨st.t,st.h.set id (.imap t (Bh n 1) (I3 get k y))⟩)) .fail) .fail) .fail
    | false=>.fail
   | _=>.fail
  | .imap _,.mmap id i,.val (.int .i64 k),.val (.int .i64 y)=>match st.h[id]? with
   | some (.jag j)=>match j.mp with
    | some q=>match Nat.beq t q.t with
     | true=>.br (nlt i j.n) (.br (q.live i) (.br (nlt (q.len i) 4611686018427387904) (.br (IM k) (.br (IM y) (.leaf (A5,⟨st.t,st.h.set id (.jag { j with mp:=some { q with len:=Dq q.len i (sel (q.hs i k) (q.len i) (Bh (q.len i) 1)),hs:=Gy q.hs i λx=>sel (ieq x k) true (q.hs i x),get:=Gy q.get i (I3 (q.get i) k y) } })⟩)) .fail) .fail) .fail) .fail) .fail
     | false=>.fail
    | none=>.fail
   | _=>.fail
  | .gmap b e,.ref id,x,y=>match st.h[id]?,τ[e]?,AaK b x with
   | some (.gmap t' ks hs get),some te,some k=>match Nat.beq t t',free y with
    | true,true=>.br (XF k) (.leaf (A5,⟨st.t,st.h.set id (.gmap t (match OJ te.k with | true=>(k,y)::ks | false=>[]) (P0 hs k) (R1 get k y))⟩)) .fail
    | _,_=>.fail
   | _,_,_=>.fail
  | _,_,_,_=>.fail
 | none=>.fail
def AhZ (t:TypeId):Bool:=match τ[t]? with
 | some ty=>match ty.k with
  | .imap _=>true
  | _=>false
 | none=>false
def Amf (t:TypeId):Bool:=match τ[t]? with
 | some ty=>match ty.k with
  | .sl _=>true
  | _=>false
 | none=>false
def AkT (st:St) (op:BinOp) (t:TypeId) (lit:Bool) (x y:V):T V :=
 match x,y with
 | .mmap id i,.val (.map none)=>match st.h[id]? with
  | some (.jag j)=>match j.mp,AhZ τ t with
   | some q,true=>match op with
    | .eql=>.leaf (bV (AL (q.live i)))
    | .neq=>.leaf (bV (q.live i))
    | _=>.fail
   | _,_=>.fail
  | _=>.fail
 | .sl _ n _,.nilS=>match Amf τ t with
  | true=>match op with
   | .eql=>.br (RA 0 n) (.leaf (bV false)) .fail
   | .neq=>.br (RA 0 n) (.leaf (bV true)) .fail
   | _=>.fail
  | false=>.fail
 | x,y=>AkS τ op t lit x y
def FH (s:TypeId) (f:Nat) (x:V):T V :=
 match τ[s]? with
 | some ty=>match ty.k with
  | .st fs=>match fs[f]? with
   | some (off,ft)=>match τ[ft]? with
    | some te=>match Nat.blt 0 te.size with
     | true=>match x with
      | .ptr id o=>.leaf (.ptr id (Nat.add o off))
      | .ept id s i o=>.leaf (.ept id s i (Nat.add o off))
      | .jept id s i o=>.leaf (.jept id s i (Nat.add o off))
      | .mept id i s k o=>.leaf (.mept id i s k (Nat.add o off))
      | .pp v=>match EQ τ ft v off with
       | some v=>.leaf (.pp v)
       | none=>.fail
      | _=>.fail
     | false=>.fail
    | none=>.fail
   | none=>.fail
  | _=>.fail
 | none=>.fail
def XP (s:TypeId) (f:Nat) (x:V):T V :=
 match τ[s]? with
 | some ty=>match ty.k,x with
  | .st fs,.agg cs=>match fs[f]? with
   | some (off,ft)=>T.ofOpt (HS τ ft cs off)
   | none=>.fail
  | _,_=>.fail
 | none=>.fail
def keep (st:St) (t:T V):T (V×St):=t.bind λv=>.leaf (v,st)
def Gv (o:Oper) (st:St):T V :=
 match o.op with
 | .move x | .assign x =>
  match ev Γ st x with
  | .nilS=>.fail
  | v=>.leaf v
 | .pick c a b =>
  match ev Γ st c with
  | .val (.bool c)=>.br c (.leaf (ev Γ st a)) (.leaf (ev Γ st b))
  | _=>.fail
 | .build t parts=>T.ofOpt (Yr τ t (evs Γ st parts.toList))
 | .load t a=>Ad8 τ st t (ev Γ st a)
 | .nilCheck x =>
  match ev Γ st x with
  | .ptr id o=>.leaf (.ptr id o)
  | .ept id s i o=>.leaf (.ept id s i o)
  | .jept id s i o=>.leaf (.jept id s i o)
  | .mept id i s k o=>.leaf (.mept id i s k o)
  | .pp v=>.leaf (.pp v)
  | .fn f cs=>.leaf (.fn f cs)
  | _=>.fail
 | .binOp op t x y _=>AkT τ st op t (Nw y) (ev Γ st x) (ev Γ st y)
 | .unOp op _ x=>unV op (ev Γ st x)
 | .convert src dst x=>Ae7 τ st src dst (ev Γ st x)
 | .makeFunc (.func f) first captured=>match Nat.beq first.size 0 with
  | true=>.leaf (.fn f (args Γ st captured.toList))
  | false=>.fail
 | .slice t x lo hi none=>Xa τ st t (ev Γ st x) (lo.map (ev Γ st)) (hi.map (ev Γ st))
 | .fieldAddr s x f=>FH τ s f (ev Γ st x)
 | .field s x f=>XP τ s f (ev Γ st x)
 | .indexAddr t x ix=>KT τ st t (Nw ix) (ev Γ st x) (ev Γ st ix)
 | .lookup t m x false=>TV τ st t (ev Γ st m) (ev Γ st x)
 | .lookup t m x true=>TW τ st t (ev Γ st m) (ev Γ st x)
 | .index t x ix=>XG τ t (Nw ix) (ev Γ st x) (ev Γ st ix)
 | .extract x i =>
  match ev Γ st x with
  | .tup vs=>T.ofOpt vs[i]?
  | _=>.fail
 | .call c =>
  match c.callee with
  | .value f =>
   match ev Γ st f with
   | .fn g caps=>(Γ.call g (args Γ st c.args.toList++caps) st).bind λr=>match r.2 with
    | .more []=>.leaf r.1
    | _=>.fail
   | _=>.fail
  | .builtin .len =>
   match args Γ st c.args.toList,c.argTypes.toList with
   | [x],[t]=>lenV τ st t x
   | _,_=>.fail
  | .builtin .min =>
   match args Γ st c.args.toList with
   | [.val (.int k x),.val (.int _ y)]=>.leaf (.val (.int k (sel (ilt y x) y x)))
   | [.val (.int k x),.val (.int _ y),.val (.int _ z)]=>.leaf (.val (.int k (sel (ilt z (sel (ilt y x) y x)) z (sel (ilt y x) y x))))
   | _=>.fail
  | .builtin .max =>
   match args Γ st c.args.toList with
   | [.val (.int k x),.val (.int _ y)]=>.leaf (.val (.int k (sel (ilt x y) y x)))
   | _=>.fail
  | _=>.fail
 | _=>.fail
def after (h:List Blk):List Blk->List Blk
 | []=>h
 | .dead::l=>l
 | b::l=>h++b::l
def Hf (st:St):Res->St
 | .more l=>⟨st.t,after st.h l⟩
 | .all st'=>st'
def Acl (c:Call) (st:St):T (V×St) :=
 match c.callee with
 | .value f =>
  match ev Γ st f with
  | .fn g caps=>(Γ.call g (args Γ st c.args.toList++caps) st).bind λr=>.leaf (r.1,Hf st r.2)
  | _=>.fail
 | .builtin .append =>
  match args Γ st c.args.toList,c.argTypes.toList with
  | [x,y],[t,t']=>match Nat.beq t t' with
   | true=>UE τ st t x y
   | false=>.fail
  | _,_=>.fail
 | _=>.fail
def V5 (c:Call):Bool :=
 match c.callee with
 | .value _=>true
 | .builtin .append=>true
 | _=>false
def QC:List V->Nat->Bool
 | [],0=>true
 | .val (.bool false)::l,n+1=>QC l n
 | _,_=>false
def OW:List V->Nat->Bool
 | [],0=>true
 | .val (.int .i64 (.ofNat 0))::l,n+1=>OW l n
 | _,_=>false
def Yv (ty:Ty) (cs:List V):Option (Nat×V) :=
 match ty.k with
 | .arr n _=>match Nat.blt 14 n,Nat.ble n 1000000,QC cs n with
  | true,true,true=>some (n,bV false)
  | true,true,false=>match OW cs n with
   | true=>some (n,iV 0)
   | false=>none
  | _,_,_=>none
 | _=>none
def Ys (te:Ty) (e:TypeId) (st:St) (len:Nat) (els:List V):T (V×St) :=
 match te.k,Iy τ e,Nat.beq te.size 1,Nat.beq len 1,te.zero.cells,els with
 | .sl _,some (_,e',s'),true,true,some [_],[.ref r]=>match st.h[r]? with
  | some (.row e2 s2 _ _)=>match Nat.beq e' e2,Nat.beq s' s2 with
   | true,true=>TX st e r
   | _,_=>.fail
  | _=>.fail
 | .sl _,some (_,e',s'),true,true,some [_],[.mref id i]=>(Iv st id i).bind λst1=>match st1.h[st.h.length]? with
  | some (.row e2 s2 _ _)=>match Nat.beq e' e2,Nat.beq s' s2 with
   | true,true=>TX st1 e st.h.length
   | _,_=>.fail
  | _=>.fail
 | _,_,_,_,_,_=>.fail
def step (o:Oper) (st:St):T (V×St) :=
 match o.op with
 | .move x | .assign x=>Oc τ st o.type (ev Γ st x)
 | .alloc t =>
  match τ[t]? with
  | some ty=>match ty.zero.cells with
   | some cs=>match Yv ty cs with
    | some p=>Ea st (.row t 1 p.1 λ_=>p.2) λid=>.ept id 1 0 0
    | none=>Ea st (.cells cs) (.ptr · 0)
   | none=>.fail
  | none=>.fail
 | .box t x=>(upV τ st t (ev Γ st x)).bind λr=>match r.1.cells with
  | some cs=>Ea r.2 (.cells cs) (.ptr · 0)
  | none=>.fail
 | .buildSlice t len parts =>
  match τ[t]? with
  | some ty=>match ty.k with
   | .sl e=>match τ[e]? with
    | some te =>
     match HC 0 (evs Γ st parts.toList) with
     | some els =>
      match Mt te.size els,Nat.beq els.length len,Nat.ble (Nat.mul len te.size) 16777216,Nat.blt 0 te.size,te.zero.cells with
      | true,true,true,true,some zc=>match Nat.beq zc.length te.size with
       | true=>Ea st (.row e te.size len (Cy len els)) .ref
       | false=>.fail
      | _,_,_,_,_=>Ys τ te e st len els
     | none=>.fail
    | none=>.fail
   | _=>.fail
  | none=>.fail
 | .store t a x=>match ev Γ st a with
  | .ptr id off=>match ev Γ st x with
   | .rct r k=>match st.h[r]? with
    | some (.row e s _ g)=>Pt τ ⟨kill.kills r st.t,(AU r st.h).set r (.row e s k g)⟩ t (.ptr id off) (.ref r)
    | _=>.fail
   | xv=>(upV τ st t xv).bind λr=>Pt τ r.2 t (.ptr id off) r.1
  | av=>Pt τ st t av (ev Γ st x)
 | .makeSlice t l c=>Adq τ st t (ev Γ st l) (ev Γ st c)
 | .makeMap t none=>PX τ st t
 | .mapUpdate t m x v=>OD τ st t (ev Γ st m) (ev Γ st x) (ev Γ st v)
 | .insert t m x v=>OD τ st t (ev Γ st m) (ev Γ st x) (ev Γ st v)
 | .call c=>match V5 c with
  | true=>Acl τ Γ c st
  | false=>keep st (Gv τ Γ o st)
 | _=>keep st (Gv τ Γ o st)
def KU {α:Type} (all:Array Oper) (st:St) (o:Oper) (run skip:T α):T α :=
 match o.guard with
 | none=>run
 | some (j,want) =>
  match all[j]? with
  | some oj=>match oj.dst with
   | some d=>match nth st.t d with
    | .val (.bool b)=>match want with
     | true=>.br b run skip
     | false=>.br b skip run
    | .val (.tuple _)=>skip
    | _=>.fail
   | none=>.fail
  | none=>.fail
def Ja (all:Array Oper) (o:Oper) (st:St):T St :=
 KU all st o ((step τ Γ o st).bind λr=>.leaf (put r.2 o.dst r.1)) (.leaf (put st o.dst A5))
def H4 (all:Array Oper):List Oper->St->T St
 | [],st=>.leaf st
 | o::l,st=>(Ja τ Γ all o st).bind (H4 all l)
def Jj:List Operand->List Nat
 | []=>[]
 | .tmp t::l=>t::Jj l
 | _::l=>Jj l
def Bq (all:Array Oper) (o:Oper):List Nat :=
 match o.guard with
 | some (j,_)=>match all[j]? with
  | some oj=>match oj.dst with
   | some d=>d::Jj o.op.operands.toList
   | none=>Jj o.op.operands.toList
  | none=>Jj o.op.operands.toList
 | none=>Jj o.op.operands.toList
def D2 (n:Nat):List Nat->Bool
 | []=>false
 | m::l=>match Nat.beq m n with
  | true=>true
  | false=>D2 n l
def C9 (rs:List Nat):Nat->List V->List V
 | _,[]=>[]
 | i,v::l=>(match D2 i rs with
  | true=>v
  | false=>.und)::C9 rs (Nat.succ i) l
def CV (all:Array Oper) (o:Oper) (st:St):T V :=
 KU all ⟨C9 (Bq all o) 0 st.t,st.h⟩ o (Gv τ Γ o ⟨C9 (Bq all o) 0 st.t,st.h⟩) (.leaf A5)
def GO (all:Array Oper):List Oper->St->T St
 | [],st=>.leaf st
 | o::l,st=>(CV τ Γ all o st).bind λv=>GO all l (put st o.dst v)
def Ig:Nat->List Oper->Bool
 | _,[]=>true
 | i,o::l=>match o.after.toList.all (λe=>match Region.binds .any e with
   | true=>Nat.blt e.on i
   | false=>true) with
  | true=>Ig (Nat.succ i) l
  | false=>false
def N8:List Oper->Bool
 | []=>true
 | o::l=>match o.dst with
  | some d=>match l.all (λo'=>match o'.dst with
    | some d'=>match Nat.beq d d' with
     | true=>false
     | false=>true
    | none=>true) with
   | true=>N8 l
   | false=>false
  | none=>N8 l
def LG (bf:Array Nat) (j:Nat) (rs:List Nat):Nat->List Oper->Bool
 | _,[]=>true
 | k,o::l=>match (match o.dst with
   | some d=>match D2 d rs,Nat.beq k j with
    | true,false=>match Nat.blt k j with
     | true=>Nat.testBit (bf.getD j 0) k
     | false=>Nat.testBit (bf.getD k 0) j
    | true,true=>false
    | false,_=>true
   | none=>true) with
  | true=>LG bf j rs (Nat.succ k) l
  | false=>false
def ME (all:Array Oper) (bf:Array Nat):Nat->List Oper->Bool
 | _,[]=>true
 | j,o::l=>match LG bf j (Bq all o) 0 all.toList with
  | true=>ME all bf (Nat.succ j) l
  | false=>false
def GE:List Oper->Nat
 | []=>0
 | o::l=>match o.op with
  | .store _ _ _=>0
  | .mapUpdate _ _ _ _ | .insert _ _ _ _=>0
  | _=>Nat.succ (GE l)
def M1 (bf:Array Nat):Nat->Nat->Bool
 | _,0=>true
 | k,n+1=>match (List.range k).all λj=>Nat.testBit (bf.getD k 0) j with
  | true=>M1 bf (Nat.succ k) n
  | false=>false
def Ii (bf:Array Nat):Nat->Nat
 | 0=>0
 | k+1=>match (List.range k).all λj=>Nat.testBit (bf.getD k 0) j with
  | true=>Ii bf k
  | false=>Nat.succ k
def Ek (ops:Array Oper):Nat:=match Nat.ble (Ii (Region.before ops) ops.size) (GE ops.toList) with
 | true=>Ii (Region.before ops) ops.size
 | false=>GE ops.toList
def AgC (o:Oper):Bool :=
 match o.op with
 | .store _ _ _ | .mapUpdate _ _ _ _ | .insert _ _ _ _ | .buildSlice _ _ _ | .makeSlice _ _ _ | .makeMap _ _ | .alloc _ | .box _ _=>true
 | .call c=>match c.callee with
  | .builtin .append=>true
  | .value _=>match τ[o.type]? with
   | some ty=>match ty.k with
    | .sl _=>true
    | .gmap _ _=>true
    | .st _=>match Iy τ o.type with
     | some _=>true
     | none=>false
    | _=>false
   | none=>false
  | _=>false
 | _=>false
def MH:List Oper->List Tmp
 | []=>[]
 | o::l=>match o.op with
  | .fieldAddr _ _ _ | .indexAddr _ _ _ | .nilCheck _=>match o.dst with
   | some d=>d::MH l
   | none=>MH l
  | _=>MH l
def Agt (ts:List Tmp) (o:Oper):Bool :=
 match o.op with
 | .call c=>match c.callee with
  | .value _=>c.args.toList.any λx=>match x with
   | .tmp t=>D2 t ts
   | _=>false
  | _=>false
 | _=>false
def Pj:List Oper->Bool
 | []=>false
 | o::l=>match o.op with
  | .extract _ _=>match τ[o.type]? with
   | some ty=>match ty.k with
    | .sl _=>true
    | .gmap _ _=>true
    | .st _=>match Iy τ o.type with
     | some _=>true
     | none=>Pj l
    | _=>Pj l
   | none=>Pj l
  | _=>Pj l
def Afp (o:Oper):Bool :=
 match o.op with
 | .call c=>match c.callee,τ[o.type]? with
  | .value _,some ty=>match ty.k,ty.zero with
   | .other,.und=>true
   | _,_=>false
  | _,_=>false
 | _=>false
def Wg (ts:List Tmp) (b:Bool):List Oper->Nat
 | []=>0
 | o::l=>match AgC τ o || Agt ts o || (b && Afp τ o) with
  | true=>0
  | false=>Nat.succ (Wg ts b l)
def Dx (l:List Oper):Nat:=Wg τ (MH l) (Pj τ l) l
def D4 (o:Oper):Bool :=
 match o.guard with
 | some _=>false
 | none=>match o.op with
  | .move _ | .fieldAddr _ _ _ | .indexAddr _ _ _ | .load _ _ | .nilCheck _ | .binOp _ _ _ _ _ | .build _ _=>match o.dst with
   | some _=>true
   | none=>false
  | .call c=>match c.callee,o.dst with
   | .builtin .len,some _=>true
   | _,_=>false
  | _=>false
def OG (bf:Array Nat) (m:Nat):Nat->List Oper->List Nat
 | _,[]=>[]
 | i,o::l=>match Nat.ble m i,D4 o,(List.range i).all λj=>Nat.testBit (bf.getD i 0) j with
  | true,true,false=>i::OG bf m (Nat.succ i) l
  | _,_,_=>OG bf m (Nat.succ i) l
def LW (bf:Array Nat) (m:Nat):List Nat->List Nat->List Nat
 | _,[]=>[]
 | ks,i::l=>match (List.range i).all λj=>!Nat.testBit (bf.getD i 0) j || (Nat.blt j m || D2 j ks) with
  | true=>i::LW bf m (i::ks) l
  | false=>LW bf m ks l
def Mv (bf:Array Nat) (m n:Nat) (ls:List Nat):Nat->List Oper->List Nat
 | _,[]=>[]
 | i,o::l=>match D4 o,(List.range n).all λj=>Nat.blt j m || D2 j ls || Nat.testBit (bf.getD j 0) i with
  | true,false=>i::Mv bf m n ls (Nat.succ i) l
  | _,_=>Mv bf m n ls (Nat.succ i) l
def Ia (all:Array Oper) (bf:Array Nat) (m:Nat) (lts:List Nat) (q:Nat) (oq:Oper):Nat->List Oper->Bool
 | _,[]=>true
 | j,o::l=>match Nat.beq j q || (Nat.blt j m && !D2 j lts) || Nat.testBit (bf.getD q 0) j || ((o.after.toList.any (λe=>Region.binds .any e && Nat.beq e.on q) || Oper.apart all oq o) && (match o.dst with
    | some d=>!(oq.looksAt all).contains d || (!D2 j lts && Nat.testBit (bf.getD j 0) q)
    | none=>true)) with
  | true=>Ia all bf m lts q oq (Nat.succ j) l
  | false=>false
def Eb (o:Oper):Bool :=
 match o.guard,o.dst with
 | none,some _=>match o.op with
  | .alloc t=>match τ[t]? with
   | some ty=>match ty.zero.cells with
    | some cs=>match Yv ty cs with
     | some _=>false
     | none=>true
    | none=>false
   | none=>false
  | .buildSlice t _ _=>match τ[t]? with
   | some ts=>match ts.k with
    | .sl e=>match τ[e]? with
     | some te=>match te.k with
      | .sl _=>false
      | _=>true
     | none=>false
    | _=>false
   | none=>false
  | _=>false
 | _,_=>false
def Fe (o:Oper):Bool :=
 match o.guard,o.dst with
 | none,some _=>match o.op with
  | .extract _ _=>true
  | _=>false
 | _,_=>false
def GB (o:Oper):Bool:=Eb τ o || Fe o
def E0 (vs:List Nat):List Nat->List Nat
 | []=>[]
 | q::l=>match D2 q vs with
  | true=>E0 vs l
  | false=>q::E0 vs l
def WL (bf:Array Nat):List Nat->Bool
 | []=>true
 | i::l=>l.all (λj=>Nat.testBit (bf.getD j 0) i) && WL bf l
def Zu (ops:Array Oper) (bf:Array Nat) (c:List Nat):List Nat->Nat
 | []=>ops.size
 | i::l=>match (match ops[i]? with
   | some o=>Eb τ o
   | none=>false) && WL bf (E0 [i] c) with
  | true=>i
  | false=>Zu ops bf c l
def AcP (bf:Array Nat) (p:Nat):List Nat->List Nat
 | []=>[p]
 | i::l=>match Nat.testBit (bf.getD i 0) p with
  | true=>p::i::l
  | false=>i::AcP bf p l
def J7 (ops:Array Oper) (bf:Array Nat) (c:List Nat):List Nat->List Nat
 | []=>[]
 | i::l=>match (match ops[i]? with
   | some o=>GB τ o
   | none=>false) && !(c.all λj=>Nat.beq i j || (Nat.testBit (bf.getD i 0) j || Nat.testBit (bf.getD j 0) i)) with
  | true=>i::J7 ops bf c l
  | false=>J7 ops bf c l
def AcQ (bf:Array Nat):List Nat->List Nat->List Nat
 | [],c=>c
 | p::ps,c=>AcQ bf ps (AcP bf p c)
def AcW (ops:Array Oper) (bf:Array Nat) (c:List Nat) (p:Nat):List Nat×List Nat :=
 match Nat.blt p ops.size with
 | true=>([p],AcP bf p (E0 [p] c))
 | false=>(J7 τ ops bf c c,AcQ bf (J7 τ ops bf c c) (E0 (J7 τ ops bf c c) c))
def AcV (ops:Array Oper) (bf:Array Nat) (c:List Nat):List Nat×List Nat :=
 match WL bf c with
 | true=>([],c)
 | false=>AcW τ ops bf c (Zu τ ops bf c c)
def KZ (bf:Array Nat) (ps:List Nat):List Nat->Bool
 | []=>true
 | i::l=>(l.all (λj=>D2 j ps || Nat.testBit (bf.getD j 0) i) && (i::l).all λj=>!Nat.testBit (bf.getD i 0) j) && (!D2 i l && KZ bf ps l)
def Anh (ops:List Oper):Bool:=ops.all λo=>match o.op with
 | .select _ _=>false
 | _=>true
def FC:Nat->List Nat->Bool
 | _,[]=>true
 | m,q::l=>match Nat.ble m q with
  | true=>FC (Nat.succ q) l
  | false=>false
def TY (ops:Array Oper) (m:Nat) (es ls ps ord:List Nat):Bool :=
 (KZ (Region.before ops) ps ord && ord.all λi=>Nat.ble m i && Nat.blt i ops.size && !D2 i (es++ls) && (List.range m).all λj=>D2 j (es++ls) || Nat.testBit ((Region.before ops).getD i 0) j) &&
 ((List.range ops.size).all λi=>Nat.blt i m || D2 i (es++ls) || D2 i ord) && (ps.all λp=>(match ops[p]? with
   | some o=>GB τ o
   | none=>false) && ps.all λq=>!Nat.testBit ((Region.before ops).getD p 0) q) && (ls.all λi=>(List.range i).all λj=>!Nat.testBit ((Region.before ops).getD i 0) j || (Nat.blt j m || D2 j (es++ls))) &&
 Anh ops.toList && FC 0 (es++ls) && FC m ls && es.all (λq=>Nat.blt q m) && Nat.ble m ops.size && (es++ls).all λq=>match ops[q]? with
  | some oq=>D4 oq && Ia ops (Region.before ops) m (es++ls) q oq 0 ops.toList && (match oq.dst with
   | some d=>!(oq.looksAt ops).contains d
   | none=>false)
  | none=>false
def Ct (bf:Array Nat) (i:Nat):List Nat->List Nat
 | []=>[]
 | q::l=>match Nat.testBit (bf.getD i 0) q with
  | true=>Ct bf i l
  | false=>q::Ct bf i l
def TC:V->V->T Unit
 | .ptr a b,.ptr c d=>match Nat.beq a c,Nat.beq b d with
  | true,true=>.leaf ()
  | _,_=>.fail
 | .ref a,.ref b=>match Nat.beq a b with
  | true=>.leaf ()
  | false=>.fail
 | .jref a,.jref b=>match Nat.beq a b with
  | true=>.leaf ()
  | false=>.fail
 | .mref a i,.mref b i'=>match Nat.beq a b with
  | true=>.br (Fz i i') (.leaf ()) .fail
  | false=>.fail
 | .mmap a i,.mmap b i'=>match Nat.beq a b with
  | true=>.br (Fz i i') (.leaf ()) .fail
  | false=>.fail
 | .ept a s i o,.ept b s' i' o'=>match Nat.beq a b,Nat.beq s s',Nat.beq o o' with
  | true,true,true=>.br (Fz i i') (.leaf ()) .fail
  | _,_,_=>.fail
 | .jept a s i o,.jept b s' i' o'=>match Nat.beq a b,Nat.beq s s',Nat.beq o o' with
  | true,true,true=>.br (Fz i i') (.leaf ()) .fail
  | _,_,_=>.fail
 | .val (.int k a),.val (.int k' b)=>match XH k k' with
  | true=>.br (ieq a b) (.leaf ()) .fail
  | false=>.fail
 | .val (.bool a),.val (.bool b)=>.br (JD a b) (.leaf ()) .fail
 | .str a,.str b=>.br (seq a b) (.leaf ()) .fail
 | .nilS,.nilS=>.leaf ()
 | _,_=>.fail
def Xg:List V->List V->T Unit
 | [],[]=>.leaf ()
 | a::as0,b::bs=>(TC a b).bind λ_=>Xg as0 bs
 | _,_=>.fail
def P2:V->V->T Unit
 | .agg as0,.agg bs=>Xg as0 bs
 | a,b=>TC a b
def JV (all:Array Oper):List Nat->St->T St
 | [],st=>.leaf st
 | q::l,st=>match all[q]? with
  | some o=>(CV τ Γ all o st).bind λv=>JV all l (put st o.dst v)
  | none=>.fail
def Ix (all:Array Oper):List Nat->St->T Unit
 | [],_=>.leaf ()
 | q::l,st=>match all[q]? with
  | some o=>match o.dst with
   | some d=>(CV τ Γ all o st).bind λv=>(P2 v (nth st.t d)).bind λ_=>Ix all l st
   | none=>.fail
  | none=>.fail
def AbH:V->Bool
 | .sl _ _ _=>true
 | .slr _ _ _ _=>true
 | .pp _=>true
 | _=>false
def Ah9:V->Bool
 | .agg cs=>cs.any AbH
 | v=>AbH v
def GK (all:Array Oper) (st:St):List Nat->List Nat
 | []=>[]
 | q::l=>match all[q]? with
  | some o=>match o.dst with
   | some d=>match Ah9 (nth st.t d) with
    | true=>q::GK all st l
    | false=>GK all st l
   | none=>GK all st l
  | none=>GK all st l
def Acs (st:St) (y:Operand):Option (Option Nat) :=
 match ev Γ st y with
 | .ptr id _=>match st.h[id]? with
  | some (.cells _)=>some (some id)
  | _=>none
 | .ept id _ _ _=>match st.h[id]? with
  | some (.row _ _ _ _)=>some (some id)
  | _=>none
 | .pp (.agg (_::_))=>some none
 | .pp u=>match Jn u with
  | true=>some none
  | false=>none
 | .jept id _ _ _=>match st.h[id]? with
  | some (.jag _)=>some (some id)
  | _=>none
 | _=>none
def L1 (all:Array Oper) (st:St) (q:Nat):Bool :=
 match all[q]? with
 | some oq=>match oq.op with
  | .move _=>true
  | .build _ _=>true
  | .indexAddr _ _ _=>true
  | .fieldAddr s _ f=>match FH τ s f (.ptr 0 0) with
   | .leaf _=>true
   | _=>false
  | .nilCheck x=>match ev Γ st x with
   | .pp _=>true
   | _=>false
  | .binOp .sub _ x y _=>match ev Γ st x,ev Γ st y with
   | .val (.int _ _),.val (.int _ _)=>true
   | _,_=>false
  | .call c=>match c.callee,c.args.toList,c.argTypes.toList with
   | .builtin .len,[x],[_]=>match ev Γ st x with
    | .sl _ _ _=>true
    | _=>false
   | _,_,_=>false
  | .load _ y=>match Acs Γ st y with
   | some _=>true
   | none=>false
  | _=>false
 | none=>false
def Wc (all:Array Oper) (o:Oper) (st:St) (q:Nat):Bool :=
 match o.op with
 | .store _ x _=>match ev Γ st x with
  | .ptr id _=>match st.h[id]? with
   | some (.cells _)=>match all[q]? with
    | some oq=>match oq.op with
     | .load _ y=>match Acs Γ st y with
      | some (some id')=>match Nat.beq id id' with
       | true=>false
       | false=>true
      | some none=>true
      | none=>false
     | _=>L1 τ Γ all st q
    | none=>false
   | _=>false
  | _=>false
 | _=>false
def Wd (all:Array Oper) (o:Oper) (st:St) (q:Nat):Bool :=
 match o.op with
 | .move _ | .assign _ | .build _ _=>true
 | .call _=>L1 τ Γ all st q
 | _=>match Eb τ o with
  | true=>L1 τ Γ all st q
  | false=>Wc τ Γ all o st q
def AdI (o:Oper) (st:St):List Nat->T Unit
 | []=>.leaf ()
 | _::_=>match o.op with
  | .call c=>match c.callee with
   | .value f=>match ev Γ st f with
    | .fn g caps=>(Γ.call g (args Γ st c.args.toList++caps) st).bind λr=>Yx (AdF r.2)
    | _=>.fail
   | _=>.fail
  | _=>.leaf ()
def XL (all:Array Oper) (ql:List Nat) (p:Nat) (st:St):T Unit :=
 match all[p]? with
 | some o=>match o.dst with
  | some d=>match nth st.t d with
   | .und=>(Yx (Fe o || ql.all (L1 τ Γ all st))).bind λ_=>(Yx (Nat.blt d st.t.length)).bind λ_=>(step τ Γ o st).bind λ_=>.leaf ()
   | _=>.fail
  | none=>.fail
 | none=>.fail
def ON (all:Array Oper) (bf:Array Nat) (ql il:List Nat):List Nat->St->T Unit
 | [],_=>.leaf ()
 | p::ps,st=>(match D2 p il && il.all λj=>!Nat.testBit (bf.getD p 0) j with
   | true=>XL τ Γ all ql p st
   | false=>.leaf ()).bind λ_=>ON all bf ql il ps st
def Js (all:Array Oper) (bf:Array Nat) (lts vs ps:List Nat):List Nat->List Nat->St->T St
 | _,[],st=>.leaf st
 | ql,i::l,st=>match all[i]? with
  | some o=>(ON τ Γ all bf ql (i::l) ps st).bind λ_=>(Yx ((Ct bf i vs).all (Wd τ Γ all o st))).bind λ_=>(AdI Γ o st (Ct bf i vs)).bind λ_=>(Ja τ Γ all o st).bind λst1=>(Ix τ Γ all (Ct bf i lts) st1).bind λ_=>Js all bf lts vs ps (Ct bf i ql) l st1
  | none=>.fail
def Ej (ops:Array Oper):Bool :=
 match Ig 0 ops.toList,N8 ops.toList with
 | true,true=>ME ops (Region.before ops) 0 ops.toList
 | _,_=>false
end
def QR (ops:Array Oper) (p:Nat) (st:St):St :=
 match ops[p]? with
 | some o=>put st o.dst .und
 | none=>st
def IR (ops:Array Oper):List Nat->St->St
 | [],st=>st
 | p::ps,st=>IR ops ps (QR ops p st)
def LU (τ:List Ty) (Γ:Cx0) (ops:Array Oper) (m:Nat) (lts ps ord vs:List Nat) (st:St):T (Ex×St) :=
 (Yx (vs.isEmpty || (List.range m).all λi=>D2 i lts)).bind λ_=>(Ix τ Γ ops (E0 vs lts) st).bind λ_ =>
  (Js τ Γ ops (Region.before ops) (E0 vs lts) vs ps lts ord (IR ops ps st)).bind λst=>.leaf (.nm,st)
def Hr (τ:List Ty) (Γ:Cx0) (ops:Array Oper) (m:Nat) (es ls:List Nat) (po:List Nat×List Nat) (st:St):T (Ex×St) :=
 match TY τ ops m es ls po.1 po.2 with
 | true=>(GO τ Γ ops (ops.toList.take m) st).bind λst=>(JV τ Γ ops ls st).bind λst=>LU τ Γ ops m (es++ls) po.1 po.2 (GK ops st (es++ls)) st
 | false=>.fail
def ER (τ:List Ty) (Γ:Cx0) (ops:Array Oper) (m:Nat) (es ls:List Nat) (st:St):T (Ex×St) :=
 Hr τ Γ ops m es ls (AcV τ ops (Region.before ops) (E0 (es++ls) ((List.range ops.size).drop m))) st
def Ur (bf:Array Nat) (n:Nat):Nat->List Oper->List Nat
 | _,[]=>[]
 | i,o::l=>match D4 o,(List.range n).all λj=>Nat.beq j i || Nat.testBit (bf.getD i 0) j || Nat.testBit (bf.getD j 0) i with
  | true,false=>i::Ur bf n (Nat.succ i) l
  | _,_=>Ur bf n (Nat.succ i) l
def Qn (τ:List Ty) (ops:Array Oper) (m:Nat) (bf:Array Nat) (es ls:List Nat) (Γ:Cx0) (po:List Nat×List Nat) (st:St):T (Ex×St) :=
 match TY τ ops m es ls po.1 po.2 with
 | true=>(GO τ Γ ops (ops.toList.take m) st).bind λst1=>(JV τ Γ ops ls st1).bind λst2 =>
  match (GK ops st2 (es++ls)).isEmpty || (List.range m).all λi=>D2 i (es++ls) with
  | true=>LU τ Γ ops m (es++ls) po.1 po.2 (GK ops st2 (es++ls)) st2
  | false=>ER τ Γ ops 0 [] (LW bf 0 [] (Ur bf ops.size 0 ops.toList)) st
 | false=>.fail
def Qm (τ:List Ty) (ops:Array Oper) (m:Nat) (bf:Array Nat) (es ls:List Nat) (Γ:Cx0) (st:St):T (Ex×St) :=
 Qn τ ops m bf es ls Γ (AcV τ ops (Region.before ops) (E0 (es++ls) ((List.range ops.size).drop m))) st
def Kf (τ:List Ty) (ops:Array Oper) (m:Nat) (bf:Array Nat) (ls:List Nat) (Γ:Cx0) (st:St):T (Ex×St) :=
 Qm τ ops m bf (Mv bf m ops.size ls 0 (ops.toList.take m)) ls Γ st
def Jq (o:Oper):Bool :=
 match o.op with
 | .assign _ | .pick _ _ _ | .unOp _ _ _=>true
 | _=>D4 { o with guard:=none }
def UQ:Nat->List Oper->Option Nat
 | _,[]=>none
 | i,o::l=>match o.op with
  | .store _ _ _=>some i
  | _=>UQ (Nat.succ i) l
def Ri (s:Nat):Nat->List Oper->Bool
 | _,[]=>true
 | i,o::l=>match Nat.beq i s || Jq o with
  | true=>Ri s (Nat.succ i) l
  | false=>false
def PQ (ops:Array Oper):Option Nat :=
 match UQ 0 ops.toList with
 | some s=>match Ri s 0 ops.toList with
  | true=>some s
  | false=>none
 | none=>none
def Kc (rs:List Nat):List Oper->Bool
 | []=>true
 | o::l=>match o.dst with
  | some d=>match D2 d rs with
   | true=>false
   | false=>Kc rs l
  | none=>Kc rs l
def L9 (τ:List Ty) (Γ:Cx0) (all:Array Oper) (s:Nat):Nat->List Oper->St->T St
 | _,[],st=>.leaf st
 | i,o::l,st=>match Nat.beq i s with
  | true=>L9 τ Γ all s (Nat.succ i) l (put st o.dst A5)
  | false=>(CV τ Γ all o st).bind λv=>L9 τ Γ all s (Nat.succ i) l (put st o.dst v)
def FV (τ:List Ty) (Γ:Cx0) (ops:Array Oper) (s:Nat) (st:St):T (Ex×St) :=
 match ops[s]? with
 | some o=>match o.op,o.guard,o.dst with
  | .store t x y,none,none=>match ev Γ st x,Kc (Bq ops o) (ops.toList.drop (Nat.succ s)) with
   | .ptr id _,true=>(L9 τ Γ ops s 0 ops.toList ⟨st.t,st.h.set id .dead⟩).bind λst1 =>
    match ev Γ ⟨C9 (Bq ops o) 0 st1.t,[]⟩ x,st.h[id]?,(ev Γ ⟨C9 (Bq ops o) 0 st1.t,[]⟩ y).cells,τ[t]? with
    | .ptr id' off,some (.cells old),some cs,some ty=>match Nat.beq id' id,Nat.beq cs.length ty.size,Nat.ble (Nat.add off cs.length) old.length with
     | true,true,true=>.leaf (.nm,⟨st1.t,st.h.set id (.cells (Dc old off cs))⟩)
     | _,_,_=>.fail
    | _,_,_,_=>.fail
   | _,_=>.fail
  | _,_,_=>.fail
 | none=>.fail
section
variable (τ:List Ty) (Γ:Cx)
def A8:Code->Nat->St->T (Ex×St)
 | .skip,_,st=>.leaf (.nm,st)
 | .region _ ops draw,_,st=>match draw with
  | false=>(H4 τ Γ.base ops ops.toList st).bind λst=>.leaf (.nm,st)
  | true=>match Ej ops with
   | true=>match Nat.beq (Dx τ ops.toList) (GE ops.toList) with
    | true=>match M1 (Region.before ops) (Ek ops) (Nat.sub ops.size (Ek ops)) with
     | true=>(GO τ Γ.base ops (ops.toList.take (Ek ops)) st).bind λst=>(H4 τ Γ.base ops (ops.toList.drop (Ek ops)) st).bind λst=>.leaf (.nm,st)
     | false=>match PQ ops with
      | some s=>FV τ Γ.base ops s st
      | none=>Kf τ ops (Dx τ ops.toList) (Region.before ops) (LW (Region.before ops) (Dx τ ops.toList) [] (OG (Region.before ops) (Dx τ ops.toList) 0 ops.toList)) Γ.base st
    | false=>Kf τ ops (Dx τ ops.toList) (Region.before ops) (LW (Region.before ops) (Dx τ ops.toList) [] (OG (Region.before ops) (Dx τ ops.toList) 0 ops.toList)) Γ.base st
   | false=>.fail
 | .seq a b,id,st=>(A8 a id st).bind λr =>
  match r.1 with
  | .nm=>A8 b id r.2
  | .ex j=>.leaf (.ex j,r.2)
  | .rt=>.leaf (.rt,r.2)
 | .cond c x y,id,st =>
  match ev Γ.base st c with
  | .val (.bool b)=>.br b (A8 x id st) (A8 y id st)
  | _=>.fail
 | .block i c,_,st=>(A8 c i st).bind λr =>
  match r.1 with
  | .nm=>.leaf (.nm,r.2)
  | .ex j=>match Nat.beq j i with
   | true=>.leaf (.nm,r.2)
   | false=>.leaf (.ex j,r.2)
  | .rt=>.leaf (.rt,r.2)
 | .loop c,id,st=>Γ.loop id (λst=>A8 c id st) st
 | .exit i,_,st=>.leaf (.ex i,st)
 | .ret,_,st=>.leaf (.rt,st)
 | _,_,_=>.fail
def Aj1 (st:St):ResultVar->Option V
 | .tmp t=>some (nth st.t t)
 | .cell a t=>match nth st.t a with
  | .ptr id off=>match st.h[id]? with
   | some (.cells cs)=>HS τ t cs off
   | _=>none
  | _=>none
def Aar (st:St):List ResultVar->Option (List V)
 | []=>some []
 | r::l=>match Aj1 τ st r,Aar st l with
  | some a,some b=>some (a::b)
  | _,_=>none
def DU (fn:Func) (st:St):Option V :=
 match Aar τ st fn.results.toList with
 | some [v]=>some v
 | some vs=>some (.tup vs)
 | none=>none
def I2:V->List Nat
 | .agg cs=>refs cs
 | .tup cs=>refs cs
 | .fn _ cs=>refs cs
 | .ref id=>[id]
 | .rct id _=>[id]
 | .jref id=>[id]
 | _=>[]
 where refs:List V->List Nat
 | []=>[]
 | v::vs=>I2 v++refs vs
def Ev (id:Nat):List Nat->Nat->Option Nat
 | [],_=>none
 | k::l,i=>match Nat.beq k id with
  | true=>some i
  | false=>Ev id l (Nat.succ i)
def PO (ids:List Nat):V->V
 | .agg cs=>.agg (packs cs)
 | .tup cs=>.tup (packs cs)
 | .fn f cs=>.fn f (packs cs)
 | .ref id=>match Ev id ids 0 with
  | some k=>.ref k
  | none=>.und
 | .jref id=>match Ev id ids 0 with
  | some k=>.jref k
  | none=>.und
 | .ptr _ _=>.und
 | .ept _ _ _ _=>.und
 | .rct id n=>match Ev id ids 0 with
  | some k=>.rct k n
  | none=>.und
 | .jept _ _ _ _=>.und
 | .mref _ _=>.und
 | .mmap _ _=>.und
 | .mept _ _ _ _ _=>.und
 | v=>v
 where packs:List V->List V
 | []=>[]
 | v::vs=>PO ids v::packs vs
def Vs (h:List Blk):List Nat->Option (List Blk)
 | []=>some []
 | id::l=>match h[id]?,Vs h l with
  | some (.row e s n g),some bs=>some (.row e s n g::bs)
  | some (.jag j),some bs=>some (.jag j::bs)
  | _,_=>none
def Jx:List Nat->Bool
 | []=>true
 | k::l=>match D2 k l with
  | true=>false
  | false=>Jx l
def Aav (v:V) (h:List Blk):Option (V×List Blk) :=
 match Jx (I2 v),Vs h (I2 v) with
 | true,some hr=>some (PO (I2 v) v,hr)
 | _,_=>none
def AK (t:T (V×List Blk)):T (V×List Blk):=t.bind λp=>T.ofOpt (Aav p.1 p.2)
def W2 (F:List V->T (V×List Blk)) (vs:List V) (h:List Blk):T (V×List Blk) :=
 match Dv.lends h vs with
 | none=>.fail
 | some vs'=>(F vs').bind λp =>
  match free.frees vs with
  | true=>.leaf (shift h.length p.1,p.2)
  | false=>match MC p.1 with
   | false=>.fail
   | true=>match p.2 with
    | []=>.leaf (shift h.length p.1,[])
    | b::l=>.br (Ce (b::l)) (.leaf (shift h.length p.1,b::l)) .fail
def AeJ (F:List V->T (V×List Blk)) (vs:List V) (h:List Blk):T (V×List Blk) :=
 match XI h with
 | false=>W2 F vs h
 | true=>match free.frees vs with
  | true=>W2 F vs h
  | false=>.br (Cg h) (W2 F vs h) .fail
def Jb {α:Type} (f:Nat):List (Nat×α)->Option α
 | []=>none
 | (k,x)::l=>match Nat.beq k f with
   | true=>some x
   | false=>Jb f l
def Adk (t:T (V×List Blk)):T (V×Res):=t.bind λp=>.leaf (p.1,.more p.2)
def A6 (tbl:List (Nat×(List V->T (V×List Blk)))) (f:FuncId) (vs:List V) (st:St):T (V×Res) :=
 match Jb f tbl with
 | some F=>Adk (AeJ F vs st.h)
 | none=>.fail
def F8:Nat->List V
 | 0=>[]
 | n+1=>A5::F8 n
def Ar (fn:Func) (vs:List V) (h:List Blk):T (V×List Blk) :=
 match fn.body with
 | some c=>(A8 τ Γ c 0 ⟨vs++F8 (Nat.sub fn.ntmps vs.length),h⟩).bind λr =>
  match r.1 with
  | .ex _=>.fail
  | .nm=>match DU τ fn r.2 with
   | some v=>.leaf (v,r.2.h)
   | none=>.fail
  | .rt=>match DU τ fn r.2 with
   | some v=>.leaf (v,r.2.h)
   | none=>.fail
 | none=>.fail
end
def Vo:List V:=[.tup []]
def LZ:List V->Bool
 | [.tup []]=>true
 | _=>false
def inlF (τ:List Ty) (Γ:Cx) (fn:Func) (vs:List V) (st:St):T (V×Res) :=
 (Ar τ Γ fn vs (st.h++[.saved st.t])).bind λp=>match p.2[st.h.length]? with
  | some (.saved t)=>match LZ t with
   | false=>.leaf (p.1,.all ⟨t,p.2.set st.h.length .dead⟩)
   | true=>.fail
  | _=>.fail
def Zd (h:List Blk):V->T (Nat×Nat×Nat×(Nat->V))
 | .ref id=>match h[id]? with
  | some (.row e s n g)=>.leaf (e,s,n,g)
  | _=>.fail
 | .mref id i=>match h[id]? with
  | some (.jag j)=>.br (j.live i) (.leaf (j.e',j.s',j.len i,j.mem i)) .fail
  | _=>.fail
 | _=>.fail
def GP:List Blk->List Blk
 | []=>[]
 | _::l=>.saved Vo::GP l
def AcT (st:St) (q:Nat) (p:Nat×Nat×Nat×(Nat->V)):St:=⟨st.t.set q (.ref st.h.length),GP st.h++[.xrow true p.1 p.2.1 p.2.2.1 p.2.2.2]⟩
def MF:List Blk->List Blk->Bool
 | [],_=>true
 | _::l,.saved vs::h=>match LZ vs with
  | true=>MF l h
  | false=>false
 | _::_,_=>false
def AdH (n:Nat) (v:V):V :=
 match MC v,QY n v with
 | true,true=>v
 | _,_=>.und
def Uc (n:Nat):List V->List V
 | []=>[]
 | v::l=>AdH n v::Uc n l
def La (want:Nat):Code->Nat->Option Code
 | .seq a b,id=>match La want a id with
  | some c=>some c
  | none=>La want b id
 | .cond _ a b,id=>match La want a id with
  | some c=>some c
  | none=>La want b id
 | .block i c,_=>La want c i
 | .loop c,id=>match Nat.beq id want with
  | true=>some c
  | false=>La want c id
 | _,_=>none
def A0 (fn:Func) (want:Nat):Code :=
 match fn.body with
 | some c=>match La want c 0 with
  | some c=>c
  | none=>.skip
 | none=>.skip
abbrev A2:=T (V×List Blk)
abbrev AH:=List (Nat×(List V->A2))
abbrev Ac:Nat->V:=λ_=>.und
abbrev Ai:=Nat->Option Value
abbrev LT:=Nat->(St->T (Ex×St))->St->T (Ex×St)
abbrev PT:=(St->T (Ex×St))->St->Bool
abbrev nV (n:Nat):V:=iV (Int.ofNat n)
def jsV:Nat->Nat->(Nat->V)->List (Nat×V)->List V
 | 0,_,_,_=>[]
 | n+1,i,j,[]=>j i::jsV n (Nat.succ i) j []
 | n+1,i,j,(k,v)::l=>match Nat.beq i k with
  | true=>v::jsV n (Nat.succ i) j l
  | false=>j i::jsV n (Nat.succ i) j ((k,v)::l)
def bmK:Nat->Nat->List Nat->List Bool
 | 0,_,_=>[]
 | n+1,i,[]=>false::bmK n (Nat.succ i) []
 | n+1,i,k::l=>match Nat.beq i k with
  | true=>true::bmK n (Nat.succ i) l
  | false=>false::bmK n (Nat.succ i) (k::l)
def bbK:Nat->Nat->List Bool
 | 0,_=>[]
 | n+1,v=>Nat.beq (v%2) 1::bbK n (v/2)
def lkU (m:Nat):List (Nat×V)->Nat->V
 | [],i=>match Nat.beq ((m>>>i)%2) 1 with
  | true=>.und
  | false=>A5
 | (k,v)::l,i=>match Nat.beq i k with
   | true=>v
   | false=>lkU m l i
def lkV (d:V):List (Nat×V)->Nat->V
 | [],_=>d
 | (k,v)::l,i=>match Nat.beq i k with
   | true=>v
   | false=>lkV d l i
end Go.Sy
