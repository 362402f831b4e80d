/- A small language for Go functions, and what its programs compute: plain Lean, no worlds. -/
import GoSem.Core.View
import GoSem.Core.Ast
set_option linter.unusedVariables false
set_option linter.unusedSimpArgs false
namespace Fb
open Go

/-- An operand: a slot, a constant, a function. -/
inductive Opd where
  | t (n : Nat)
  | c (v : Value)
  | f (id : Nat)

abbrev Env := Nat → Value
abbrev U : Value := .tuple #[]
def upd (e : Env) (d : Nat) (v : Value) : Env := fun s => if s = d then v else e s
def ini (args : List Value) : Env := fun s => args.getD s U
def Opd.ev (e : Env) : Opd → Value
  | .t n => e n
  | .c v => v
  | .f i => .func (.func i) #[] #[]

/-- A block: its cells, how many cells an element has, which version it is, whether it is only read. -/
structure Blk where
  cells : List Value
  esz : Nat
  ver : Nat
  ro : Bool
abbrev Heap := List Blk

def agg (l : List Value) : Value := .agg l.toArray
def cellsOf : Value → List Value
  | .agg a => a.toList
  | .tuple _ => []
  | v => [v]
def adr (b off ver : Nat) : Value := .pointer (some ⟨b, off, some ver⟩)
def slc (b off ver len cap : Nat) : Value := .slice (some ⟨b, off, some ver⟩) len cap
def tup (l : List Value) : Value := .tuple l.toArray

def splice (cs : List Value) (off : Nat) (vs : List Value) : List Value := cs.take off ++ vs ++ cs.drop (off + vs.length)

/-- The cells behind an address. -/
def rd (H : Heap) (b off ver n : Nat) : Option (List Value) :=
  match H[b]? with
  | some k => if ver = k.ver ∧ off + n ≤ k.cells.length then some ((k.cells.drop off).take n) else none
  | none => none

/-- Does a value lead to no block from n0 on? -/
def old0 (n0 : Nat) : Value → Bool
  | .bool _ | .int _ _ | .float _ _ | .complex _ _ _ | .string _ | .nilFunc | .nilIface | .iface _ _ => true
  | .pointer none | .slice none _ _ => true
  | .pointer (some a) => a.spot.isNone || decide (a.block < n0)
  | .slice (some a) _ _ => a.spot.isSome && decide (a.block < n0)
  | .func _ a b => a.isEmpty && b.isEmpty
  | _ => false
def old1 (n0 : Nat) : Value → Bool
  | .agg cs => cs.toList.all (old0 n0)
  | v => old0 n0 v

/-- May the block b be written with vs? n0: the blocks from there on are the call's own. wb: may elder blocks be written, with what leads nowhere? -/
def may (n0 : Nat) (wb : Bool) (b : Nat) (vs : List Value) : Bool := decide (n0 ≤ b) || (wb && vs.all (old0 0))
/-- The heap with cells written. -/
def wr (n0 : Nat) (wb : Bool) (H : Heap) (b off ver : Nat) (vs : List Value) : Option Heap :=
  match H[b]? with
  | some k =>
    if ver = k.ver ∧ k.ro = false ∧ may n0 wb b vs = true ∧ off + vs.length ≤ k.cells.length then
      some (H.set b { k with cells := splice k.cells off vs })
    else none
  | none => none

def ldv (isAgg : Bool) (cs : List Value) : Option Value :=
  if isAgg then some (agg cs) else match cs with
    | [v] => some v
    | _ => none

/-- What is compared: bools, strings, a slice with nil, an error with nil, or rows of numbers (some) and bools (none). -/
inductive EqK where
  | b | s | n | i
  | a (ls : List (Option IntKind))
inductive Op1 where
  | mov (x : Opd)
  | pick (c a b : Opd)
  | bin (op : BinOp) (x y : Opd)
  | un (op : UnOp) (x : Opd)
  | eq (c : EqK) (neg : Bool) (x y : Opd)
  | conv (k : IntKind) (x : Opd)
  | ext (x : Opd) (i : Nat)
  | idx (len esz : Nat) (isAgg : Bool) (x i : Opd)
  | idxs (x i : Opd)
  | fld (off n : Nat) (isAgg : Bool) (x : Opd)
  | len (x : Opd)
  | lens (x : Opd)
  | mn (x y : Opd)
  | mx (x y : Opd)
  | mkf (f : Nat) (xs : List Opd)
  | nil (x : Opd)
  | idxA (esz : Nat) (x i : Opd)
  | idxP (len esz : Nat) (x i : Opd)
  | fldP (off : Nat) (x : Opd)
  | slcA (esz : Nat) (x : Opd) (lo hi mx : Option Opd)
  | slcP (n esz : Nat) (x : Opd)
  | slcs (x : Opd) (lo hi : Option Opd)
  | agg (zero : List Value) (parts : List (Nat × Nat × Opd))
  | zero (isAgg : Bool) (z : List Value)
  | adrI (p : Nat) (b : Option Nat) (len esz : Nat) (i : Opd)
  | adrF (p : Nat) (b : Option Nat) (off : Nat)
  | ldV (p : Nat) (off : Option Nat) (n : Nat) (isAgg : Bool)
  | stV (p : Nat) (off : Option Nat) (n : Nat) (x : Opd)
  | ld (n : Nat) (isAgg : Bool) (x : Opd)
  | b2s (x : Opd)
  | st (n : Nat) (x v : Opd)
  | new (esz : Nat) (z : List Value)
  | box (n : Nat) (x : Opd)
  | bldS (esz n : Nat) (z : List Value) (parts : List (Nat × Nat × Opd))
  | mkS (esz bytes : Nat) (z : List Value) (len cap : Opd)
  | app (esz bytes : Nat) (x y : Opd)
  | cpy (esz : Nat) (x y : Opd)
  | cap (x : Opd)
  | clr (z : List Value) (x : Opd)
  | apm (esz bytes : Nat) (z : List Value) (x n : Opd)
  | call (p : Bool) (f : Nat) (xs : List Opd)
  | callv (x : Opd) (xs : List Opd)
  | bad

/-- A statement: its guard, the slot that it writes, the operation, and the addresses that it must leave alone. -/
structure Stm where
  g : Option (Nat × Bool)
  d : Option Nat
  o : Op1
  fl : List Opd := []

inductive Ex where
  | normal | exit (id : Nat) | ret
  deriving DecidableEq

inductive Cd where
  | skip
  | reg (outs : List Nat) (ss : List Stm)
  | seq (a b : Cd)
  | cond (c : Opd) (a b : Cd)
  | block (id : Nat) (b : Cd)
  | loop (b : Cd)
  | exit (id : Nat)
  | ret

inductive Res where
  | t (n : Nat)
  | h (n : Nat) (sz : Nat) (isAgg : Bool)
  | v (n : Nat) (sz : Nat) (isAgg : Bool)

/-- pure: nothing that was there is written. args: what the arguments point to may be written. -/
inductive Kind where
  | pure | args
  deriving DecidableEq

structure Fn where
  np : Nat
  nt : Nat
  kind : Kind
  res : List Res
  body : Cd

inductive Def where
  | fn (F : Fn)
  | ext (kind : Kind) (g : List Value → Heap → Option (Value × Heap))
def Def.kind : Def → Kind
  | .fn F => F.kind
  | .ext k _ => k
/-- What a call computes; the Bool: it must be one that writes nothing that was there. -/
abbrev Cl := Bool → Nat → List Value → Heap → Option (Value × Heap)
abbrev Tab := Nat → Option Def

/- What operations compute. -/
def bitsOf (op : BinOp) (k : IntKind) (x y : Int) : Int :=
  let a := BitVec.ofInt k.bits x
  let b := BitVec.ofInt k.bits y
  match op with
  | .and => k.wrap (a &&& b).toNat
  | .or => k.wrap (a ||| b).toNat
  | .xor => k.wrap (a ^^^ b).toNat
  | _ => k.wrap (a &&& ~~~b).toNat
def eqCells : List (Option IntKind) → List Value → List Value → Option Bool
  | [], [], [] => some true
  | some k :: ls, .int k1 a :: xs, .int k2 b :: ys => if k1 = k ∧ k2 = k then (if a = b then eqCells ls xs ys else some false) else none
  | none :: ls, .bool a :: xs, .bool b :: ys => if a = b then eqCells ls xs ys else some false
  | _, _, _ => none
def eqV : EqK → Value → Value → Option Bool
  | .b, .bool a, .bool b => some (a == b)
  | .s, .string a, .string b => some (a.toList == b.toList)
  | .n, .slice a _ _, .slice none 0 0 => some a.isNone
  | .i, .nilIface, .nilIface => some true
  | .i, .iface _ _, .nilIface => some false
  | .a ls, .agg xs, .agg ys => if xs.size = ls.length ∧ ys.size = ls.length then eqCells ls xs.toList ys.toList else none
  | _, _, _ => none
def intBin (op : BinOp) (k : IntKind) (a b : Int) : Option Value :=
  match op with
  | .add => some (.int k (k.wrap (a + b)))
  | .sub => some (.int k (k.wrap (a - b)))
  | .mul => some (.int k (k.wrap (a * b)))
  | .quo => if b = 0 then none else some (.int k (k.wrap (a.tdiv b)))
  | .rem => if b = 0 then none else some (.int k (a.tmod b))
  | .and => some (.int k (bitsOf .and k a b))
  | .or => some (.int k (bitsOf .or k a b))
  | .xor => some (.int k (bitsOf .xor k a b))
  | .andNot => some (.int k (bitsOf .andNot k a b))
  | .eql => some (.bool (a == b))
  | .neq => some (.bool (a != b))
  | .lss => some (.bool (decide (a < b)))
  | .leq => some (.bool (decide (a ≤ b)))
  | .gtr => some (.bool (decide (a > b)))
  | .geq => some (.bool (decide (a ≥ b)))
  | _ => none
def shiftOf (op : BinOp) (k : IntKind) (a b : Int) : Option Value :=
  if b < 0 then none
  else match op with
    | .shl => some (.int k (k.wrap (a * 2 ^ (min b.toNat k.bits))))
    | .shr => some (.int k (a.fdiv (2 ^ (min b.toNat k.bits))))
    | _ => none
def binop (op : BinOp) (x y : Value) : Option Value :=
  match x, y with
  | .int k a, .int k' b =>
    match op with
    | .shl => shiftOf .shl k a b
    | .shr => shiftOf .shr k a b
    | _ => if k = k' then intBin op k a b else none
  | .string a, .string b =>
    match op with
    | .add => if ((a.size + b.size : Nat) : Int) > IntKind.i64.max then none else some (.string (a ++ b))
    | _ => none
  | _, _ => none
def unop (op : UnOp) (x : Value) : Option Value :=
  match op, x with
  | .neg, .int k a => some (.int k (k.wrap (0 - a)))
  | .not, .bool b => some (.bool !b)
  | _, _ => none
def asI : Value → Option Int
  | .int _ n => some n
  | _ => none
/-- The place of an index below n. -/
def at' (n : Nat) : Value → Option Nat
  | .int _ i => if 0 ≤ i ∧ i < n then some i.toNat else none
  | _ => none
/-- The place of a bound, at most n. -/
def bnd (n : Nat) : Value → Option Nat
  | .int _ i => if 0 ≤ i ∧ i ≤ n then some i.toNat else none
  | _ => none
def bnds (len cap : Nat) (lo hi : Option Value) : Option (Nat × Nat) :=
  match hi, lo with
  | none, none => some (0, len)
  | some h, none => (bnd cap h).map fun h => (0, h)
  | none, some l => (bnd len l).map fun l => (l, len)
  | some h, some l => (bnd cap h).bind fun h => (bnd h l).map fun l => (l, h)
def mxOf (cap : Nat) : Option Value → Option Nat
  | none => some cap
  | some v => bnd cap v
def fill (cs : List Value) : List (Nat × Nat × Value) → Option (List Value)
  | [] => some cs
  | (off, n, v) :: r =>
    if (cellsOf v).length = n ∧ off + n ≤ cs.length then fill (splice cs off (cellsOf v)) r else none
def offV : Value → Option Nat
  | .int .u64 n => if 0 ≤ n then some n.toNat else none
  | _ => none
/-- Is there a value? -/
def has : Value → Bool
  | .tuple _ => false
  | _ => true
/-- Where in the variable p. -/
def offOf (e : Env) (p : Nat) : Option Nat → Option Nat
  | none => if has (e p) then some 0 else none
  | some s => offV (e s)
/-- A variable's content with cells written. -/
def stc (cur : Value) (off : Nat) (vs : List Value) : Option Value :=
  match cur with
  | .agg cs => if off + vs.length ≤ cs.size then some (agg (splice cs.toList off vs)) else none
  | .tuple _ => none
  | _ => match vs with
    | [v] => if off = 0 then some v else none
    | _ => none
/-- So many cells alike. -/
def zs (n : Nat) (v : Value) : List Value := List.replicate n v
def rb (n : Nat) (k : Option IntKind) : List (Option IntKind) := List.replicate n k
def rep (n : Nat) (z : List Value) : List Value :=
  match n with
  | 0 => []
  | n + 1 => z ++ rep n z
def bytesOf : List Value → Option (List UInt8)
  | [] => some []
  | .int .u8 n :: r => (bytesOf r).map (UInt8.ofNat n.toNat :: ·)
  | _ :: _ => none
def roomMax : Nat := 140737488355328

/-- The operations that look at slots alone. -/
def nval (e : Env) : Op1 → Option Value
  | .mov x => some (x.ev e)
  | .pick c a b => match c.ev e with
    | .bool true => some (a.ev e)
    | .bool false => some (b.ev e)
    | _ => none
  | .bin op x y => binop op (x.ev e) (y.ev e)
  | .un op x => unop op (x.ev e)
  | .eq c neg x y => (eqV c (x.ev e) (y.ev e)).map fun b => .bool (b != neg)
  | .conv k x => match x.ev e with
    | .int _ n => some (.int k (k.wrap n))
    | _ => none
  | .ext x i => match x.ev e with
    | .tuple vs => vs.toList[i]?
    | _ => none
  | .idx len esz isAgg x i => match x.ev e with
    | .agg cs => (at' len (i.ev e)).bind fun j => if j * esz + esz ≤ cs.size then ldv isAgg ((cs.toList.drop (j * esz)).take esz) else none
    | _ => none
  | .idxs x i => match x.ev e with
    | .string s => (at' s.size (i.ev e)).map fun j => .int .u8 (s.data.toList.getD j 0).toNat
    | _ => none
  | .fld off n isAgg x => match x.ev e with
    | .agg cs => if off + n ≤ cs.size then ldv isAgg ((cs.toList.drop off).take n) else none
    | _ => none
  | .len x => match x.ev e with
    | .slice _ n _ => some (.int .i64 n)
    | _ => none
  | .cap x => match x.ev e with
    | .slice none 0 0 => some (.int .i64 0)
    | _ => none
  | .lens x => match x.ev e with
    | .string s => some (.int .i64 s.size)
    | _ => none
  | .mn x y => match x.ev e, y.ev e with
    | .int k a, .int _ b => some (.int k (if b < a then b else a))
    | _, _ => none
  | .mx x y => match x.ev e, y.ev e with
    | .int k a, .int _ b => some (.int k (if b > a then b else a))
    | _, _ => none
  | .mkf f xs => some (.func (.func f) #[] (xs.map (·.ev e)).toArray)
  | .nil x => match x.ev e with
    | .pointer (some a) => some (.pointer (some a))
    | .func (.func f) a c => some (.func (.func f) a c)
    | _ => none
  | .idxA esz x i => match x.ev e with
    | .slice (some ⟨b, off, some ver⟩) n _ => (at' n (i.ev e)).map fun j => adr b (off + j * esz) ver
    | _ => none
  | .idxP len esz x i => match x.ev e with
    | .pointer (some ⟨b, off, some ver⟩) => (at' len (i.ev e)).map fun j => adr b (off + j * esz) ver
    | _ => none
  | .fldP o x => match x.ev e with
    | .pointer (some ⟨b, off, some ver⟩) => some (adr b (off + o) ver)
    | _ => none
  | .slcs x lo hi => match x.ev e with
    | .string s => (bnds s.size s.size (lo.map (·.ev e)) (hi.map (·.ev e))).map fun (l, h) => .string (s.extract l h)
    | _ => none
  | .agg z ps => (fill z (ps.map fun q => (q.1, q.2.1, q.2.2.ev e))).map agg
  | .zero isAgg z => ldv isAgg z
  | .adrI p b len esz i => (offOf e p b).bind fun o => (at' len (i.ev e)).map fun j => .int .u64 ((o + j * esz : Nat) : Int)
  | .adrF p b off => (offOf e p b).map fun o => .int .u64 ((o + off : Nat) : Int)
  | .ldV p off n isAgg => (offOf e p off).bind fun o =>
      if o + n ≤ (cellsOf (e p)).length then ldv isAgg (((cellsOf (e p)).drop o).take n) else none
  | .stV p off n x => (offOf e p off).bind fun o => if (cellsOf (x.ev e)).length = n then stc (e p) o (cellsOf (x.ev e)) else none
  | _ => none

/-- What is appended. -/
def srcOf (esz : Nat) (H : Heap) : Value → Option (Nat × List Value)
  | .slice none 0 0 => some (0, [])
  | .slice (some ⟨b, off, some ver⟩) n _ => (rd H b off ver (n * esz)).map fun cs => (n, cs)
  | .string s => if esz = 1 then some (s.size, s.data.toList.map fun b => .int .u8 b.toNat) else none
  | _ => none

def appendTo (n0 : Nat) (wb : Bool) (esz bytes : Nat) (H : Heap) (x : Value) (n : Nat) (cs : List Value) : Option (Value × Heap) :=
  match x with
  | .slice none 0 0 =>
    if n = 0 then some (.slice none 0 0, H)
    else if n * bytes ≤ roomMax then some (slc H.length 0 0 n n, H ++ [⟨cs, esz, 0, false⟩]) else none
  | .slice (some ⟨b, off, some ver⟩) len cap =>
    if len + n ≤ cap then (wr n0 wb H b (off + len * esz) ver cs).map fun H' => (slc b off ver (len + n) cap, H')
    else match H[b]? with
      | some k =>
        if ver = k.ver ∧ k.ro = false ∧ may n0 wb b cs = true ∧ k.esz = esz ∧ off = 0 ∧ len * esz = k.cells.length ∧ (len + n) * bytes ≤ roomMax then
          some (slc b 0 (ver + 1) (len + n) (len + n), H.set b { k with cells := k.cells ++ cs, ver := ver + 1 })
        else none
      | none => none
  | _ => none

def slcAV (H : Heap) (esz : Nat) (x : Value) (lo hi mx : Option Value) : Option Value :=
  match x with
  | .slice (some ⟨b, off, some ver⟩) n cap => match H[b]? with
    | some k =>
      if ver = k.ver ∧ k.esz = esz then
        (mxOf cap mx).bind fun m => (bnds n m lo hi).map fun q => slc b (off + q.1 * esz) ver (q.2 - q.1) (m - q.1)
      else none
    | none => none
  | .slice none 0 0 => (mxOf 0 mx).bind fun m => (bnds 0 m lo hi).map fun _ => .slice none 0 0
  | _ => none
def slcPV (H : Heap) (n esz : Nat) (x : Value) : Option Value :=
  match x with
  | .pointer (some ⟨b, off, some ver⟩) => match H[b]? with
    | some k => if ver = k.ver ∧ k.esz = esz ∧ off + n * esz ≤ k.cells.length then some (slc b off ver n n) else none
    | none => none
  | _ => none
/-- What was there may be changed, or is as it was. -/
noncomputable def elder (n0 : Nat) (wb : Bool) (H : Heap) (r : Value × Heap) : Option (Value × Heap) :=
  if wb then some r else open Classical in if r.2.take n0 = H.take n0 then some r else none
/-- One operation: its value, and the heap behind it. -/
noncomputable def ev1 (cl : Cl) (n0 : Nat) (wb : Bool) (e : Env) (H : Heap) : Op1 → Option (Value × Heap)
  | .ld n isAgg x => match x.ev e with
    | .pointer (some ⟨b, off, some ver⟩) => (rd H b off ver n).bind fun cs => (ldv isAgg cs).map fun v => (v, H)
    | _ => none
  | .slcA esz x lo hi mx => (slcAV H esz (x.ev e) (lo.map (·.ev e)) (hi.map (·.ev e)) (mx.map (·.ev e))).map fun v => (v, H)
  | .slcP n esz x => (slcPV H n esz (x.ev e)).map fun v => (v, H)
  | .b2s x => match x.ev e with
    | .slice none 0 0 => some (.string .empty, H)
    | .slice (some ⟨b, off, some ver⟩) n _ => (rd H b off ver n).bind fun cs => (bytesOf cs).map fun l => (.string ⟨l.toArray⟩, H)
    | _ => none
  | .st n x v => match x.ev e with
    | .pointer (some ⟨b, off, some ver⟩) =>
      if (cellsOf (v.ev e)).length = n then (wr n0 wb H b off ver (cellsOf (v.ev e))).map fun H' => (U, H') else none
    | _ => none
  | .new esz z => some (adr H.length 0 0, H ++ [⟨z, esz, 0, false⟩])
  | .box n x => if (cellsOf (x.ev e)).length = n then some (adr H.length 0 0, H ++ [⟨cellsOf (x.ev e), 1, 0, false⟩]) else none
  | .bldS esz n z ps => (fill (rep n z) (ps.map fun q => (q.1, q.2.1, q.2.2.ev e))).map fun cs => (slc H.length 0 0 n n, H ++ [⟨cs, esz, 0, false⟩])
  | .mkS esz bytes z len cap => match len.ev e, cap.ev e with
    | .int .i64 l, .int .i64 c =>
      if 0 ≤ l ∧ l ≤ c ∧ c * bytes ≤ roomMax then some (slc H.length 0 0 l.toNat c.toNat, H ++ [⟨rep c.toNat z, esz, 0, false⟩]) else none
    | _, _ => none
  | .app esz bytes x y => (srcOf esz H (y.ev e)).bind fun (n, cs) => appendTo n0 wb esz bytes H (x.ev e) n cs
  | .cpy esz x y => (srcOf esz H (y.ev e)).bind fun (n, cs) => match x.ev e with
    | .slice none 0 0 => some (.int .i64 0, H)
    | .slice (some ⟨b, off, some ver⟩) len _ =>
      (wr n0 wb H b off ver (cs.take (min n len * esz))).map fun H' => (.int .i64 (min n len : Nat), H')
    | _ => none
  | .clr z x => match x.ev e with
    | .slice none 0 0 => some (U, H)
    | .slice (some ⟨b, off, some ver⟩) len _ => (wr n0 wb H b off ver (rep len z)).map fun H' => (U, H')
    | _ => none
  | .apm esz bytes z x n => match x.ev e, n.ev e with
    | .slice none 0 0, .int .i64 m => if 0 < m ∧ m * bytes ≤ roomMax then some (slc H.length 0 0 m.toNat m.toNat, H ++ [⟨rep m.toNat z, esz, 0, false⟩]) else none
    | _, _ => none
  | .call p f xs => if p then cl true f (xs.map (·.ev e)) H else (cl false f (xs.map (·.ev e)) H).bind (elder n0 wb H)
  | .callv x xs => match x.ev e with
    | .func (.func f) a cs => if a.isEmpty then cl true f (xs.map (·.ev e) ++ cs.toList) H else none
    | _ => none
  | o => (nval e o).map fun v => (v, H)

def wanted (e : Env) : Option (Nat × Bool) → Bool
  | none => true
  | some (j, want) => match e j with
    | .bool b => b == want
    | _ => false
def put (e : Env) : Option Nat → Value → Env
  | none, _ => e
  | some d, v => upd e d v

/-- A statement that is passed by. -/
def skip (o : Op1) (e : Env) (d : Option Nat) : Env := match o with
  | .stV .. => e
  | _ => put e d U

def Op1.calls : Op1 → Bool
  | .call .. | .callv .. => true
  | _ => false
/-- The block that a value leads to at once. -/
def blkOf : Value → Option Nat
  | .pointer (some a) | .slice (some a) _ _ => some a.block
  | _ => none
/-- The elder blocks that an operation may change. -/
def mods (e : Env) : Op1 → List Nat
  | .st _ x _ | .app _ _ x _ | .cpy _ x _ | .clr _ x => (blkOf (x.ev e)).toList
  | _ => []
def apart (e : Env) (s : Stm) : Bool := s.fl.all fun x => match blkOf (x.ev e) with
  | some b => !(mods e s.o).contains b
  | none => false
open Classical in
/-- Has a call left the blocks alone that it must leave? -/
noncomputable def stays (e : Env) (H H' : Heap) (s : Stm) : Bool := !s.o.calls || s.fl.all fun x => match blkOf (x.ev e) with
  | some b => decide (H'[b]? = H[b]?)
  | none => false

noncomputable def ops (cl : Cl) (n0 : Nat) (wb : Bool) : List Stm → Env → Heap → Option (Env × Heap)
  | [], e, H => some (e, H)
  | s :: r, e, H =>
    if wanted e s.g then
      if apart e s then match ev1 cl n0 wb e H s.o with
        | some (v, H') => if stays e H H' s then ops cl n0 wb r (put e s.d v) H' else none
        | none => none
      else none
    else ops cl n0 wb r (skip s.o e s.d) H

def mask (e e1 : Env) : List Nat → Env
  | [] => e
  | o :: os => upd (mask e e1 os) o (e1 o)

def iter (f : Env → Heap → Option (Ex × Env × Heap)) : Nat → Env → Heap → Option (Ex × Env × Heap)
  | 0, _, _ => none
  | n + 1, e, H => match f e H with
    | some (.normal, e', H') => iter f n e' H'
    | r => r

noncomputable def code (cl : Cl) (n0 : Nat) (wb : Bool) (k : Nat) : Cd → Env → Heap → Option (Ex × Env × Heap)
  | .skip, e, H => some (.normal, e, H)
  | .reg outs ss, e, H => match ops cl n0 wb ss e H with
    | some (e1, H') => some (.normal, mask e e1 outs, H')
    | none => none
  | .seq a b, e, H => match code cl n0 wb k a e H with
    | some (.normal, e', H') => code cl n0 wb k b e' H'
    | r => r
  | .cond c a b, e, H => match c.ev e with
    | .bool true => code cl n0 wb k a e H
    | .bool false => code cl n0 wb k b e H
    | _ => none
  | .block id b, e, H => match code cl n0 wb k b e H with
    | some (.exit i, e', H') => if i = id then some (.normal, e', H') else some (.exit i, e', H')
    | r => r
  | .loop b, e, H => iter (code cl n0 wb k b) k e H
  | .exit i, e, H => some (.exit i, e, H)
  | .ret, e, H => some (.ret, e, H)

def resV (e : Env) (H : Heap) : Res → Option Value
  | .t n => some (e n)
  | .h n sz isAgg => match e n with
    | .pointer (some ⟨b, off, some ver⟩) => (rd H b off ver sz).bind (ldv isAgg)
    | _ => none
  | .v n sz isAgg => if has (e n) = true ∧ (cellsOf (e n)).length = sz then ldv isAgg (cellsOf (e n)) else none
def resVs (e : Env) (H : Heap) : List Res → Option (List Value)
  | [] => some []
  | r :: rs => match resV e H r with
    | some v => (resVs e H rs).map (v :: ·)
    | none => none
def one : List Value → Value
  | [v] => v
  | vs => tup vs

/-- A value that leads to the beginning of a block: the block, the version, the value with another block in its place. -/
def refOf : Value → Option (Nat × Nat × (Nat → Value))
  | .slice (some ⟨b, 0, some ver⟩) len cap => some (b, ver, fun n => slc n 0 0 len cap)
  | .pointer (some ⟨b, 0, some ver⟩) => some (b, ver, fun n => adr n 0 0)
  | _ => none
/-- The new blocks that results lead to, in order, with the results renamed. -/
def pack (n0 : Nat) (H : Heap) : List Value → List Nat → List Blk → Option (List Value × List Blk)
  | [], _, acc => some ([], acc)
  | p :: r, seen, acc =>
    if old1 n0 p then (pack n0 H r seen acc).map fun q => (p :: q.1, q.2)
    else match refOf p with
      | some (b, ver, mk) => match H[b]? with
        | some k =>
          if seen.contains b = false ∧ ver = k.ver ∧ k.ro = false ∧ k.cells.all (old0 n0) = true then
            (pack n0 H r (b :: seen) (acc ++ [{ k with ver := 0 }])).map fun q => (mk (n0 + acc.length) :: q.1, q.2)
          else none
        | none => none
      | none => none
/-- What a call hands back, and the heap behind it: what nothing leads to any more is gone. -/
def finish (n0 : Nat) (H : Heap) (vs : List Value) : Value × Heap :=
  match pack n0 H vs [] [] with
  | some (ws, bs) => (one ws, H.take n0 ++ bs)
  | none => (one vs, H)
def wbOf : Kind → Bool
  | .pure => false
  | .args => true

/-- A call, within so many steps. -/
noncomputable def callF (T : Tab) : Nat → Cl
  | 0, _, _, _, _ => none
  | k + 1, pu, f, args, H => match T f with
    | none => none
    | some D =>
      if pu = true ∧ D.kind ≠ .pure then none
      else match D with
        | .ext _ g => g args H
        | .fn F =>
          if args.length = F.np then
            match code (callF T k) H.length (wbOf F.kind) k F.body (ini args) H with
            | some (.exit _, _, _) | none => none
            | some (_, e, H') => (resVs e H' F.res).map (finish H.length H')
          else none

end Fb
