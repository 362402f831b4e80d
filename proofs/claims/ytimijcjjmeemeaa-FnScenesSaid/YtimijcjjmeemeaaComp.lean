/- From the model's code to the small language: a checker that the kernel computes. -/
import Derived.Test.YtimijcjjmeemeaaDen
import GoSem.Core.Program
import GoSem.Core.Region
import GoSem.Core.Layout
import GoSem.Op.Equal
set_option linter.unusedVariables false
set_option linter.unusedSimpArgs false
namespace Fb
open Go

structure Hint where
  kind : Kind
  vars : List Nat
  keep : List Nat
  /-- The package-level variable that block 0 stands for. -/
  pin : Option Nat := none

/-- Constants that stand as they are. -/
def okConst : Value → Bool
  | .bool _ | .int _ _ | .string _ | .nilFunc | .nilIface | .pointer none | .slice none 0 0 => true
  | _ => false
/-- How many cells a type has, and whether it is a struct or an array. -/
def lay (P : Program) (t : TypeId) : Option (Nat × Bool) := match P.info? t, P.underlying t with
  | some i, some (.struct _) | some i, some (.array _ _) => some (i.size, true)
  | some i, some _ => some (i.size, false)
  | _, _ => none
def zeroOf (P : Program) (t : TypeId) : Option (List Value) := ((P.info? t).bind (·.zero)).map fun v => v.cells.toList
def okZero (z : List Value) : Bool := z.all okConst
/-- Types whose values are told cell by cell by '==': numbers and bools alone. -/
def rows {α : Type} : Nat → List α → List α
  | 0, _ => []
  | n + 1, l => l ++ rows n l
def leavesF (f : TypeId → Option (List (Option IntKind))) (size : TypeId → Nat) : Nat → List Field → Option (List (Option IntKind))
  | _, [] => some []
  | o, x :: r => do
    let a ← f x.type
    let b ← leavesF f size (o + a.length) r
    if x.name != "_" && x.offset == o && size x.type == a.length then pure (a ++ b) else none
def leaves (P : Program) : Nat → TypeId → Option (List (Option IntKind))
  | 0, _ => none
  | d + 1, t => match P.underlying t with
    | some .bool => some [none]
    | some (.int k) => some [some k]
    | some (.array n e) => do
      let a ← leaves P d e
      if P.cellsOf e == a.length then pure (rows n a) else none
    | some (.struct fs) => if P.stoodInHeld t then none else leavesF (leaves P d) P.cellsOf 0 fs.toList
    | _ => none

/-- What is known at an operation: the region's address slots with their variables, and the slots that the operation looks at. -/
structure Look where
  am : List (Nat × Nat)
  df : List Nat

section
variable (P : Program) (inv : FuncId → Option Nat) (isPure : Nat → Bool) (h : Hint)
def Look.var (l : Look) (s : Nat) : Option Nat := (l.am.find? (·.1 == s)).map (·.2)
def Look.plain (l : Look) (s : Nat) : Bool := !h.vars.contains s && (l.var s).isNone && (h.keep.contains s || l.df.contains s)
def opd (l : Look) : Operand → Option Opd
  | .tmp t => if l.plain h t then some (.t t) else none
  | .const v => if okConst v then some (.c v) else none
  | .func f => (inv f).map .f
  | .global g => if h.pin = some g then some (.c (.pointer (some ⟨0, 0, some 0⟩))) else none
def opds (l : Look) (xs : List Operand) : Option (List Opd) := xs.mapM (opd inv h l)
/-- An address in a variable: the variable, and the slot that tells where. -/
def inVar (l : Look) : Operand → Option (Nat × Option Nat)
  | .tmp s => if h.vars.contains s && h.keep.contains s then some (s, none) else (l.var s).map fun p => (p, some s)
  | _ => none
def parts (l : Look) (place : Nat → Option (Nat × Nat)) : List (Nat × Operand) → Option (List (Nat × Nat × Opd))
  | [] => some []
  | (i, x) :: r => do
    let (o, n) ← place i
    if n = 0 then none else
    let y ← opd inv h l x
    let r ← parts l place r
    pure ((o, n, y) :: r)
def isNilConst : Operand → Bool
  | .const (.slice none 0 0) | .const .nilIface => true
  | _ => false
def eqKind (y : Operand) (t : TypeId) : Option EqK := match P.underlying t with
  | some .bool => some .b
  | some .string => some .s
  | some (.slice _) => if isNilConst y then some .n else none
  | some (.interface _) => if isNilConst y then some .i else none
  | some (.array ..) | some (.struct _) => if P.eqGuardType P.depth t then none else (leaves P 8 t).bind fun ls => if P.cellsOf t = ls.length then some (.a ls) else none
  | _ => none
def optOpd (l : Look) : Option Operand → Option (Option Opd)
  | none => some none
  | some x => (opd inv h l x).map some

def ldSize (q : Nat × Bool) : Nat := if q.2 then q.1 else 1
def comp1 (l : Look) (o : Oper) : Option Op1 :=
  match o.op with
  | .move x | .assign x => (opd inv h l x).map .mov
  | .pick c a b => do pure (.pick (← opd inv h l c) (← opd inv h l a) (← opd inv h l b))
  | .alloc t => do
    let z ← zeroOf P t
    let q ← lay P t
    if !okZero z then none else
    if o.dst.any h.vars.contains then pure (.zero q.2 z) else pure (.new 1 z)
  | .box t x => do
    let y ← opd inv h l x
    let q ← lay P t
    if q.1 = 0 then none else
    if o.dst.any h.vars.contains then pure (.mov y) else pure (.box q.1 y)
  | .build t ps => do
    let z ← zeroOf P t
    if !okZero z then none else
    match P.underlying t with
    | some (.struct fs) => if !fs.all (fun f => (lay P f.type).isSome) then none else (parts inv h l (fun i => (fs[i]?).bind fun f => (lay P f.type).map fun q => (f.offset, q.1)) ps.toList).map (.agg z)
    | some (.array _ e) => do
      let q ← lay P e
      (parts inv h l (fun i => some (i * q.1, q.1)) ps.toList).map (.agg z)
    | _ => none
  | .buildSlice t n ps =>
    match P.underlying t with
    | some (.slice e) => do
      let z ← zeroOf P e
      let q ← lay P e
      if !okZero z || z.length != q.1 || n * q.1 > 2 ^ 24 then none else
      (parts inv h l (fun i => some (i * q.1, q.1)) ps.toList).map (.bldS q.1 n z)
    | _ => none
  | .load t a => do
    let q ← lay P t
    match inVar h l a with
    | some (p, s) => some (.ldV p s (ldSize q) q.2)
    | none => (opd inv h l a).map (.ld (ldSize q) q.2)
  | .store t a v => do
    let y ← opd inv h l v
    let q ← lay P t
    if q.1 = 0 then none else
    match inVar h l a with
    | some (p, s) => pure (.stV p s q.1 y)
    | none => (opd inv h l a).map fun a => .st q.1 a y
  | .nilCheck x => (opd inv h l x).map .nil
  | .binOp op t x y _ => do
    let a ← opd inv h l x
    let b ← opd inv h l y
    match op, P.underlying t with
    | _, some (.int _) | .add, some .string => pure (.bin op a b)
    | .eql, _ => (eqKind P y t).map fun c => .eq c false a b
    | .neq, _ => (eqKind P y t).map fun c => .eq c true a b
    | _, _ => none
  | .unOp op _ x => (opd inv h l x).map (.un op)
  | .convert s d x => do
    let a ← opd inv h l x
    match P.underlying s, P.underlying d with
    | some (.int _), some (.int k) => pure (.conv k a)
    | some (.slice e), some .string => match P.underlying e with
      | some (.int .u8) => pure (.b2s a)
      | _ => none
    | _, _ => none
  | .extract x i => (opd inv h l x).map fun a => .ext a i
  | .index t x i => do
    let a ← opd inv h l x
    let b ← opd inv h l i
    match P.underlying t with
    | some (.array n e) => do
      let q ← lay P e
      if !q.2 && q.1 != 1 then none else
      pure (.idx n q.1 q.2 a b)
    | some .string => pure (.idxs a b)
    | _ => none
  | .field t x f => do
    let a ← opd inv h l x
    match P.underlying t with
    | some (.struct fs) => match fs[f]? with
      | some f => do
        let q ← lay P f.type
        pure (.fld f.offset (ldSize q) q.2 a)
      | none => none
    | _ => none
  | .indexAddr t x i => do
    let b ← opd inv h l i
    match P.underlying t with
    | some (.array n e) => do
      let q ← lay P e
      match inVar h l x with
      | some (p, s) => pure (.adrI p s n q.1 b)
      | none => (opd inv h l x).map fun a => .idxP n q.1 a b
    | some (.slice e) => do
      let q ← lay P e
      (opd inv h l x).map fun a => .idxA q.1 a b
    | _ => none
  | .fieldAddr t x f =>
    match P.underlying t with
    | some (.struct fs) => match fs[f]? with
      | some f => do
        let q ← lay P f.type
        if q.1 = 0 then none else match inVar h l x with
        | some (p, s) => some (.adrF p s f.offset)
        | none => (opd inv h l x).map (.fldP f.offset)
      | none => none
    | _ => none
  | .slice t x lo hi mx => do
    let a ← opd inv h l x
    let lo' ← optOpd inv h l lo
    let hi' ← optOpd inv h l hi
    let mx' ← optOpd inv h l mx
    match P.underlying t with
    | some .string => if mx.isNone then pure (.slcs a lo' hi') else none
    | some (.slice e) => do
      let q ← lay P e
      if mx.isSome && hi.isNone then none else pure (.slcA q.1 a lo' hi' mx')
    | some (.array n e) => do
      let q ← lay P e
      if lo.isNone && hi.isNone && mx.isNone then pure (.slcP n q.1 a) else none
    | _ => none
  | .makeFunc (.func f) a cs => do
    if !a.isEmpty then none else
    pure (.mkf (← inv f) (← opds inv h l cs.toList))
  | .makeSlice t n c =>
    match P.underlying t with
    | some (.slice e) => do
      let z ← zeroOf P e
      let q ← lay P e
      if !okZero z || z.length != q.1 || P.bytesOf e = 0 then none else
      pure (.mkS q.1 (P.bytesOf e) z (← opd inv h l n) (← opd inv h l c))
    | _ => none
  | .call c =>
    match c.callee with
    | .value (.func f) => do
      let i ← inv f
      pure (.call (isPure i) i (← opds inv h l c.args.toList))
    | .value x => do pure (.callv (← opd inv h l x) (← opds inv h l c.args.toList))
    | .builtin b =>
      match b, c.args.toList, c.argTypes.toList with
      | .len, [x], [t] => match P.underlying t with
        | some (.slice _) => (opd inv h l x).map .len
        | some .string => (opd inv h l x).map .lens
        | _ => none
      | .min, [x, y], _ => do pure (.mn (← opd inv h l x) (← opd inv h l y))
      | .max, [x, y], _ => do pure (.mx (← opd inv h l x) (← opd inv h l y))
      | .append, [x, y], [t, u] => match P.underlying t, P.underlying u with
        | some (.slice e), some (.slice _) => do
          let z ← zeroOf P e
          let q ← lay P e
          if z.length != q.1 || q.1 = 0 || P.bytesOf e = 0 then none else
          pure (.app q.1 (P.bytesOf e) (← opd inv h l x) (← opd inv h l y))
        | some (.slice e), some (.int _) => do
          let z ← zeroOf P e
          let q ← lay P e
          if !okZero z || z.length != q.1 || q.1 = 0 || P.bytesOf e = 0 then none else
          pure (.apm q.1 (P.bytesOf e) z (← opd inv h l x) (← opd inv h l y))
        | _, _ => none
      | .copy, [x, y], [t, _] => match P.underlying t with
        | some (.slice e) => do
          let q ← lay P e
          pure (.cpy q.1 (← opd inv h l x) (← opd inv h l y))
        | _ => none
      | .cap, [x], [t] => match P.underlying t with
        | some (.slice _) => (opd inv h l x).map .cap
        | _ => none
      | .clear, [x], [t] => match P.underlying t with
        | some (.slice e) => do
          let z ← zeroOf P e
          let q ← lay P e
          if !okZero z || z.length != q.1 then none else
          pure (.clr z (← opd inv h l x))
        | _ => none
      | _, _, _ => none
    | _ => none
  | _ => none

/-- The slot that a statement writes. -/
def dstOf (o : Oper) (c : Op1) : Option Nat := match c with
  | .stV p _ _ _ => some p
  | _ => o.dst
def isNew (o : Oper) : Bool := match o.op with
  | .alloc _ | .box .. => true
  | _ => false
def adrVar : Op1 → Option Nat
  | .adrI p _ _ _ _ | .adrF p _ _ => some p
  | _ => none
/-- May the operation write its slot? -/
def dstOk (l : Look) (o : Oper) (c : Op1) : Bool := match adrVar c with
  | some p => match o.dst with
    | some d => !h.vars.contains d && !h.keep.contains d && l.var d == some p
    | none => false
  | none => match c with
    | .stV .. => o.dst.isNone
    | _ => match o.dst with
      | some d => (l.var d).isNone && (!h.vars.contains d || (isNew o && h.keep.contains d))
      | none => true
/-- The slots that an operation looks at. -/
def looksAt (slots : Nat → Option Nat) (o : Oper) : List Nat :=
  (o.op.operands.toList.filterMap fun | .tmp t => some t | _ => none) ++ (match o.guard with
    | some (j, _) => (slots j).toList
    | none => [])
def guardOf (l : Look) (slots : Nat → Option Nat) : Option (Nat × Bool) → Option (Option (Nat × Bool))
  | none => some none
  | some (j, w) => (slots j).bind fun s => if l.plain h s then some (some (s, w)) else none
def stmOf (nt : Nat) (slots : Nat → Option Nat) (am : List (Nat × Nat)) (o : Oper) : Option Stm :=
  let l : Look := ⟨am, looksAt slots o⟩
  let c := (comp1 P inv isPure h l o).getD .bad
  (guardOf h l slots o.guard).bind fun g =>
    if o.dst.all (fun d => decide (d < nt)) && dstOk h l o c then some ⟨g, dstOf o c, c, []⟩ else none
def compOps (nt : Nat) (slots : Nat → Option Nat) (am : List (Nat × Nat)) : List Oper → Option (List Stm)
  | [] => some []
  | o :: r => (stmOf P inv isPure h nt slots am o).bind fun s => (compOps nt slots am r).map (s :: ·)
/-- The address slots of a region. -/
def lookOf (l : Look) : List Oper → List (Nat × Nat)
  | [] => l.am
  | o :: r => match o.op, o.dst with
    | .indexAddr _ x _, some d | .fieldAddr _ x _, some d => match inVar h l x with
      | some (p, _) => lookOf ⟨(d, p) :: l.am, []⟩ r
      | none => lookOf l r
    | _, _ => lookOf l r
end

/- Which statements of a region must keep their order. -/
def Opd.rs : Opd → List Nat
  | .t n => [n]
  | _ => []
def rsOf : List Opd → List Nat := fun xs => xs.flatMap Opd.rs
def Op1.reads : Op1 → List Nat
  | .mov x | .un _ x | .conv _ x | .ext x _ | .fld _ _ _ x | .len x | .lens x | .nil x | .fldP _ x | .slcP _ _ x | .ld _ _ x | .b2s x | .box _ x | .cap x | .clr _ x => x.rs
  | .pick c a b => rsOf [c, a, b]
  | .bin _ x y | .eq _ _ x y | .idx _ _ _ x y | .idxs x y | .mn x y | .mx x y | .idxA _ x y | .idxP _ _ x y | .st _ x y | .mkS _ _ _ x y | .app _ _ x y | .cpy _ x y | .apm _ _ _ x y => rsOf [x, y]
  | .mkf _ xs | .call _ _ xs => rsOf xs
  | .callv x xs => rsOf (x :: xs)
  | .slcs x lo hi => rsOf (x :: lo.toList ++ hi.toList)
  | .slcA _ x lo hi m => rsOf (x :: lo.toList ++ hi.toList ++ m.toList)
  | .agg _ ps | .bldS _ _ _ ps => rsOf (ps.map (·.2.2))
  | .zero .. | .new .. | .bad => []
  | .adrI p b _ _ i => p :: b.toList ++ i.rs
  | .adrF p b _ => p :: b.toList
  | .ldV p s _ _ => p :: s.toList
  | .stV p s _ x => p :: s.toList ++ x.rs
/-- How a statement meets the heap: not at all; it reads; it adds a block; it acts. -/
inductive Meets where
  | no | reads | adds | acts
  deriving DecidableEq
def Op1.meets : Op1 → Meets
  | .ld .. | .b2s _ | .slcA .. | .slcP .. => .reads
  | .new .. | .box .. | .bldS .. | .mkS .. => .adds
  | .call .. | .callv .. | .st .. | .app .. | .cpy .. | .clr .. | .apm .. => .acts
  | _ => .no
def Op1.from : Op1 → Option Opd
  | .ld _ _ x | .b2s x | .slcA _ x _ _ _ | .slcP _ _ x => some x
  | _ => none
def Stm.rds (s : Stm) : List Nat := s.o.reads ++ s.g.toList.map (·.1)
def slotClash (a b : Stm) : Bool := a.d.any (fun d => b.d == some d || b.rds.contains d) || b.d.any (fun d => a.rds.contains d)
def sameOpd : Opd → Opd → Bool
  | .t a, .t b => a == b
  | _, _ => false
/-- Does a call write nothing that was there? -/
def Op1.quiet : Op1 → Bool
  | .call p _ _ => p
  | .callv .. => true
  | _ => false
/-- May b come ahead of a, which stands ahead of it? -/
def pairOk (bit : Bool) (a b : Stm) : Bool :=
  (bit || !slotClash a b) &&
  (match a.o.meets, b.o.meets with
    | .acts, .acts | .acts, .reads | .acts, .adds => bit
    | .reads, .acts => bit || b.o.quiet || (match a.o.from with
      | some x => b.fl.any (sameOpd x)
      | none => false)
    | _, _ => true) &&
  (match a.o.from with
    | some x => (a.d.toList ++ b.d.toList).all fun d => !x.rs.contains d
    | none => true)
/-- A variable is made anew, after its address was told. -/
def remade (h : Hint) (a b : Stm) : Bool := match adrVar a.o, b.o with
  | some _, .stV .. => false
  | some p, _ => h.vars.contains p && b.d == some p
  | none, _ => false
/-- Every slot that is looked at is kept, is a variable's or an address, or was written ahead; and the look is known. -/
def defOk (h : Hint) (am : List (Nat × Nat)) (looks : Nat → List Nat) : List Nat → List (Nat × Stm) → Bool
  | _, [] => true
  | w, (i, s) :: r => (looks i).all (fun t => s.rds.contains t && (h.vars.contains t || h.keep.contains t || (am.find? (·.1 == t)).isSome || w.contains t)) &&
    defOk h am looks (s.d.toList ++ w) r
def noRemade (h : Hint) : List Stm → Bool
  | [] => true
  | a :: r => r.all (fun b => !remade h a b) && noRemade h r
/-- All that an operation comes behind, as bits. -/
def bitsAfter (acc : List Nat) : List Edge → Nat
  | [] => 0
  | e :: r => if Region.binds .any e then bitsAfter acc r ||| (1 <<< e.on) ||| acc.getD e.on 0 else bitsAfter acc r
def behind (acc : List Nat) : List Oper → List Nat
  | [] => acc
  | o :: r => behind (acc ++ [bitsAfter acc o.after.toList]) r
/-- The edges that bind lead back. -/
def backward (ops : List Oper) : Bool := ops.zipIdx.all fun (o, i) => o.after.all fun e => !Region.binds .any e || decide (e.on < i)
/-- xs: the statements with their places in the region's text. -/
def orderOk (bs : List Nat) : List (Nat × Stm) → Bool
  | [] => true
  | (i, a) :: r => (r.all fun (j, b) => match bs[j]? with
      | some m => i != j && pairOk (m.testBit i) a b
      | none => false) && orderOk bs r
/-- An order in which what acts comes as late as it can. -/
def early (bs : List Nat) (ss : List Stm) : Nat → List Nat → List Nat
  | 0, done => done.reverse
  | n + 1, done =>
    let rs := (List.range ss.length).filter fun i => !done.contains i && (List.range i).all fun j => done.contains j || !((bs.getD i 0).testBit j)
    match rs.find? (fun i => (ss[i]?).any fun s => s.o.meets != .acts), rs with
    | some i, _ => early bs ss n (i :: done)
    | none, i :: _ => early bs ss n (i :: done)
    | none, [] => done.reverse
/-- The addresses that a statement must leave alone. -/
def floats (m : Nat) (ahead : List (Nat × Stm)) (s : Stm) : List Opd :=
  if s.o.meets != .acts || s.o.quiet then []
  else ahead.filterMap fun (i, a) => if m.testBit i then none else a.o.from
def withFloats (bs : List Nat) : List (Nat × Stm) → List (Nat × Stm) → List (Nat × Stm)
  | _, [] => []
  | ahead, (i, s) :: r => let s' : Stm := { s with fl := floats (bs.getD i 0) ahead s }; (i, s') :: withFloats bs (ahead ++ [(i, s')]) r
def arrange (bs : List Nat) (ss : List Stm) : List (Nat × Stm) :=
  withFloats bs [] ((early bs ss ss.length []).filterMap fun i => (ss[i]?).map fun s => (i, s))

section
variable (P : Program) (inv : FuncId → Option Nat) (isPure : Nat → Bool) (h : Hint) (nt : Nat)
def outsOf (ss : List Stm) : List Nat := ((ss.filterMap (·.d)).filter h.keep.contains).eraseDups
def badReg : Cd := .reg [] [⟨none, none, .bad, []⟩]
def compReg (ops : Array Oper) (draw : Bool) : Cd :=
  let slots := fun j => (ops[j]?).bind (·.dst)
  let am := lookOf h ⟨[], []⟩ ops.toList
  match compOps P inv isPure h nt slots am ops.toList with
  | none => badReg
  | some ss =>
    let bs := behind [] ops.toList
    let xs := if draw then arrange bs ss else ss.zipIdx.map fun x => (x.2, x.1)
    if (!draw || (backward ops.toList && (List.range ss.length).all (fun i => xs.any (·.1 == i)) && orderOk bs xs)) && noRemade h (xs.map (·.2)) &&
      defOk h am (fun i => ((ops[i]?).map (looksAt slots)).getD []) [] xs && am.all (fun x => !h.vars.contains x.1 && !h.keep.contains x.1 && h.vars.contains x.2) then .reg (outsOf h ss) (xs.map (·.2))
    else badReg
def compCode : Code → Option Cd
  | .skip => some .skip
  | .region _ ops draw => some (compReg P inv isPure h nt ops draw)
  | .seq a b => do pure (.seq (← compCode a) (← compCode b))
  | .cond c a b => match c with
    | .tmp t => if !h.vars.contains t && h.keep.contains t then do pure (.cond (.t t) (← compCode a) (← compCode b)) else none
    | .const (.bool v) => do pure (.cond (.c (.bool v)) (← compCode a) (← compCode b))
    | _ => none
  | .block id b => do pure (.block id (← compCode b))
  | .loop b => do pure (.loop (← compCode b))
  | .exit id => some (.exit id)
  | .ret => some .ret
  | _ => none
def compRes : ResultVar → Option Res
  | .tmp t => if !h.vars.contains t && h.keep.contains t then some (.t t) else none
  | .cell a t =>
    if h.keep.contains a then
      match lay P t with
      | some q => if h.vars.contains a then some (.v a (ldSize q) q.2) else some (.h a (ldSize q) q.2)
      | none => none
    else none
end
def compFn (P : Program) (inv : FuncId → Option Nat) (isPure : Nat → Bool) (h : Hint) (fn : Func) : Option Fn := do
  let np := fn.params.size + fn.nfree
  if np > fn.ntmps then none else
  let b ← fn.body
  let c ← compCode P inv isPure h fn.ntmps b
  let rs ← fn.results.toList.mapM (compRes P h)
  if (List.range np).any (fun s => h.vars.contains s) then none else
  if !(List.range np).all (fun s => h.keep.contains s) then none else
  if !h.keep.all (· < fn.ntmps) then none else
  pure { np, nt := fn.ntmps, kind := h.kind, res := rs, body := c }

end Fb
