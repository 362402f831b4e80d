/- Lemmas by which 'simp' reckons runs of the small language. -/
import Derived.Test.YtimijcjjmeemeaaRun
set_option linter.unusedVariables false
set_option linter.unusedSimpArgs false
namespace Fb
open Go

attribute [simp] Run_skip Run_ret Run_exit Run_reg Run_seq Run_cond Run_block
section
variable {cl : Cl} {n0 : Nat} {wb : Bool} {e : Env} {H : Heap}
@[simp] theorem ops_nil : ops cl n0 wb [] e H = some (e, H) := rfl
@[simp] theorem ops_plain {d : Option Nat} {o : Op1} {r : List Stm} : ops cl n0 wb (⟨none, d, o, []⟩ :: r) e H =
    (ev1 cl n0 wb e H o).bind fun x => ops cl n0 wb r (put e d x.1) x.2 := by
  simp only [ops, wanted, apart, stays, List.all_nil, Bool.or_true, if_true]; cases ev1 cl n0 wb e H o <;> rfl
@[simp] theorem ops_guard {j : Nat} {w : Bool} {d : Option Nat} {o : Op1} {r : List Stm} : ops cl n0 wb (⟨some (j, w), d, o, []⟩ :: r) e H =
    if wanted e (some (j, w)) then (ev1 cl n0 wb e H o).bind fun x => ops cl n0 wb r (put e d x.1) x.2
    else ops cl n0 wb r (skip o e d) H := by
  simp only [ops, apart, stays, List.all_nil, Bool.or_true, if_true]; cases ev1 cl n0 wb e H o <;> rfl
@[simp] theorem put_some {d : Nat} {v : Value} : put e (some d) v = upd e d v := rfl
@[simp] theorem put_none {v : Value} : put e none v = e := rfl
@[simp] theorem mask_nil {e1 : Env} : mask e e1 [] = e := rfl
@[simp] theorem mask_cons {e1 : Env} {o : Nat} {os : List Nat} : mask e e1 (o :: os) = upd (mask e e1 os) o (e1 o) := rfl
theorem upd_same {d : Nat} {v : Value} : upd e d v d = v := by simp [upd]
theorem upd_other {d s : Nat} {v : Value} (h : s ≠ d) : upd e d v s = e s := by simp [upd, h]
@[simp] theorem upd_at {d s : Nat} {v : Value} : upd e d v s = if s = d then v else e s := rfl
@[simp] theorem ini_zero {v : Value} {vs : List Value} : ini (v :: vs) 0 = v := rfl
@[simp] theorem ini_succ {v : Value} {vs : List Value} {n : Nat} : ini (v :: vs) (n + 1) = ini vs n := rfl
@[simp] theorem ini_one {v : Value} {vs : List Value} : ini (v :: vs) 1 = ini vs 0 := rfl
@[simp] theorem ini_two {v : Value} {vs : List Value} : ini (v :: vs) 2 = ini vs 1 := rfl
@[simp] theorem ini_three {v : Value} {vs : List Value} : ini (v :: vs) 3 = ini vs 2 := rfl
@[simp] theorem ini_four {v : Value} {vs : List Value} : ini (v :: vs) 4 = ini vs 3 := rfl
@[simp] theorem ini_five {v : Value} {vs : List Value} : ini (v :: vs) 5 = ini vs 4 := rfl
@[simp] theorem ev_t {n : Nat} : (Opd.t n).ev e = e n := rfl
@[simp] theorem ev_c {v : Value} : (Opd.c v).ev e = v := rfl
@[simp] theorem ev_f {i : Nat} : (Opd.f i).ev e = .func (.func i) #[] #[] := rfl
@[simp] theorem wanted_bool {j : Nat} {w : Bool} : wanted e (some (j, w)) = match e j with
    | .bool b => b == w
    | _ => false := rfl

/- Integers. -/
/-- A list of whole numbers as a row of cells; an array of them. -/
def cs (k : IntKind) (l : List Int) : List Value := l.map (Value.int k)
@[simp] theorem length_cs {k : IntKind} {l : List Int} : (cs k l).length = l.length := by simp [cs]
def iv (k : IntKind) (l : List Int) : Value := agg (cs k l)
@[simp] theorem cellsOf_agg {l : List Value} : cellsOf (agg l) = l := rfl
@[simp] theorem cellsOf_iv {k : IntKind} {l : List Int} : cellsOf (iv k l) = cs k l := rfl
@[simp] theorem cellsOf_int {k : IntKind} {n : Int} : cellsOf (.int k n) = [.int k n] := rfl
@[simp] theorem cellsOf_bool {b : Bool} : cellsOf (.bool b) = [.bool b] := rfl
theorem agg_cs {k : IntKind} {l : List Int} : agg (cs k l) = iv k l := rfl
@[simp] theorem length_zs {n : Nat} {v : Value} : (zs n v).length = n := by simp [zs]
/-- So many times one number. -/
def zr (n : Nat) (i : Int) : List Int := List.replicate n i
@[simp] theorem zr_length {n : Nat} {i : Int} : (zr n i).length = n := by simp [zr]
theorem zs_cs {n : Nat} {k : IntKind} {i : Int} : zs n (.int k i) = cs k (zr n i) := by simp [zs, cs, zr]

@[simp] theorem wrap64 {x : Int} (h : -9223372036854775808 ≤ x ∧ x < 9223372036854775808) : IntKind.wrap .i64 x = x := by
  show (if (true && decide (x % (2 ^ 64 : Int) ≥ (2 ^ (64 - 1) : Int))) = true then x % (2 ^ 64 : Int) - (2 ^ 64 : Int) else x % (2 ^ 64 : Int)) = x
  by_cases hx : x % (2 ^ 64 : Int) ≥ (2 ^ (64 - 1) : Int) <;> simp <;> omega
@[simp] theorem wrap16 {x : Int} (h : -32768 ≤ x ∧ x < 32768) : IntKind.wrap .i16 x = x := by
  show (if (true && decide (x % (2 ^ 16 : Int) ≥ (2 ^ (16 - 1) : Int))) = true then x % (2 ^ 16 : Int) - (2 ^ 16 : Int) else x % (2 ^ 16 : Int)) = x
  by_cases hx : x % (2 ^ 16 : Int) ≥ (2 ^ (16 - 1) : Int) <;> simp <;> omega
@[simp] theorem wrap8 {x : Int} (h : -128 ≤ x ∧ x < 128) : IntKind.wrap .i8 x = x := by
  show (if (true && decide (x % (2 ^ 8 : Int) ≥ (2 ^ (8 - 1) : Int))) = true then x % (2 ^ 8 : Int) - (2 ^ 8 : Int) else x % (2 ^ 8 : Int)) = x
  by_cases hx : x % (2 ^ 8 : Int) ≥ (2 ^ (8 - 1) : Int) <;> simp <;> omega
@[simp] theorem wrapu16 {x : Int} (h : 0 ≤ x ∧ x < 65536) : IntKind.wrap .u16 x = x := by
  show (if (false && decide (x % (2 ^ 16 : Int) ≥ (2 ^ (16 - 1) : Int))) = true then x % (2 ^ 16 : Int) - (2 ^ 16 : Int) else x % (2 ^ 16 : Int)) = x
  by_cases hx : x % (2 ^ 16 : Int) ≥ (2 ^ (16 - 1) : Int) <;> simp <;> omega
@[simp] theorem wrapu64 {x : Int} (h : 0 ≤ x ∧ x < 18446744073709551616) : IntKind.wrap .u64 x = x := by
  show (if (false && decide (x % (2 ^ 64 : Int) ≥ (2 ^ (64 - 1) : Int))) = true then x % (2 ^ 64 : Int) - (2 ^ 64 : Int) else x % (2 ^ 64 : Int)) = x
  by_cases hx : x % (2 ^ 64 : Int) ≥ (2 ^ (64 - 1) : Int) <;> simp <;> omega
@[simp] theorem wrapu8 {x : Int} (h : 0 ≤ x ∧ x < 256) : IntKind.wrap .u8 x = x := by
  show (if (false && decide (x % (2 ^ 8 : Int) ≥ (2 ^ (8 - 1) : Int))) = true then x % (2 ^ 8 : Int) - (2 ^ 8 : Int) else x % (2 ^ 8 : Int)) = x
  by_cases hx : x % (2 ^ 8 : Int) ≥ (2 ^ (8 - 1) : Int) <;> simp <;> omega
@[simp] theorem at_nat {n y : Nat} {k : IntKind} (h : y < n) : at' n (.int k (y : Int)) = some y := by
  show (if 0 ≤ (y : Int) ∧ (y : Int) < (n : Int) then some (y : Int).toNat else none) = some y
  rw [if_pos (by omega)]; simp
theorem at_int {n : Nat} {y : Int} {k : IntKind} (h : 0 ≤ y ∧ y < n) : at' n (.int k y) = some y.toNat := by
  show (if 0 ≤ y ∧ y < (n : Int) then some y.toNat else none) = some y.toNat
  rw [if_pos h]
theorem at_out {n : Nat} {y : Int} {k : IntKind} (h : y < 0 ∨ n ≤ y) : at' n (.int k y) = none := by
  show (if 0 ≤ y ∧ y < (n : Int) then some y.toNat else none) = none
  rw [if_neg (by omega)]
/-- The value of a slot that tells where in a variable. -/
def ad (n : Nat) : Value := .int .u64 (n : Int)
@[simp] theorem offV_ad {n : Nat} : offV (ad n) = some n := by simp [offV, ad]
@[simp] theorem offOf_none {p : Nat} : offOf e p none = if has (e p) then some 0 else none := rfl
@[simp] theorem offOf_some {p s : Nat} : offOf e p (some s) = offV (e s) := rfl
@[simp] theorem has_agg {l : List Value} : has (agg l) = true := Eq.trans rfl rfl
@[simp] theorem has_iv {k : IntKind} {l : List Int} : has (iv k l) = true := Eq.trans rfl rfl
@[simp] theorem has_int {k : IntKind} {n : Int} : has (.int k n) = true := Eq.trans rfl rfl
theorem take_all {α : Type} {l : List α} {n : Nat} (h : l.length ≤ n) : l.take n = l := List.take_of_length_le h
theorem take_drop_one {α : Type} [Inhabited α] {l : List α} {i : Nat} (h : i < l.length) : (l.drop i).take 1 = [l[i]] := by
  rw [List.drop_eq_getElem_cons h]; rfl
/-- A number of a row. -/
def nth (l : List Int) (i : Nat) : Int := l.getD i 0
@[simp] theorem cs_one {k : IntKind} {l : List Int} {i : Nat} (h : i < l.length) : ((cs k l).drop i).take 1 = [.int k (nth l i)] := by
  rw [List.drop_eq_getElem_cons (by simpa using h)]; simp [cs, nth, List.getElem?_eq_getElem h]
@[simp] theorem ldv_one {v : Value} : ldv false [v] = some v := rfl
@[simp] theorem ldv_agg {l : List Value} : ldv true l = some (agg l) := rfl
theorem splice_one {l : List Value} {i : Nat} {v : Value} (h : i < l.length) : splice l i [v] = l.set i v := by
  unfold splice; simp only [List.length_singleton]; rw [List.set_eq_take_append_cons_drop]; simp [h]
@[simp] theorem stc_one {k k' : IntKind} {l : List Int} {i : Nat} {n : Int} (h : i < l.length) (hk : k = k') : stc (iv k l) i [.int k' n] = some (iv k (l.set i n)) := by
  subst hk
  unfold iv agg stc
  simp only [List.size_toArray, length_cs, List.length_singleton]
  rw [if_pos (by omega)]
  simp only [splice_one (l := cs k l) (i := i) (by simpa using h), agg, Option.some.injEq, Value.agg.injEq]
  congr 1
  simp [cs, List.map_set]
@[simp] theorem stc_all {k : IntKind} {l l' : List Int} (h : l.length = l'.length) : stc (iv k l) 0 (cs k l') = some (iv k l') := by
  unfold iv agg stc
  simp only [List.size_toArray, length_cs]
  rw [if_pos (by omega)]
  simp [splice, h, agg]

/- What each operation comes to. -/
@[simp] theorem ev1_mov {x : Opd} : ev1 cl n0 wb e H (.mov x) = some (x.ev e, H) := rfl
@[simp] theorem ev1_pick {c a b : Opd} : ev1 cl n0 wb e H (.pick c a b) = (match c.ev e with
    | .bool true => some (a.ev e)
    | .bool false => some (b.ev e)
    | _ => none : Option Value).map (·, H) := rfl
@[simp] theorem ev1_bin {op : BinOp} {x y : Opd} : ev1 cl n0 wb e H (.bin op x y) = (binop op (x.ev e) (y.ev e)).map (·, H) := rfl
@[simp] theorem ev1_un {op : UnOp} {x : Opd} : ev1 cl n0 wb e H (.un op x) = (unop op (x.ev e)).map (·, H) := rfl
@[simp] theorem ev1_eq {c : EqK} {neg : Bool} {x y : Opd} : ev1 cl n0 wb e H (.eq c neg x y) = ((eqV c (x.ev e) (y.ev e)).map fun b => .bool (b != neg)).map (·, H) := rfl
def convV (k : IntKind) : Value → Option Value
  | .int _ n => some (.int k (k.wrap n))
  | _ => none
@[simp] theorem ev1_conv {k : IntKind} {x : Opd} : ev1 cl n0 wb e H (.conv k x) = (convV k (x.ev e)).map (·, H) := rfl
@[simp] theorem convV_int {k k' : IntKind} {n : Int} : convV k (.int k' n) = some (.int k (k.wrap n)) := rfl
def extV (i : Nat) : Value → Option Value
  | .tuple vs => vs.toList[i]?
  | _ => none
@[simp] theorem ev1_ext {x : Opd} {i : Nat} : ev1 cl n0 wb e H (.ext x i) = (extV i (x.ev e)).map (·, H) := rfl
@[simp] theorem extV_tup {i : Nat} {l : List Value} : extV i (tup l) = l[i]? := by simp [extV, tup]
def idxV (len esz : Nat) (isAgg : Bool) (x i : Value) : Option Value := match x with
  | .agg cs => (at' len i).bind fun j => if j * esz + esz ≤ cs.size then ldv isAgg ((cs.toList.drop (j * esz)).take esz) else none
  | _ => none
@[simp] theorem ev1_idx {len esz : Nat} {g : Bool} {x i : Opd} : ev1 cl n0 wb e H (.idx len esz g x i) = (idxV len esz g (x.ev e) (i.ev e)).map (·, H) := rfl
@[simp] theorem idxV_agg {len esz : Nat} {g : Bool} {l : List Value} {i : Value} : idxV len esz g (agg l) i =
    (at' len i).bind fun j => if j * esz + esz ≤ l.length then ldv g ((l.drop (j * esz)).take esz) else none := by simp [idxV, agg]
@[simp] theorem idxV_iv {len : Nat} {k : IntKind} {l : List Int} {i : Value} (h : l.length = len) : idxV len 1 false (iv k l) i = (at' len i).map fun j => .int k (nth l j) := by
  unfold iv; rw [idxV_agg]
  cases hi : at' len i with
  | none => rfl
  | some j =>
    have hj : j < l.length := by
      unfold at' at hi
      split at hi
      · split at hi
        · cases hi; omega
        · cases hi
      · cases hi
    simp only [Option.bind_some, Option.map_some, Nat.mul_one, length_cs]
    rw [if_pos (by omega), cs_one hj]; rfl
def lenV : Value → Option Value
  | .slice _ n _ => some (.int .i64 n)
  | _ => none
def lensV : Value → Option Value
  | .string s => some (.int .i64 s.size)
  | _ => none
@[simp] theorem ev1_lens {x : Opd} : ev1 cl n0 wb e H (.lens x) = (lensV (x.ev e)).map (·, H) := rfl
@[simp] theorem ev1_len {x : Opd} : ev1 cl n0 wb e H (.len x) = (lenV (x.ev e)).map (·, H) := rfl
@[simp] theorem lenV_slc {b off ver n cap : Nat} : lenV (slc b off ver n cap) = some (.int .i64 n) := rfl
@[simp] theorem lenV_nil {n cap : Nat} : lenV (.slice none n cap) = some (.int .i64 n) := rfl
@[simp] theorem lensV_str {s : ByteArray} : lensV (.string s) = some (.int .i64 s.size) := rfl
def nilV : Value → Option Value
  | .pointer (some a) => some (.pointer (some a))
  | .func (.func f) a c => some (.func (.func f) a c)
  | _ => none
@[simp] theorem ev1_nil {x : Opd} : ev1 cl n0 wb e H (.nil x) = (nilV (x.ev e)).map (·, H) := rfl
@[simp] theorem nilV_adr {b off ver : Nat} : nilV (adr b off ver) = some (adr b off ver) := rfl
@[simp] theorem nilV_func {f : Nat} {a c : Array Value} : nilV (.func (.func f) a c) = some (.func (.func f) a c) := rfl
@[simp] theorem ev1_mn {x y : Opd} : ev1 cl n0 wb e H (.mn x y) = (match x.ev e, y.ev e with
    | .int k a, .int _ b => some (.int k (if b < a then b else a))
    | _, _ => none : Option Value).map (·, H) := rfl
@[simp] theorem ev1_mx {x y : Opd} : ev1 cl n0 wb e H (.mx x y) = (match x.ev e, y.ev e with
    | .int k a, .int _ b => some (.int k (if b > a then b else a))
    | _, _ => none : Option Value).map (·, H) := rfl
@[simp] theorem ev1_mkf {f : Nat} {xs : List Opd} : ev1 cl n0 wb e H (.mkf f xs) = some (.func (.func f) #[] (xs.map (·.ev e)).toArray, H) := rfl
def idxAV (esz : Nat) (x i : Value) : Option Value := match x with
  | .slice (some ⟨b, off, some ver⟩) n _ => (at' n i).map fun j => adr b (off + j * esz) ver
  | _ => none
@[simp] theorem ev1_idxA {esz : Nat} {x i : Opd} : ev1 cl n0 wb e H (.idxA esz x i) = (idxAV esz (x.ev e) (i.ev e)).map (·, H) := rfl
@[simp] theorem idxAV_slc {esz b off ver n cap : Nat} {i : Value} : idxAV esz (slc b off ver n cap) i = (at' n i).map fun j => adr b (off + j * esz) ver := rfl
def idxPV (len esz : Nat) (x i : Value) : Option Value := match x with
  | .pointer (some ⟨b, off, some ver⟩) => (at' len i).map fun j => adr b (off + j * esz) ver
  | _ => none
@[simp] theorem ev1_idxP {len esz : Nat} {x i : Opd} : ev1 cl n0 wb e H (.idxP len esz x i) = (idxPV len esz (x.ev e) (i.ev e)).map (·, H) := rfl
@[simp] theorem idxPV_adr {len esz b off ver : Nat} {i : Value} : idxPV len esz (adr b off ver) i = (at' len i).map fun j => adr b (off + j * esz) ver := rfl
def fldPV (o : Nat) : Value → Option Value
  | .pointer (some ⟨b, off, some ver⟩) => some (adr b (off + o) ver)
  | _ => none
@[simp] theorem ev1_fldP {o : Nat} {x : Opd} : ev1 cl n0 wb e H (.fldP o x) = (fldPV o (x.ev e)).map (·, H) := rfl
@[simp] theorem fldPV_adr {o b off ver : Nat} : fldPV o (adr b off ver) = some (adr b (off + o) ver) := rfl
@[simp] theorem ev1_slcP {n esz : Nat} {x : Opd} : ev1 cl n0 wb e H (.slcP n esz x) = (slcPV H n esz (x.ev e)).map (·, H) := rfl
@[simp] theorem ev1_slcA {esz : Nat} {x : Opd} {lo hi mx : Option Opd} : ev1 cl n0 wb e H (.slcA esz x lo hi mx) =
    (slcAV H esz (x.ev e) (lo.map (·.ev e)) (hi.map (·.ev e)) (mx.map (·.ev e))).map (·, H) := rfl
@[simp] theorem ev1_agg {z : List Value} {ps : List (Nat × Nat × Opd)} : ev1 cl n0 wb e H (.agg z ps) = ((fill z (ps.map fun q => (q.1, q.2.1, q.2.2.ev e))).map agg).map (·, H) := rfl
@[simp] theorem ev1_zero {g : Bool} {z : List Value} : ev1 cl n0 wb e H (.zero g z) = (ldv g z).map (·, H) := rfl
@[simp] theorem ev1_adrI {p : Nat} {b : Option Nat} {len esz : Nat} {i : Opd} : ev1 cl n0 wb e H (.adrI p b len esz i) =
    ((offOf e p b).bind fun o => (at' len (i.ev e)).map fun j => ad (o + j * esz)).map (·, H) := rfl
@[simp] theorem ev1_adrF {p : Nat} {b : Option Nat} {off : Nat} : ev1 cl n0 wb e H (.adrF p b off) =
    ((offOf e p b).map fun o => ad (o + off)).map (·, H) := rfl
def ldc (n : Nat) (isAgg : Bool) (cur : Value) (o : Nat) : Option Value :=
  if o + n ≤ (cellsOf cur).length then ldv isAgg (((cellsOf cur).drop o).take n) else none
@[simp] theorem ev1_ldV {p : Nat} {off : Option Nat} {n : Nat} {g : Bool} : ev1 cl n0 wb e H (.ldV p off n g) = ((offOf e p off).bind (ldc n g (e p))).map (·, H) := rfl
@[simp] theorem ldc_iv {k : IntKind} {l : List Int} {n : Nat} (h : l.length = n) : ldc n true (iv k l) 0 = some (iv k l) := by
  subst h; simp [ldc]; rw [take_all (by simp)]; rfl
@[simp] theorem ldc_iv1 {k : IntKind} {l : List Int} {o : Nat} (h : o < l.length) : ldc 1 false (iv k l) o = some (.int k (nth l o)) := by
  unfold ldc
  rw [if_pos (by simp; omega), cellsOf_iv, cs_one h]; rfl
@[simp] theorem ev1_stV {p : Nat} {off : Option Nat} {n : Nat} {x : Opd} : ev1 cl n0 wb e H (.stV p off n x) =
    ((offOf e p off).bind fun o => if (cellsOf (x.ev e)).length = n then stc (e p) o (cellsOf (x.ev e)) else none).map (·, H) := rfl
def ldH (H : Heap) (n : Nat) (isAgg : Bool) : Value → Option Value
  | .pointer (some ⟨b, off, some ver⟩) => (rd H b off ver n).bind (ldv isAgg)
  | _ => none
@[simp] theorem ev1_ld {n : Nat} {g : Bool} {x : Opd} : ev1 cl n0 wb e H (.ld n g x) = (ldH H n g (x.ev e)).map (·, H) := by
  show (match x.ev e with
    | .pointer (some ⟨b, off, some ver⟩) => (rd H b off ver n).bind fun cs => (ldv g cs).map fun v => (v, H)
    | _ => none) = _
  unfold ldH
  split
  · cases rd H _ _ _ n <;> rfl
  · rfl
@[simp] theorem ev1_box {n : Nat} {x : Opd} : ev1 cl n0 wb e H (.box n x) =
    if (cellsOf (x.ev e)).length = n then some (adr H.length 0 0, H ++ [⟨cellsOf (x.ev e), 1, 0, false⟩]) else none := rfl
@[simp] theorem ev1_new {esz : Nat} {z : List Value} : ev1 cl n0 wb e H (.new esz z) = some (adr H.length 0 0, H ++ [⟨z, esz, 0, false⟩]) := rfl
@[simp] theorem ev1_bldS {esz n : Nat} {z : List Value} {ps : List (Nat × Nat × Opd)} : ev1 cl n0 wb e H (.bldS esz n z ps) =
    (fill (rep n z) (ps.map fun q => (q.1, q.2.1, q.2.2.ev e))).map fun cs => (slc H.length 0 0 n n, H ++ [⟨cs, esz, 0, false⟩]) := rfl
def stO (n0 : Nat) (wb : Bool) (H : Heap) (n : Nat) (x v : Value) : Option (Value × Heap) := match x with
  | .pointer (some ⟨b, off, some ver⟩) => if (cellsOf v).length = n then (wr n0 wb H b off ver (cellsOf v)).map fun H' => (U, H') else none
  | _ => none
def capV (x : Value) : Option Value := match x with
  | .slice none 0 0 => some (.int .i64 0)
  | _ => none
@[simp] theorem capV_nil : capV (.slice none 0 0) = some (.int .i64 0) := rfl
@[simp] theorem ev1_cap {x : Opd} : ev1 cl n0 wb e H (.cap x) = (capV (x.ev e)).map (·, H) := rfl
def clrO (n0 : Nat) (wb : Bool) (H : Heap) (z : List Value) (x : Value) : Option (Value × Heap) := match x with
  | .slice none 0 0 => some (U, H)
  | .slice (some ⟨b, off, some ver⟩) len _ => (wr n0 wb H b off ver (rep len z)).map fun H' => (U, H')
  | _ => none
@[simp] theorem clrO_slc {z : List Value} {b off ver len cap : Nat} : clrO n0 wb H z (slc b off ver len cap) = (wr n0 wb H b off ver (rep len z)).map fun H' => (U, H') := rfl
def apmO (H : Heap) (esz bytes : Nat) (z : List Value) (x n : Value) : Option (Value × Heap) := match x, n with
  | .slice none 0 0, .int .i64 m => if 0 < m ∧ m * bytes ≤ roomMax then some (slc H.length 0 0 m.toNat m.toNat, H ++ [⟨rep m.toNat z, esz, 0, false⟩]) else none
  | _, _ => none
theorem apmO_nil {esz bytes n : Nat} {z : List Value} (h : 0 < n) (hb : n * bytes ≤ roomMax) : apmO H esz bytes z (.slice none 0 0) (.int .i64 (n : Int)) = some (slc H.length 0 0 n n, H ++ [⟨rep n z, esz, 0, false⟩]) := by
  show (if 0 < (n : Int) ∧ (n : Int) * bytes ≤ roomMax then _ else _) = _
  rw [if_pos ⟨by omega, by rw [← Int.natCast_mul]; exact Int.ofNat_le.2 hb⟩]; rfl
@[simp] theorem ev1_apm {esz bytes : Nat} {z : List Value} {x n : Opd} : ev1 cl n0 wb e H (.apm esz bytes z x n) = apmO H esz bytes z (x.ev e) (n.ev e) := rfl
@[simp] theorem ev1_clr {z : List Value} {x : Opd} : ev1 cl n0 wb e H (.clr z x) = clrO n0 wb H z (x.ev e) := rfl
@[simp] theorem ev1_st {n : Nat} {x v : Opd} : ev1 cl n0 wb e H (.st n x v) = stO n0 wb H n (x.ev e) (v.ev e) := rfl
@[simp] theorem stO_adr {n b off ver : Nat} {v : Value} : stO n0 wb H n (adr b off ver) v = if (cellsOf v).length = n then (wr n0 wb H b off ver (cellsOf v)).map fun H' => (U, H') else none := rfl
@[simp] theorem ev1_app {esz bytes : Nat} {x y : Opd} : ev1 cl n0 wb e H (.app esz bytes x y) =
    (srcOf esz H (y.ev e)).bind fun q => appendTo n0 wb esz bytes H (x.ev e) q.1 q.2 := rfl
@[simp] theorem ev1_call {f : Nat} {xs : List Opd} : ev1 cl n0 wb e H (.call true f xs) = cl true f (xs.map (·.ev e)) H := rfl
@[simp] theorem ev1_callA {f : Nat} {xs : List Opd} : ev1 cl n0 wb e H (.call false f xs) = (cl false f (xs.map (·.ev e)) H).bind (elder n0 wb H) := rfl
@[simp] theorem elder_true {r : Value × Heap} : elder n0 true H r = some r := rfl
@[simp] theorem elder_same {r : Value × Heap} (h : r.2.take n0 = H.take n0) : elder n0 wb H r = some r := by
  unfold elder; rw [if_pos h]; simp
def callV (cl : Cl) (H : Heap) (x : Value) (xs : List Value) : Option (Value × Heap) := match x with
  | .func (.func f) a cs => if a.isEmpty then cl true f (xs ++ cs.toList) H else none
  | _ => none
@[simp] theorem ev1_callv {x : Opd} {xs : List Opd} : ev1 cl n0 wb e H (.callv x xs) = callV cl H (x.ev e) (xs.map (·.ev e)) := rfl
@[simp] theorem callV_func {f : Nat} {cs xs : List Value} : callV cl H (.func (.func f) #[] cs.toArray) xs = cl true f (xs ++ cs) H := by simp [callV]
@[simp] theorem callV_func0 {f : Nat} {xs : List Value} : callV cl H (.func (.func f) #[] #[]) xs = cl true f xs H := by simp [callV]
@[simp] theorem ev1_bad : ev1 cl n0 wb e H .bad = none := rfl

/- Binary operations on numbers. -/
section
variable {k : IntKind} {a b : Int}
@[simp] theorem bin_add : binop .add (.int k a) (.int k b) = some (.int k (k.wrap (a + b))) := by simp [binop, intBin]
@[simp] theorem bin_sub : binop .sub (.int k a) (.int k b) = some (.int k (k.wrap (a - b))) := by simp [binop, intBin]
@[simp] theorem bin_mul : binop .mul (.int k a) (.int k b) = some (.int k (k.wrap (a * b))) := by simp [binop, intBin]
@[simp] theorem bin_quo (h : b ≠ 0) : binop .quo (.int k a) (.int k b) = some (.int k (k.wrap (a.tdiv b))) := by simp [binop, intBin, h]
@[simp] theorem bin_rem (h : b ≠ 0) : binop .rem (.int k a) (.int k b) = some (.int k (a.tmod b)) := by simp [binop, intBin, h]
@[simp] theorem bin_and : binop .and (.int k a) (.int k b) = some (.int k (bitsOf .and k a b)) := by simp [binop, intBin]
@[simp] theorem bin_or : binop .or (.int k a) (.int k b) = some (.int k (bitsOf .or k a b)) := by simp [binop, intBin]
@[simp] theorem bin_xor : binop .xor (.int k a) (.int k b) = some (.int k (bitsOf .xor k a b)) := by simp [binop, intBin]
@[simp] theorem bin_andNot : binop .andNot (.int k a) (.int k b) = some (.int k (bitsOf .andNot k a b)) := by simp [binop, intBin]
@[simp] theorem bin_eql : binop .eql (.int k a) (.int k b) = some (.bool (a == b)) := by simp [binop, intBin]
@[simp] theorem bin_neq : binop .neq (.int k a) (.int k b) = some (.bool (a != b)) := by simp [binop, intBin]
@[simp] theorem bin_lss : binop .lss (.int k a) (.int k b) = some (.bool (decide (a < b))) := by simp [binop, intBin]
@[simp] theorem bin_leq : binop .leq (.int k a) (.int k b) = some (.bool (decide (a ≤ b))) := by simp [binop, intBin]
@[simp] theorem bin_gtr : binop .gtr (.int k a) (.int k b) = some (.bool (decide (b < a))) := by simp [binop, intBin]
@[simp] theorem bin_geq : binop .geq (.int k a) (.int k b) = some (.bool (decide (b ≤ a))) := by simp [binop, intBin]
@[simp] theorem bin_shl {k' : IntKind} : binop .shl (.int k a) (.int k' b) = shiftOf .shl k a b := by simp [binop]
@[simp] theorem bin_shr {k' : IntKind} : binop .shr (.int k a) (.int k' b) = shiftOf .shr k a b := by simp [binop]
@[simp] theorem un_neg : unop .neg (.int k a) = some (.int k (k.wrap (0 - a))) := rfl
@[simp] theorem un_not {c : Bool} : unop .not (.bool c) = some (.bool !c) := rfl
@[simp] theorem eq_b {c d : Bool} : eqV .b (.bool c) (.bool d) = some (c == d) := rfl
end

/- What a call hands back. -/
@[simp] theorem resVs_nil : resVs e H [] = some [] := rfl
@[simp] theorem resVs_t {n : Nat} {rs : List Res} : resVs e H (.t n :: rs) = (resVs e H rs).map (e n :: ·) := rfl
@[simp] theorem resVs_v {n sz : Nat} {g : Bool} {rs : List Res} : resVs e H (.v n sz g :: rs) =
    (if has (e n) = true ∧ (cellsOf (e n)).length = sz then ldv g (cellsOf (e n)) else none).bind fun v => (resVs e H rs).map (v :: ·) := by
  show (match resV e H (.v n sz g) with
    | some v => (resVs e H rs).map (v :: ·)
    | none => none) = _
  cases h : resV e H (.v n sz g) with
  | none => simp only [resV] at h; rw [h]; rfl
  | some v => simp only [resV] at h; rw [h]; rfl
@[simp] theorem resVs_h {n sz : Nat} {g : Bool} {rs : List Res} : resVs e H (.h n sz g :: rs) = (ldH H sz g (e n)).bind fun v => (resVs e H rs).map (v :: ·) := by
  show (match resV e H (.h n sz g) with
    | some v => (resVs e H rs).map (v :: ·)
    | none => none) = _
  have : resV e H (.h n sz g) = ldH H sz g (e n) := rfl
  rw [this]
  cases ldH H sz g (e n) <;> rfl
@[simp] theorem old0_int {k : IntKind} {a : Int} : old0 n0 (.int k a) = true := Eq.trans rfl rfl
@[simp] theorem old0_bool {b : Bool} : old0 n0 (.bool b) = true := Eq.trans rfl rfl
@[simp] theorem old0_str {s : ByteArray} : old0 n0 (.string s) = true := Eq.trans rfl rfl
@[simp] theorem old1_int {k : IntKind} {a : Int} : old1 n0 (.int k a) = true := Eq.trans rfl rfl
@[simp] theorem old1_bool {b : Bool} : old1 n0 (.bool b) = true := Eq.trans rfl rfl
@[simp] theorem old1_str {s : ByteArray} : old1 n0 (.string s) = true := Eq.trans rfl rfl
@[simp] theorem old1_nil {n c : Nat} : old1 n0 (.slice none n c) = true := Eq.trans rfl rfl
@[simp] theorem all_cs {k : IntKind} {l : List Int} : (cs k l).all (old0 n0) = true := by simp [cs]
@[simp] theorem old1_iv {k : IntKind} {l : List Int} : old1 n0 (iv k l) = true := by
  show (cs k l).toArray.toList.all (old0 n0) = true
  simp
@[simp] theorem pack_nil {s : List Nat} {acc : List Blk} : pack n0 H [] s acc = some ([], acc) := rfl
@[simp] theorem pack_old {v : Value} {vs : List Value} {s : List Nat} {acc : List Blk} (h : old1 n0 v = true) :
    pack n0 H (v :: vs) s acc = (pack n0 H vs s acc).map fun q => (v :: q.1, q.2) := by rw [pack, if_pos h]
@[simp] theorem one_one {v : Value} : one [v] = v := rfl
@[simp] theorem one_two {v w : Value} {vs : List Value} : one (v :: w :: vs) = tup (v :: w :: vs) := rfl
theorem finish_some {H' : Heap} {vs ws : List Value} {bs : List Blk} (h : pack n0 H' vs [] [] = some (ws, bs)) : finish n0 H' vs = (one ws, H'.take n0 ++ bs) := by
  unfold finish; rw [h]
@[simp] theorem finish_1 {H' : Heap} {v : Value} (h : old1 n0 v = true) : finish n0 H' [v] = (v, H'.take n0) := by
  rw [finish_some (ws := [v]) (bs := []) (by simp [h])]; simp
@[simp] theorem finish_2 {H' : Heap} {v w : Value} (h : old1 n0 v = true) (h2 : old1 n0 w = true) : finish n0 H' [v, w] = (tup [v, w], H'.take n0) := by
  rw [finish_some (ws := [v, w]) (bs := []) (by simp [h, h2])]; simp
@[simp] theorem finish_3 {H' : Heap} {v w x : Value} (h : old1 n0 v = true) (h2 : old1 n0 w = true) (h3 : old1 n0 x = true) : finish n0 H' [v, w, x] = (tup [v, w, x], H'.take n0) := by
  rw [finish_some (ws := [v, w, x]) (bs := []) (by simp [h, h2, h3])]; simp
@[simp] theorem finish_4 {H' : Heap} {v w x y : Value} (h : old1 n0 v = true) (h2 : old1 n0 w = true) (h3 : old1 n0 x = true) (h4 : old1 n0 y = true) : finish n0 H' [v, w, x, y] = (tup [v, w, x, y], H'.take n0) := by
  rw [finish_some (ws := [v, w, x, y]) (bs := []) (by simp [h, h2, h3, h4])]; simp
@[simp] theorem finish_bool {H' : Heap} {b : Bool} : finish n0 H' [.bool b] = (.bool b, H'.take n0) := finish_1 (Eq.trans rfl rfl)
@[simp] theorem finish_int {H' : Heap} {k : IntKind} {a : Int} : finish n0 H' [.int k a] = (.int k a, H'.take n0) := finish_1 (Eq.trans rfl rfl)
@[simp] theorem finish_str {H' : Heap} {s : ByteArray} : finish n0 H' [.string s] = (.string s, H'.take n0) := finish_1 (Eq.trans rfl rfl)
@[simp] theorem finish_iv {H' : Heap} {k : IntKind} {l : List Int} : finish n0 H' [iv k l] = (iv k l, H'.take n0) := finish_1 old1_iv
@[simp] theorem take_app {L : Heap} : (H ++ L).take H.length = H := by simp

end
end Fb
