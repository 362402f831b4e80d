/- Strings as lists of bytes, and what calls of Go's library compute (entries of the table). -/
import Derived.Test.YtimijcjjmeemeaaRun
import Derived.Lib.SplitLaws
import Derived.Lib.ParseIntB
import Derived.Lib.ItoaNum
import Derived.Lib.Join
set_option linter.unusedVariables false
set_option linter.unusedSimpArgs false
namespace Fb
open Go

def str (l : List UInt8) : Value := .string ⟨l.toArray⟩
theorem string_eq (s : ByteArray) : Value.string s = str s.data.toList := by unfold str; rw [Lib.mk_data]
/-- The pieces between the bytes c; cur: what the first has already. -/
def spl (c : UInt8) (cur : List UInt8) : List UInt8 → List (List UInt8)
  | [] => [cur]
  | x :: r => if x = c then cur :: spl c [] r else spl c (cur ++ [x]) r
/-- What stands before the first c, and behind it. -/
def cutc (c : UInt8) : List UInt8 → List UInt8 × List UInt8 × Bool
  | [] => ([], [], false)
  | x :: r => if x = c then ([], r, true) else (x :: (cutc c r).1, (cutc c r).2.1, (cutc c r).2.2)
theorem index_cons_eq (c : UInt8) (r : List UInt8) : Lib.index (c :: r) [c] = 0 := by unfold Lib.index; rw [if_pos (by simp)]
theorem index_cons_ne {x c : UInt8} (h : x ≠ c) (r : List UInt8) : Lib.index (x :: r) [c] = if Lib.index r [c] == -1 then -1 else Lib.index r [c] + 1 := by
  rw [Lib.index]
  rw [if_neg (by simp; exact fun e => h e.symm)]
theorem cut_one (c : UInt8) : ∀ s : List UInt8, Lib.cut s [c] = cutc c s
  | [] => rfl
  | x :: r => by
    have ih := cut_one c r
    have hg := Lib.index_ge r [c]
    unfold Lib.cut at ih ⊢
    rw [cutc]
    by_cases h : x = c
    · subst h
      rw [index_cons_eq, if_pos (by omega), if_pos rfl]
      rfl
    · rw [if_neg h, index_cons_ne h, ← ih]
      by_cases h1 : Lib.index r [c] = -1
      · rw [h1]
        rfl
      · have e : (if (Lib.index r [c] == -1) = true then (-1 : Int) else Lib.index r [c] + 1) = Lib.index r [c] + 1 := if_neg (by simp [h1])
        rw [e, if_pos (by omega), if_pos (by omega), show (Lib.index r [c] + 1).toNat = (Lib.index r [c]).toNat + 1 by omega]
        simp [Nat.add_right_comm]
theorem spl_index (c : UInt8) : ∀ (s cur : List UInt8), (Lib.index s [c] = -1 ∧ spl c cur s = [cur ++ s]) ∨ ∃ i : Nat, Lib.index s [c] = i ∧ spl c cur s = (cur ++ s.take i) :: spl c [] (s.drop (i + 1))
  | [], cur => .inl ⟨rfl, by simp [spl]⟩
  | x :: r, cur => by
    by_cases h : x = c
    · subst h
      exact .inr ⟨0, index_cons_eq x r, by simp [spl]⟩
    · rw [index_cons_ne h, spl, if_neg h]
      rcases spl_index c r (cur ++ [x]) with ⟨h1, h2⟩ | ⟨i, h1, h2⟩
      · exact .inl ⟨by simp [h1], by rw [h2]; simp⟩
      · refine .inr ⟨i + 1, ?_, by rw [h2]; simp⟩
        rw [if_neg (by rw [h1]; simp), h1]
        rfl
theorem split_one (c : UInt8) (n : Nat) : ∀ s : List UInt8, s.length ≤ n → Lib.splitK [c] 0 (Lib.count s [c]) s = spl c [] s := by
  induction n with
  | zero =>
    intro s hs
    obtain rfl : s = [] := List.length_eq_zero_iff.1 (by omega)
    rfl
  | succ n ih =>
    intro s hs
    rcases spl_index c s [] with ⟨h1, h2⟩ | ⟨i, h1, h2⟩
    · rw [h2, Lib.count_miss h1]
      simp [Lib.splitK]
    · have hr := Lib.index_room s [c] (by omega)
      have hi : i + 1 ≤ s.length := by simp at hr; omega
      rw [h2, Lib.count_hit (by simp) h1, Nat.add_comm, Lib.splitK, if_neg (by rw [h1]; simp), h1]
      simp only [Int.toNat_natCast, List.length_cons, List.length_nil, Nat.zero_add, Nat.add_zero, List.nil_append]
      rw [ih _ (by simp; omega)]
theorem spl_ne (c : UInt8) : ∀ (s cur : List UInt8), spl c cur s ≠ []
  | [], _ => by simp [spl]
  | x :: r, cur => by
    rw [spl]
    split
    · simp
    · exact spl_ne c r _

/-- The longest string that is looked at. -/
def strMax : Nat := 1000000
def ext377 (xs : List Value) (H : Heap) : Option (Value × Heap) := match xs with
  | [.string s, .string p] => if s.size ≤ strMax ∧ p.size = 1 then
      (let q := cutc (p.data.toList.headD 0) s.data.toList
      some (tup [str q.1, str q.2.1, .bool q.2.2], H)) else none
  | _ => none
def ext485 (xs : List Value) (H : Heap) : Option (Value × Heap) := match xs with
  | [.string s, .string p] => if s.size ≤ strMax ∧ p.size = 1 then
      (let l := (spl (p.data.toList.headD 0) [] s.data.toList).map str
      some (slc H.length 0 0 l.length l.length, H ++ [⟨l, 1, 0, false⟩])) else none
  | _ => none
def ext521 (xs : List Value) (H : Heap) : Option (Value × Heap) := match xs with
  | [.string s, .int .i64 10, .int .i64 64] => if s.size ≤ strMax then
      (match Lib.parseIntB 64 s.data.toList with
      | .ok v => some (tup [.int .i64 v, .nilIface], H)
      | .range => some (tup [.int .i64 (Lib.intSat 64 s.data.toList), .iface 0 .nilIface], H)
      | _ => some (tup [.int .i64 0, .iface 0 .nilIface], H)) else none
  | _ => none
def ext522 (xs : List Value) (H : Heap) : Option (Value × Heap) := match xs with
  | [.int .i64 n, .int .i64 10] => if -9223372036854775808 ≤ n ∧ n ≤ 9223372036854775807 then some (str (Lib.itoa n), H) else none
  | _ => none
def strsOf : List Value → Option (List (List UInt8))
  | [] => some []
  | .string s :: r => (strsOf r).map (s.data.toList :: ·)
  | _ :: _ => none
def ext380 (xs : List Value) (H : Heap) : Option (Value × Heap) := match xs with
  | [.slice _ 0 _, .string _] => some (str [], H)
  | [.slice (some ⟨b, off, some ver⟩) n _, .string p] => ((rd H b off ver n).bind strsOf).bind fun l =>
      if (Lib.join l p.data.toList).length ≤ roomMax ∧ l.length ≤ roomMax then some (str (Lib.join l p.data.toList), H) else none
  | _ => none
/- A frame's text: entry 439, a whole function of the program (it writes into a builder of strings). -/
def txR (has : Nat → Nat → Bool) (y : Nat) : Nat → List UInt8
  | 0 => []
  | x + 1 => txR has y x ++ [if has x y then 35 else 46]
def txF (has : Nat → Nat → Bool) : Nat → List UInt8
  | 0 => []
  | y + 1 => txF has y ++ txR has y 12 ++ [10]
theorem txR_len {has : Nat → Nat → Bool} {y x : Nat} : (txR has y x).length = x := by
  induction x with
  | zero => rfl
  | succ x ih => simp [txR, ih]
theorem txF_len {has : Nat → Nat → Bool} {y : Nat} : (txF has y).length = 13 * y := by
  induction y with
  | zero => rfl
  | succ y ih => simp [txF, ih, txR_len]; omega
def u16s : List Value → Option (List Int)
  | [] => some []
  | .int .u16 n :: r => (u16s r).map (n :: ·)
  | _ => none
/-- Has a frame a dot there? -/
def fdot (f : List Int) (x y : Nat) : Bool := decide ((f.getD y 0 / 2 ^ x) % 2 = 1)
def okU (f : List Int) : Bool := decide (f.length = 12) && f.all fun n => decide (0 ≤ n ∧ n ≤ 65535)
def ext439 (xs : List Value) (H : Heap) : Option (Value × Heap) := match xs with
  | [.agg cs] => match u16s cs.toList with
    | some f => if okU f = true then some (str (txF (fdot f) 12), H) else none
    | none => none
  | _ => none
end Fb
