/- Strings as lists of bytes, and what calls of Go's library compute (entries of the table). -/
import Derived.Test.YtimijcjjmeemeaaRun
import Derived.Lib.SplitLaws
import Derived.Lib.ParseIntB
import Derived.Lib.ItoaNum
import Derived.Lib.Join
set_option linter.unusedVariables false
set_option linter.unusedSimpArgs false
namespace Fb
open Go

def str (l : List UInt8) : Value := .string ⟨l.toArray⟩
theorem string_eq (s : ByteArray) : Value.string s = str s.data.toList := by unfold str; rw [Lib.mk_data]
/-- The pieces between the bytes c; cur: what the first has already. -/
def spl (c : UInt8) (cur : List UInt8) : List UInt8 → List (List UInt8)
  | [] => [cur]
  | x :: r => if x = c then cur :: spl c [] r else spl c (cur ++ [x]) r
/-- What stands before the first c, and behind it. -/
def cutc (c : UInt8) : List UInt8 → List UInt8 × List UInt8 × Bool
  | [] => ([], [], false)
  | x :: r => if x = c then ([], r, true) else (x :: (cutc c r).1, (cutc c r).2.1, (cutc c r).2.2)
theorem index_cons_eq (c : UInt8) (r : List UInt8) : Lib.index (c :: r) [c] = 0 := by unfold Lib.index; rw [if_pos (by simp)]
theorem index_cons_ne {x c : UInt8} (h : x ≠ c) (r : List UInt8) : Lib.index (x :: r) [c] = if Lib.index r [c] == -1 then -1 else Lib.index r [c] + 1 := by
  rw [Lib.index]
  rw [if_neg (by simp; exact fun e => h e.symm)]
theorem cut_one (c : UInt8) : ∀ s : List UInt8, Lib.cut s [c] = cutc c s
  | [] => rfl
  | x :: r => by
    have ih := cut_one c r
    have hg := Lib.index_ge r [c]
    unfold Lib.cut at ih ⊢
    rw [cutc]
    by_cases h : x = c
    · subst h
      rw [index_cons_eq, if_pos (by omega), if_pos rfl]
      rfl
    · rw [if_neg h, index_cons_ne h, ← ih]
      by_cases h1 : Lib.index r [c] = -1
      · rw [h1]
        rfl
      · have e : (if (Lib.index r [c] == -1) = true then (-1 : Int) else Lib.index r [c] + 1) = Lib.index r [c] + 1 := if_neg (by simp [h1])
        rw [e, if_pos (by omega), if_pos (by omega), show (Lib.index r [c] + 1).toNat = (Lib.index r [c]).toNat + 1 by omega]
        simp [Nat.add_right_comm]
theorem spl_index (c : UInt8) : ∀ (s cur : List UInt8), (Lib.index s [c] = -1 ∧ spl c cur s = [cur ++ s]) ∨ ∃ i : Nat, Lib.index s [c] = i ∧ spl c cur s = (cur ++ s.take i) :: spl c [] (s.drop (i + 1))
  | [], cur => .inl ⟨rfl, by simp [spl]⟩
  | x :: r, cur => by
    by_cases h : x = c
    · subst h
      exact .inr ⟨0, index_cons_eq x r, by simp [spl]⟩
    · rw [index_cons_ne h, spl, if_neg h]
      rcases spl_index c r (cur ++ [x]) with ⟨h1, h2⟩ | ⟨i, h1, h2⟩
      · exact .inl ⟨by simp [h1], by rw [h2]; simp⟩
      · refine .inr ⟨i + 1, ?_, by rw [h2]; simp⟩
        rw [if_neg (by rw [h1]; simp), h1]
        rfl
theorem split_one (c : UInt8) (n : Nat) : ∀ s : List UInt8, s.length ≤ n → Lib.splitK [c] 0 (Lib.count s [c]) s = spl c [] s := by
  induction n with
  | zero =>
    intro s hs
    obtain rfl : s = [] := List.length_eq_zero_iff.1 (by omega)
    rfl
  | succ n ih =>
    intro s hs
    rcases spl_index c s [] with ⟨h1, h2⟩ | ⟨i, h1, h2⟩
    · rw [h2, Lib.count_miss h1]
      simp [Lib.splitK]
    · have hr := Lib.index_room s [c] (by omega)
      have hi : i + 1 ≤ s.length := by simp at hr; omega
      rw [h2, Lib.count_hit (by simp) h1, Nat.add_comm, Lib.splitK, if_neg (by rw [h1]; simp), h1]
      simp only [Int.toNat_natCast, List.length_cons, List.length_nil, Nat.zero_add, Nat.add_zero, List.nil_append]
      rw [ih _ (by simp; omega)]
theorem spl_ne (c : UInt8) : ∀ (s cur : List UInt8), spl c cur s ≠ []
  | [], _ => by simp [spl]
  | x :: r, cur => by
    rw [spl]
    split
    · simp
    · exact spl_ne c r _

/-- The longest string that is looked at. -/
def strMax : Nat := 1000000
def ext377 (xs : List Value) (H : Heap) : Option (Value × Heap) := match xs with
  | [.string s, .string p] => if s.size ≤ strMax ∧ p.size = 1 then
      (let q := cutc (p.data.toList.headD 0) s.data.toList
      some (tup [str q.1, str q.2.1, .bool q.2.2], H)) else none
  | _ => none
def ext485 (xs : List Value) (H : Heap) : Option (Value × Heap) := match xs with
  | [.string s, .string p] => if s.size ≤ strMax ∧ p.size = 1 then
      (let l := (spl (p.data.toList.headD 0) [] s.data.toList).map str
      some (slc H.length 0 0 l.length l.length, H ++ [⟨l, 1, 0, false⟩])) else none
  | _ => none
def ext521 (xs : List Value) (H : Heap) : Option (Value × Heap) := match xs with
  | [.string s, .int .i64 10, .int .i64 64] => if s.size ≤ strMax then
      (match Lib.parseIntB 64 s.data.toList with
      | .ok v => some (tup [.int .i64 v, .nilIface], H)
      | .range => some (tup [.int .i64 (Lib.intSat 64 s.data.toList), .iface 0 .nilIface], H)
      | _ => some (tup [.int .i64 0, .iface 0 .nilIface], H)) else none
  | _ => none
def ext522 (xs : List Value) (H : Heap) : Option (Value × Heap) := match xs with
  | [.int .i64 n, .int .i64 10] => if -9223372036854775808 ≤ n ∧ n ≤ 9223372036854775807 then some (str (Lib.itoa n), H) else none
  | _ => none
def strsOf : List Value → Option (List (List UInt8))
  | [] => some []
  | .string s :: r => (strsOf r).map (s.data.toList :: ·)
  | _ :: _ => none
def ext380 (xs : List Value) (H : Heap) : Option (Value × Heap) := match xs with
  | [.slice _ 0 _, .string _] => some (str [], H)
  | [.slice (some ⟨b, off, some ver⟩) n _, .string p] => ((rd H b off ver n).bind strsOf).bind fun l =>
      if (Lib.join l p.data.toList).length ≤ roomMax ∧ l.length ≤ roomMax then some (str (Lib.join l p.data.toList), H) else none
  | _ => none
/- A frame's text: entry 439, a whole function of the program (it writes into a builder of strings). -/
def txR (has : Nat → Nat → Bool) (y : Nat) : Nat → List UInt8
  | 0 => []
  | x + 1 => txR has y x ++ [if has x y then 35 else 46]
def txF (has : Nat → Nat → Bool) : Nat → List UInt8
  | 0 => []
  | y + 1 => txF has y ++ txR has y 12 ++ [10]
theorem txR_len {has : Nat → Nat → Bool} {y x : Nat} : (txR has y x).length = x := by
  induction x with
  | zero => rfl
  | succ x ih => simp [txR, ih]
theorem txF_len {has : Nat → Nat → Bool} {y : Nat} : (txF has y).length = 13 * y := by
  induction y with
  | zero => rfl
  | succ y ih => simp [txF, ih, txR_len]; omega
def u16s : List Value → Option (List Int)
  | [] => some []
  | .int .u16 n :: r => (u16s r).map (n :: ·)
  | _ => none
/-- Has a frame a dot there? -/
def fdot (f : List Int) (x y : Nat) : Bool := decide ((f.getD y 0 / 2 ^ x) % 2 = 1)
def okU (f : List Int) : Bool := decide (f.length = 12) && f.all fun n => decide (0 ≤ n ∧ n ≤ 65535)
def ext439 (xs : List Value) (H : Heap) : Option (Value × Heap) := match xs with
  | [.agg cs] => match u16s cs.toList with
    | some f => if okU f = true then some (str (txF (fdot f) 12), H) else none
    | none => none
  | _ => none
/- The text of steps: entry 271, a whole function of the program (it writes into a builder of strings). -/
/-- The texts of so many steps, a line each. -/
def catT (t : Nat → List UInt8) : Nat → List UInt8
  | 0 => []
  | i + 1 => catT t i ++ (t i ++ [10])
/-- Steps that are valid, and their texts, one by one. -/
structure StT (T : Tab) (H : Heap) (x : Value) (n : Nat) (t : Nat → List UInt8) : Prop where
  le : n ≤ 1000000
  ok : Call T true 163 [x] H = some (.bool true, H)
  len : ∀ i, (t i).length ≤ 1000000
  is : ∃ p cap, x = .slice p n cap ∧ ∀ i, i < n → ∃ b off ver a0 a1 a2 a3 q m mc, p = some ⟨b, off, some ver⟩ ∧ rd H b (off + i * 5) ver 5 = some [.int .i8 a0, .int .i8 a1, .int .i8 a2, .int .i8 a3, .slice q m mc] ∧
    Call T true 465 [.agg #[.int .i8 a0, .int .i8 a1, .int .i8 a2, .int .i8 a3, .slice q m mc]] H = some (str (t i), H)
open Classical in
noncomputable def ext271 (T : Tab) (xs : List Value) (H : Heap) : Option (Value × Heap) := match xs with
  | [x] => if Call T true 163 [x] H = some (.bool false, H) then some (str [], H)
      else if h : ∃ s, ∃ n t, StT T H x n t ∧ s = catT t n then some (str h.choose, H) else none
  | _ => none
theorem catT_congr {t u : Nat → List UInt8} {n : Nat} (h : ∀ i, i < n → t i = u i) : catT t n = catT u n := by
  induction n with
  | zero => rfl
  | succ n ih => rw [catT, catT, ih fun i hi => h i (by omega), h n (by omega)]
theorem str_inj {a b : List UInt8} (h : str a = str b) : a = b := by
  unfold str at h
  have h1 : (⟨a.toArray⟩ : ByteArray) = ⟨b.toArray⟩ := by injection h
  have h2 : a.toArray = b.toArray := by injection h1
  exact List.toArray_inj h2
theorem StT.same {T : Tab} {H : Heap} {x : Value} {n m : Nat} {t u : Nat → List UInt8} (h : StT T H x n t) (k : StT T H x m u) : catT t n = catT u m := by
  obtain ⟨p, cap, rfl, h1⟩ := h.is
  obtain ⟨p', cap', e, k1⟩ := k.is
  cases e
  refine catT_congr fun i hi => ?_
  obtain ⟨b, off, ver, a0, a1, a2, a3, q, m, mc, rfl, hr, hc⟩ := h1 i hi
  obtain ⟨_, _, _, _, _, _, _, _, _, _, e, hr', hc'⟩ := k1 i hi
  cases e
  rw [hr] at hr'
  cases hr'
  rw [hc] at hc'
  exact str_inj (congrArg Prod.fst (Option.some.inj hc'))
theorem ext271_no {T : Tab} {H : Heap} {x : Value} (h : Call T true 163 [x] H = some (.bool false, H)) : ext271 T [x] H = some (str [], H) := by
  unfold ext271
  dsimp only
  rw [if_pos h]
theorem ext271_yes {T : Tab} {H : Heap} {x : Value} {n : Nat} {t : Nat → List UInt8} (h : StT T H x n t) : ext271 T [x] H = some (str (catT t n), H) := by
  unfold ext271
  dsimp only
  rw [if_neg (by rw [h.ok]; simp)]
  have hx : ∃ s, ∃ n t, StT T H x n t ∧ s = catT t n := ⟨_, n, t, h, rfl⟩
  rw [dif_pos hx]
  obtain ⟨m, u, k, e⟩ := hx.choose_spec
  rw [e, k.same h]
/-- More entries in the table: what was reckoned is reckoned. -/
theorem callF_more {T T' : Tab} (h : ∀ f D, T f = some D → T' f = some D) : ∀ k, Le (callF T k) (callF T' k)
  | 0 => fun _ _ _ _ _ hr => by simp [callF] at hr
  | k + 1 => fun pu f xs H r hr => by
    simp only [callF] at hr ⊢
    cases hf : T f with
    | none => rw [hf] at hr; cases hr
    | some D =>
      rw [hf] at hr
      rw [h f D hf]
      dsimp only at hr ⊢
      split at hr
      · cases hr
      · rename_i hp
        rw [if_neg hp]
        cases D with
        | ext kind g => exact hr
        | fn F =>
          dsimp only at hr ⊢
          split at hr
          · rename_i hn
            rw [if_pos hn]
            cases hc : code (callF T k) H.length (wbOf F.kind) k F.body (ini xs) H with
            | none => rw [hc] at hr; cases hr
            | some y =>
              rw [code_mono (callF_more h k) (Nat.le_refl _) hc]
              rw [hc] at hr
              exact hr
          · cases hr
theorem Call_more {T T' : Tab} (h : ∀ f D, T f = some D → T' f = some D) {pu : Bool} {f : Nat} {xs : List Value} {H : Heap} {r : Value × Heap} (hr : Call T pu f xs H = some r) : Call T' pu f xs H = some r := by
  obtain ⟨k, hk⟩ := of_Call hr
  exact Call_of (callF_more h k pu f xs H r hk)
end Fb
