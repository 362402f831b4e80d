/- What each function computes. -/
import Derived.Test.YtkkncjfgnielgabTab
import Derived.Test.YtkkncjfgnielgabPl
set_option linter.unusedVariables false
set_option linter.unusedSimpArgs false
namespace Fb
open Go
theorem call304 {pu : Bool} {a b c : Int} {H : Heap} : Call tab pu 304 [.int .i64 a, .int .i64 b, .int .i64 c] H = some (.bool (decide (b ≤ a ∧ a ≤ c)), H) := by
  refine Call_wp t304 (.inr rfl) rfl ?_
  by_cases h : b ≤ a <;> simp [c304, k304, h, skip]
theorem call295 {pu : Bool} {a b c : Int} {H : Heap} : Call tab pu 295 [.int .i64 a, .int .i64 b, .int .i64 c] H = some (.bool (decide (b ≤ a ∧ a ≤ c)), H) := by
  refine Call_wp t295 (.inr rfl) rfl ?_
  by_cases h : b ≤ a <;> simp [c295, k295, h, skip]
/-- A number that fits. -/
abbrev i16 (n : Int) : Prop := -32768 ≤ n ∧ n ≤ 32767
def okL (n : Int) : Bool := decide (0 ≤ n ∧ n ≤ 1000)
def okAll (l : List Int) : Bool := l.all okL
theorem upto_succ {p : Nat → Prop} {i : Nat} (h : ∀ j, j < i → p j) (hi : p i) : ∀ j, j < i + 1 → p j := by
  intro j hj
  rcases Nat.lt_or_ge j i with h1 | h1
  · exact h j h1
  · obtain rfl : j = i := by omega
    exact hi
theorem all_false {l : List Int} {p : Int → Bool} {x : Int} (h : x ∈ l) (hp : p x = false) : l.all p = false := by
  rw [List.all_eq_false]; exact ⟨x, h, by simp [hp]⟩
theorem okAll_nth {l : List Int} (h : okAll l = true) {i : Nat} (hi : i < l.length) : 0 ≤ nth l i ∧ nth l i ≤ 1000 := by
  have := List.all_eq_true.1 h _ (nth_mem hi)
  simpa [okL] using this
theorem step12 {x y : Nat} (hx : x < 12) (hy : y < 12) : y * 12 + x < 144 := by omega
/-- The first m numbers of a row are turned. -/
def part (f : Int → Int) (m : Nat) (l : List Int) : List Int := (l.take m).map f ++ l.drop m
theorem part_length {f : Int → Int} {m : Nat} {l : List Int} : (part f m l).length = l.length := by simp [part]; omega
theorem part_zero {f : Int → Int} {l : List Int} : part f 0 l = l := by simp [part]
theorem part_all {f : Int → Int} {m : Nat} {l : List Int} (h : l.length ≤ m) : part f m l = l.map f := by simp [part, List.take_of_length_le h, List.drop_eq_nil_of_le h]
theorem nth_part {f : Int → Int} {m i : Nat} {l : List Int} (h : i < l.length) : nth (part f m l) i = if i < m then f (nth l i) else nth l i := by
  apply nth_of
  simp only [part, List.getElem?_append, List.length_map, List.length_take]
  split
  · rw [if_pos (by omega), List.getElem?_map, List.getElem?_take, if_pos (by omega), nth_get h]; rfl
  · rw [if_neg (by omega), List.getElem?_drop, show m + (i - min m l.length) = i by omega, nth_get h]
theorem part_set {f : Int → Int} {m : Nat} {l : List Int} (h : m < l.length) : (part f m l).set m (f (nth l m)) = part f (m + 1) l := by
  refine ext_nth (by simp [part_length]) fun i hi => ?_
  have hi : i < l.length := by simpa [part_length] using hi
  rw [nth_set (by rw [part_length]; exact h), nth_part hi, nth_part hi]
  split
  · rename_i h1; subst h1; rw [if_pos (by omega)]
  · split
    · rw [if_pos (by omega)]
    · rw [if_neg (by omega)]
def fad (keep n : Int) : Int := (n * keep).tdiv 8
theorem fad_ok {keep n : Int} (h0 : 0 ≤ keep) (h8 : keep ≤ 8) (hn : 0 ≤ n ∧ n ≤ 1000) : 0 ≤ fad keep n ∧ fad keep n ≤ 1000 ∧ 0 ≤ n * keep ∧ n * keep ≤ 8000 := by
  have h1 : 0 ≤ n * keep := Int.mul_nonneg hn.1 h0
  have h2 : n * keep ≤ 1000 * 8 := Int.mul_le_mul hn.2 h8 h0 (by omega)
  unfold fad
  rw [Int.tdiv_eq_ediv_of_nonneg h1]
  omega
theorem stc_at {k : IntKind} {l l' : List Int} {i : Nat} {n : Int} (h : i < l.length) (hl : l.set i n = l') : stc (iv k l) i [.int k n] = some (iv k l') := by rw [stc_one h rfl, hl]
theorem call300 {pu : Bool} {H : Heap} {l : List Int} {keep : Int} (hl : l.length = 144) (hk : okAll l = true) (h0 : 0 ≤ keep) (h8 : keep ≤ 8) : Call tab pu 300 [iv .i16 l, .int .i64 keep] H = some (iv .i16 (l.map (fad keep)), H) := by
  refine Call_wp t300 (.inr rfl) rfl ?_
  simp [c300, k300, zs_cs, agg_cs]
  refine WP_forH 5 12 12 rfl (by omega) (fun y e => e 1 = .int .i64 keep ∧ e 2 = iv .i16 (part (fad keep) (y * 12) l) ∧ e 4 = iv .i16 (zr 144 0)) ?_ ?_ (by simp) (by simp [part_zero])
  · rintro y e hy hyy e5 h5 ⟨h1, h2, h4⟩
    simp [b300_2, h5, hyy]
    refine WP_forH 6 12 12 rfl (by omega) (fun x e => e 1 = .int .i64 keep ∧ e 5 = .int .i64 y ∧ e 2 = iv .i16 (part (fad keep) (y * 12 + x) l) ∧ e 4 = iv .i16 (zr 144 0)) ?_ ?_ (by simp) (by simp [h1, h2, h4, h5])
    · rintro x e hx hxx e6 h6 ⟨h1, h5, h2, h4⟩
      have h7 := step12 hx hy
      have hn := okAll_nth hk (i := y * 12 + x) (by omega)
      obtain ⟨f1, f2, f3, f4⟩ := fad_ok h0 h8 hn
      have hp : ldc 1 false (iv .i16 (part (fad keep) (y * 12 + x) l)) (y * 12 + x) = some (.int .i16 (nth l (y * 12 + x))) := by rw [ldc_iv1 (by rw [part_length]; omega), nth_part (by omega), if_neg (by omega)]
      have e9 := stc_at (k := .i16) (by rw [part_length]; omega) (part_set (f := fad keep) (m := y * 12 + x) (l := l) (by omega))
      have e10 : IntKind.wrap .i16 (fad keep (nth l (y * 12 + x))) = fad keep (nth l (y * 12 + x)) := wrap16 (by omega)
      have e11 : IntKind.wrap .i64 ((nth l (y * 12 + x) * keep).tdiv 8) = fad keep (nth l (y * 12 + x)) := wrap64 (by unfold fad at f1 f2; omega)
      simp (disch := omega) [b300_1, h6, hxx, hx, hy, h1, h5, h2, h4, e6, ← Nat.add_assoc, hp, e9, e10, e11]
    · rintro e h6 ⟨h1, h5, h2, h4⟩
      simp [b300_1, h6, h1, h2, h4, h5, e5, Nat.add_mul]
  · rintro e h5 ⟨h1, h2, h4⟩
    have e9 : stc (iv .i16 (zr 144 0)) 0 (cs .i16 (l.map (fad keep))) = some (iv .i16 (l.map (fad keep))) := stc_all (by simp [hl])
    simp [b300_2, h5, h2, h4, part_all (f := fad keep) (m := 144) (Nat.le_of_eq hl), hl, e9, agg_cs]
theorem call302 {pu : Bool} {H : Heap} {l : List Int} {keep : Int} (hl : l.length = 144) (hk : okAll l = true) (h0 : 0 ≤ keep) (h8 : keep ≤ 8) : Call tab pu 302 [iv .i16 l, .int .i64 keep] H = some (iv .i16 (l.map (fad keep)), H) := by
  refine Call_wp t302 (.inr rfl) rfl ?_
  simp [c302, k302, zs_cs, agg_cs]
  refine WP_forH 8 12 12 rfl (by omega) (fun y e => e 1 = .int .i64 keep ∧ e 2 = iv .i16 (part (fad keep) (y * 12) l) ∧ e 4 = iv .i16 (zr 144 0)) ?_ ?_ (by simp) (by simp [part_zero])
  · rintro y e hy hyy e5 h5 ⟨h1, h2, h4⟩
    have hs := sub_length (l := part (fad keep) (y * 12) l) (o := y * 12) (n := 12) (by rw [part_length]; omega)
    have hq : ldc 12 true (iv .i16 (part (fad keep) (y * 12) l)) (y * 12) = some (iv .i16 (sub (part (fad keep) (y * 12) l) (y * 12) 12)) := ldc_sub (by rw [part_length]; omega)
    simp (disch := omega) [b302_2, h5, hyy, h2, hy, hq]
    refine WP_forH 14 12 12 rfl (by omega) (fun x e => e 1 = .int .i64 keep ∧ e 5 = .int .i64 y ∧ e 8 = .int .i64 y ∧ e 13 = iv .i16 (sub (part (fad keep) (y * 12) l) (y * 12) 12) ∧ e 2 = iv .i16 (part (fad keep) (y * 12 + x) l) ∧ e 4 = iv .i16 (zr 144 0)) ?_ ?_ (by simp) (by simp [h1, h2, h4, h5])
    · rintro x e hx hxx e6 h6 ⟨h1, h5, h3, h7, h2, h4⟩
      have h7' := step12 hx hy
      have hn := okAll_nth hk (i := y * 12 + x) (by omega)
      obtain ⟨f1, f2, f3, f4⟩ := fad_ok h0 h8 hn
      have hp : nth (sub (part (fad keep) (y * 12) l) (y * 12) 12) x = nth l (y * 12 + x) := by rw [nth_sub hx, nth_part (by omega), if_neg (by omega)]
      have e9 := stc_at (k := .i16) (by rw [part_length]; omega) (part_set (f := fad keep) (m := y * 12 + x) (l := l) (by omega))
      have e10 : IntKind.wrap .i16 (fad keep (nth l (y * 12 + x))) = fad keep (nth l (y * 12 + x)) := wrap16 (by omega)
      have e11 : IntKind.wrap .i64 ((nth l (y * 12 + x) * keep).tdiv 8) = fad keep (nth l (y * 12 + x)) := wrap64 (by unfold fad at f1 f2; omega)
      simp (disch := omega) [b302_1, h6, hxx, hx, hy, h1, h5, h3, h7, h2, h4, hs, e6, ← Nat.add_assoc, hp, e9, e10, e11]
    · rintro e h6 ⟨h1, h5, h3, h7, h2, h4⟩
      simp [b302_1, h6, h1, h2, h3, h4, h5, e5, Nat.add_mul]
  · rintro e h5 ⟨h1, h2, h4⟩
    have e9 : stc (iv .i16 (zr 144 0)) 0 (cs .i16 (l.map (fad keep))) = some (iv .i16 (l.map (fad keep))) := stc_all (by simp [hl])
    simp [b302_2, h5, h2, h4, part_all (f := fad keep) (m := 144) (Nat.le_of_eq hl), hl, e9, agg_cs]
theorem call299 {pu : Bool} {a : Int} {H : Heap} : Call tab pu 299 [.int .i64 a] H = some (.bool (decide (0 ≤ a ∧ a ≤ 8)), H) := by
  refine Call_wp t299 (.inr rfl) rfl ?_
  simp [c299, k299, call304]
theorem call301 {pu : Bool} {a : Int} {H : Heap} : Call tab pu 301 [.int .i64 a] H = some (.bool (decide (0 ≤ a ∧ a ≤ 8)), H) := by
  refine Call_wp t301 (.inr rfl) rfl ?_
  simp [c301, k301, call295]
def lightR (l : List Int) (c : Int) : Value := tup [iv .i16 l, .int .i64 c]
theorem stc_zr {k : IntKind} {n : Nat} {l : List Int} (h : l.length = n) : stc (iv k (zr n 0)) 0 (cs k l) = some (iv k l) := stc_all (by simp [h])
theorem call303 {pu : Bool} {H : Heap} {l : List Int} (hl : l.length = 12) : Call tab pu 303 [iv .i16 l, iv .i16 l] H = some (.bool true, H) := by
  refine Call_wp t303 (.inr rfl) rfl ?_
  simp [c303, k303]
  refine WP_forH 5 12 12 rfl (by omega) (fun i e => e 2 = iv .i16 l ∧ e 3 = iv .i16 l) ?_ ?_ (by simp) (by simp)
  · rintro i e hi hx e4 h5 ⟨h2, h3⟩
    simp (disch := omega) [b303_1, h5, hx, hi, h2, h3, e4, hl]
  · rintro e h5 ⟨h2, h3⟩
    simp [b303_1, h5]
theorem call75 {pu : Bool} {H : Heap} {l : List Int} (hl : l.length = 144) : Call tab pu 75 [iv .i16 l, iv .i16 l] H = some (.bool true, H) := by
  refine Call_wp t75 (.inr rfl) rfl ?_
  simp [c75, k75]
  refine WP_forH 5 12 12 rfl (by omega) (fun i e => e 2 = iv .i16 l ∧ e 3 = iv .i16 l) ?_ ?_ (by simp) (by simp)
  · rintro i e hi hx e4 h5 ⟨h2, h3⟩
    have hs := sub_length (l := l) (o := i * 12) (n := 12) (by omega)
    simp (disch := omega) [b75_1, h5, hx, hi, h2, h3, e4, ldc_sub, call303 hs]
  · rintro e h5 ⟨h2, h3⟩
    simp [b75_1, h5]
def bit (x : Nat) : Int := 2 ^ x
theorem bit_ok {x : Nat} (h : x < 12) : 0 < bit x ∧ bit x ≤ 2048 := by
  have : x = 0 ∨ x = 1 ∨ x = 2 ∨ x = 3 ∨ x = 4 ∨ x = 5 ∨ x = 6 ∨ x = 7 ∨ x = 8 ∨ x = 9 ∨ x = 10 ∨ x = 11 := by omega
  rcases this with rfl | rfl | rfl | rfl | rfl | rfl | rfl | rfl | rfl | rfl | rfl | rfl <;> decide
theorem call78 {pu : Bool} {H : Heap} {l : List Int} (hl : l.length = 12) : Call tab pu 78 [iv .u16 l, iv .u16 l] H = some (.bool true, H) := by
  refine Call_wp t78 (.inr rfl) rfl ?_
  simp [c78, k78]
  refine WP_forH 5 12 12 rfl (by omega) (fun i e => e 2 = iv .u16 l ∧ e 3 = iv .u16 l) ?_ ?_ (by simp) (by simp)
  · rintro i e hi hx e4 h5 ⟨h2, h3⟩
    simp (disch := omega) [b78_1, h5, hx, hi, h2, h3, e4, hl]
  · rintro e h5 ⟨h2, h3⟩
    simp [b78_1, h5]
def szSK  : Cd :=
  (.seq
   (.reg [4] [
     ⟨none, (some 4), .mov (.c (.int .i64 0)), []⟩])
   (.seq
    (.reg [1] [
      ⟨none, (some 5), .mov (.t 1), []⟩,
      ⟨none, (some 6), .mov (.t 0), []⟩,
      ⟨none, (some 7), .len (.t 6), []⟩,
      ⟨none, (some 8), .bin .sub (.t 5) (.t 7), []⟩,
      ⟨none, (some 1), .mov (.t 8), []⟩])
    (.seq
     (.seq
      (.reg [10] [
        ⟨none, (some 9), .mov (.t 1), []⟩,
        ⟨none, (some 10), .bin .lss (.t 9) (.c (.int .i64 0)), []⟩])
      (.cond (.t 10)
       (.seq
        (.reg [4] [
          ⟨none, (some 4), .mov (.c (.int .i64 (-1))), []⟩])
        .ret)
       .skip))
     (.seq
      (.reg [4] [
        ⟨none, (some 11), .mov (.t 1), []⟩,
        ⟨none, (some 4), .mov (.t 11), []⟩])
      .ret))))
def szSC  : Fn := { np := 2, nt := 12, kind := .pure, res := [.t 4], body := szSK  }
def toSB1 (toE : Nat) (esz : Nat) (bytes : Nat) (z : List Value) (fo : Op1) : Cd :=
  (.seq
   (.seq
    (.reg [24] [
      ⟨none, (some 21), .mov (.t 6), []⟩,
      ⟨none, (some 22), .mov (.t 0), []⟩,
      ⟨none, (some 23), .len (.t 22), []⟩,
      ⟨none, (some 24), .bin .lss (.t 21) (.t 23), []⟩])
    (.cond (.t 24)
     .skip
     (.exit 0)))
   (.seq
    (.block 1
     (.reg [] [
       ⟨none, (some 27), .mov (.t 5), []⟩,
       ⟨none, (some 28), .mov (.t 6), []⟩,
       ⟨none, (some 29), .mov (.t 0), []⟩,
       ⟨none, (some 30), .mov (.t 6), []⟩,
       ⟨none, (some 31), .idxA esz (.t 29) (.t 30), []⟩,
       ⟨none, (some 32), .ld esz true (.t 31), []⟩,
       ⟨none, (some 33), .call true toE [.t 32], []⟩,
       ⟨none, (some 34), .idxA esz (.t 27) (.t 28), []⟩,
       ⟨none, none, .st esz (.t 34) (.t 33), []⟩]))
    (.reg [6] [
      ⟨none, (some 25), .mov (.t 6), []⟩,
      ⟨none, (some 26), .bin .add (.t 25) (.c (.int .i64 1)), []⟩,
      ⟨none, (some 6), .mov (.t 26), []⟩])))
def toSB2 (toE : Nat) (esz : Nat) (bytes : Nat) (z : List Value) (fo : Op1) : Cd :=
  (.seq
   (.seq
    (.reg [40] [
      ⟨none, (some 37), .mov (.t 7), []⟩,
      ⟨none, (some 38), .mov (.t 5), []⟩,
      ⟨none, (some 39), .len (.t 38), []⟩,
      ⟨none, (some 40), .bin .lss (.t 37) (.t 39), []⟩])
    (.cond (.t 40)
     .skip
     (.exit 2)))
   (.seq
    (.block 3
     (.reg [] [
       ⟨none, (some 43), .mov (.t 5), []⟩,
       ⟨none, (some 44), .mov (.t 7), []⟩,
       ⟨none, (some 45), fo, []⟩,
       ⟨none, (some 46), .idxA esz (.t 43) (.t 44), []⟩,
       ⟨none, none, .st esz (.t 46) (.t 45), []⟩]))
    (.reg [7] [
      ⟨none, (some 41), .mov (.t 7), []⟩,
      ⟨none, (some 42), .bin .add (.t 41) (.c (.int .i64 1)), []⟩,
      ⟨none, (some 7), .mov (.t 42), []⟩])))
def toSK (toE : Nat) (esz : Nat) (bytes : Nat) (z : List Value) (fo : Op1) : Cd :=
  (.seq
   (.reg [4] [
     ⟨none, (some 4), .mov (.c (.slice none 0 0)), []⟩])
   (.seq
    (.seq
     (.reg [13] [
       ⟨none, (some 8), .mov (.t 1), []⟩,
       ⟨none, (some 9), .mov (.t 8), []⟩,
       ⟨(some (9, true)), (some 10), .mov (.t 0), []⟩,
       ⟨(some (9, true)), (some 11), .len (.t 10), []⟩,
       ⟨(some (9, true)), (some 12), .bin .eql (.t 11) (.c (.int .i64 0)), []⟩,
       ⟨none, (some 13), .pick (.t 9) (.t 12) (.c (.bool false)), []⟩])
     (.cond (.t 13)
      (.seq
       (.reg [4] [
         ⟨none, (some 4), .mov (.c (.slice none 0 0)), []⟩])
       .ret)
      .skip))
    (.seq
     (.reg [5] [
       ⟨none, (some 14), .mov (.t 0), []⟩,
       ⟨none, (some 15), .len (.t 14), []⟩,
       ⟨none, (some 16), .mov (.t 0), []⟩,
       ⟨none, (some 17), .len (.t 16), []⟩,
       ⟨none, (some 18), .call true 296 [.t 17], []⟩,
       ⟨none, (some 19), .bin .add (.t 15) (.t 18), []⟩,
       ⟨none, (some 20), .mkS esz bytes z (.t 19) (.t 19), []⟩,
       ⟨none, (some 5), .mov (.t 20), []⟩])
     (.seq
      (.seq
       (.reg [6] [
         ⟨none, (some 6), .mov (.c (.int .i64 0)), []⟩])
       (.block 0
        (.loop (toSB1 toE esz bytes z fo))))
      (.seq
       (.seq
        (.reg [7] [
          ⟨none, (some 35), .mov (.t 0), []⟩,
          ⟨none, (some 36), .len (.t 35), []⟩,
          ⟨none, (some 7), .mov (.t 36), []⟩])
        (.block 2
         (.loop (toSB2 toE esz bytes z fo))))
       (.seq
        (.reg [4] [
          ⟨none, (some 47), .mov (.t 5), []⟩,
          ⟨none, (some 48), .mov (.t 0), []⟩,
          ⟨none, (some 49), .len (.t 48), []⟩,
          ⟨none, (some 50), .slcA esz (.t 47) none (some (.t 49)) none, []⟩,
          ⟨none, (some 4), .mov (.t 50), []⟩])
        .ret))))))
def toSC (toE : Nat) (esz : Nat) (bytes : Nat) (z : List Value) (fo : Op1) : Fn := { np := 2, nt := 51, kind := .pure, res := [.t 4], body := toSK toE esz bytes z fo }
def inSK (eqS : Nat) (esz : Nat) : Cd :=
  (.seq
   (.reg [4] [
     ⟨none, (some 4), .mov (.c (.bool false)), []⟩])
   (.seq
    (.reg [5] [
      ⟨none, (some 6), .mov (.t 1), []⟩,
      ⟨none, (some 7), .len (.t 6), []⟩,
      ⟨none, (some 8), .mov (.t 1), []⟩,
      ⟨none, (some 9), .len (.t 8), []⟩,
      ⟨none, (some 10), .call true 296 [.t 9], []⟩,
      ⟨none, (some 11), .bin .add (.t 7) (.t 10), []⟩,
      ⟨none, (some 5), .mov (.t 11), []⟩])
    (.seq
     (.reg [4] [
       ⟨none, (some 12), .mov (.t 0), []⟩,
       ⟨none, (some 13), .len (.t 12), []⟩,
       ⟨none, (some 14), .mov (.t 1), []⟩,
       ⟨none, (some 15), .len (.t 14), []⟩,
       ⟨none, (some 16), .bin .eql (.t 13) (.t 15), []⟩,
       ⟨none, (some 17), .mov (.t 16), []⟩,
       ⟨(some (17, true)), (some 18), .mov (.t 0), []⟩,
       ⟨(some (17, true)), (some 19), .mov (.t 5), []⟩,
       ⟨(some (17, true)), (some 20), .slcA esz (.t 18) none (some (.t 19)) none, []⟩,
       ⟨(some (17, true)), (some 21), .mov (.t 1), []⟩,
       ⟨(some (17, true)), (some 22), .mov (.t 5), []⟩,
       ⟨(some (17, true)), (some 23), .slcA esz (.t 21) none (some (.t 22)) none, []⟩,
       ⟨(some (17, true)), (some 24), .call true eqS [.t 20, .t 23], []⟩,
       ⟨none, (some 25), .pick (.t 17) (.t 24) (.c (.bool false)), []⟩,
       ⟨none, (some 4), .mov (.t 25), []⟩])
     .ret)))
def inSC (eqS : Nat) (esz : Nat) : Fn := { np := 2, nt := 26, kind := .pure, res := [.t 4], body := inSK eqS esz }
def eqSB1 (eqE : Nat) (esz : Nat) : Cd :=
  (.seq
   (.seq
    (.reg [14] [
      ⟨none, (some 11), .mov (.t 5), []⟩,
      ⟨none, (some 12), .mov (.t 0), []⟩,
      ⟨none, (some 13), .len (.t 12), []⟩,
      ⟨none, (some 14), .bin .lss (.t 11) (.t 13), []⟩])
    (.cond (.t 14)
     .skip
     (.exit 0)))
   (.seq
    (.block 1
     (.seq
      (.reg [26] [
        ⟨none, (some 17), .mov (.t 0), []⟩,
        ⟨none, (some 18), .mov (.t 5), []⟩,
        ⟨none, (some 19), .idxA esz (.t 17) (.t 18), []⟩,
        ⟨none, (some 20), .ld esz true (.t 19), []⟩,
        ⟨none, (some 21), .mov (.t 1), []⟩,
        ⟨none, (some 22), .mov (.t 5), []⟩,
        ⟨none, (some 23), .idxA esz (.t 21) (.t 22), []⟩,
        ⟨none, (some 24), .ld esz true (.t 23), []⟩,
        ⟨none, (some 25), .call true eqE [.t 20, .t 24], []⟩,
        ⟨none, (some 26), .un .not (.t 25), []⟩])
      (.cond (.t 26)
       (.seq
        (.reg [4] [
          ⟨none, (some 4), .mov (.c (.bool false)), []⟩])
        .ret)
       .skip)))
    (.reg [5] [
      ⟨none, (some 15), .mov (.t 5), []⟩,
      ⟨none, (some 16), .bin .add (.t 15) (.c (.int .i64 1)), []⟩,
      ⟨none, (some 5), .mov (.t 16), []⟩])))
def eqSK (eqE : Nat) (esz : Nat) : Cd :=
  (.seq
   (.reg [4] [
     ⟨none, (some 4), .mov (.c (.bool false)), []⟩])
   (.seq
    (.seq
     (.reg [10] [
       ⟨none, (some 6), .mov (.t 0), []⟩,
       ⟨none, (some 7), .len (.t 6), []⟩,
       ⟨none, (some 8), .mov (.t 1), []⟩,
       ⟨none, (some 9), .len (.t 8), []⟩,
       ⟨none, (some 10), .bin .neq (.t 7) (.t 9), []⟩])
     (.cond (.t 10)
      (.seq
       (.reg [4] [
         ⟨none, (some 4), .mov (.c (.bool false)), []⟩])
       .ret)
      .skip))
    (.seq
     (.seq
      (.reg [5] [
        ⟨none, (some 5), .mov (.c (.int .i64 0)), []⟩])
      (.block 0
       (.loop (eqSB1 eqE esz))))
     (.seq
      (.reg [4] [
        ⟨none, (some 4), .mov (.c (.bool true)), []⟩])
      .ret))))
def eqSC (eqE : Nat) (esz : Nat) : Fn := { np := 2, nt := 27, kind := .pure, res := [.t 4], body := eqSK eqE esz }
def roomN (n : Nat) : Nat := if n % 6 = 5 then 0 else if n % 3 = 0 then 1 else n
theorem roomN_le {n : Nat} : roomN n ≤ n + 1 := by
  unfold roomN
  split
  · omega
  · split <;> omega
theorem call296 {pu : Bool} {H : Heap} {n : Nat} : Call tab pu 296 [.int .i64 n] H = some (.int .i64 (roomN n), H) := by
  refine Call_wp t296 (.inr rfl) rfl ?_
  have e1 : ((n : Int).tmod 6 == 5) = decide (n % 6 = 5) := by
    rw [Int.tmod_eq_emod_of_nonneg (by omega)]
    apply Bool.eq_iff_iff.2
    simp; omega
  have e2 : ((n : Int).tmod 3 == 0) = decide (n % 3 = 0) := by
    rw [Int.tmod_eq_emod_of_nonneg (by omega)]
    apply Bool.eq_iff_iff.2
    simp; omega
  unfold roomN
  by_cases h1 : n % 6 = 5
  · simp (disch := decide) [c296, k296, e1, h1]
  · by_cases h2 : n % 3 = 0
    · simp (disch := decide) [c296, k296, e1, h1, e2, h2]
    · simp (disch := decide) [c296, k296, e1, h1, e2, h2]
/-- The i-th of a row of things. -/
def elem (vs : List Value) (esz i : Nat) : List Value := (vs.drop (i * esz)).take esz
theorem mul_next {i n esz : Nat} (h : i < n) : i * esz + esz ≤ n * esz := by
  have := Nat.mul_le_mul_right esz (show i + 1 ≤ n from h)
  rwa [Nat.succ_mul] at this
theorem elem_length {vs : List Value} {esz n i : Nat} (hl : vs.length = n * esz) (h : i < n) : (elem vs esz i).length = esz := by
  have := mul_next (esz := esz) h
  simp [elem]; omega
/-- A slice that can be read. -/
structure SlR (H : Heap) (x : Value) (esz n : Nat) (vs : List Value) : Prop where
  size : vs.length = n * esz
  is : (x = .slice none 0 0 ∧ n = 0) ∨ ∃ b off ver cap, x = slc b off ver n cap ∧ n ≤ cap ∧ rd H b off ver (n * esz) = some vs ∧ ∃ k, H[b]? = some k ∧ ver = k.ver ∧ k.esz = esz
theorem SlR.lenV {H : Heap} {x : Value} {esz n : Nat} {vs : List Value} (h : SlR H x esz n vs) : lenV x = some (.int .i64 n) := by
  rcases h.is with ⟨rfl, rfl⟩ | ⟨b, off, ver, cap, rfl, _⟩ <;> rfl
theorem SlR.app {H L : Heap} {x : Value} {esz n : Nat} {vs : List Value} (h : SlR H x esz n vs) : SlR (H ++ L) x esz n vs :=
  ⟨h.size, h.is.imp id fun ⟨b, off, ver, cap, h1, h2, h3, k, h4, h5⟩ => ⟨b, off, ver, cap, h1, h2, rd_app h3, k, by rw [List.getElem?_append_left (List.getElem?_eq_some_iff.1 h4).1]; exact h4, h5⟩⟩
theorem SlR.get {H : Heap} {x : Value} {esz n : Nat} {vs : List Value} (h : SlR H x esz n vs) {i : Nat} (hi : i < n) : ∃ a, idxAV esz x (.int .i64 (i : Int)) = some a ∧ ldH H esz true a = some (agg (elem vs esz i)) := by
  rcases h.is with ⟨rfl, rfl⟩ | ⟨b, off, ver, cap, rfl, h2, h3, _⟩
  · omega
  · refine ⟨adr b (off + i * esz) ver, by rw [idxAV_slc, at_nat hi]; rfl, ?_⟩
    rw [ldH_adr, rd_part h3 (mul_next hi)]; rfl
theorem SlR.of {H : Heap} {x : Value} {esz n : Nat} {vs : List Value} (h1 : vs.length = n * esz) (h : (x = .slice none 0 0 ∧ n = 0) ∨ ∃ b cap, x = slc b 0 0 n cap ∧ n ≤ cap ∧ rd H b 0 0 (n * esz) = some vs ∧ ∃ k, H[b]? = some k ∧ 0 = k.ver ∧ k.esz = esz) : SlR H x esz n vs :=
  ⟨h1, h.imp id fun ⟨b, cap, h1, h2, h3⟩ => ⟨b, 0, 0, cap, h1, h2, h3⟩⟩
theorem sz_call {f : Nat} (hf : tab f = some (.fn szSC)) {pu : Bool} {H : Heap} {x : Value} {esz n : Nat} {vs : List Value} (h : SlR H x esz n vs) {left : Int} (h0 : 0 ≤ left) (h1 : left ≤ 1000000) (hn : n ≤ 9223372036854775807) :
    Call tab pu f [x, .int .i64 left] H = some (.int .i64 (if left - n < 0 then -1 else left - n), H) := by
  refine Call_wp hf (.inr rfl) rfl ?_
  have e1 : IntKind.wrap .i64 (left - n) = left - n := wrap64 (by omega)
  by_cases h2 : left - (n : Int) < 0
  · simp [szSC, szSK, h.lenV, e1, h2]
  · simp [szSC, szSK, h.lenV, e1, h2]
/-- A row of which the first part is written already. -/
theorem splice_tk {C D vs : List Value} {o k : Nat} (hC : C.length = D.length) (hk : o + k ≤ D.length) (h : C.take o = D.take o) (hv : vs = (D.drop o).take k) : (splice C o vs).length = D.length ∧ (splice C o vs).take (o + k) = D.take (o + k) := by
  subst hv
  have e1 : ((D.drop o).take k).length = k := by simp; omega
  unfold splice
  refine ⟨by simp; omega, ?_⟩
  rw [e1, List.take_append_of_le_length (by simp; omega), h, List.take_of_length_le (by simp; omega)]
  exact (List.take_add ..).symm
theorem rep_len {n : Nat} {z : List Value} : (rep n z).length = n * z.length := by
  induction n with
  | zero => simp [rep]
  | succ n ih => simp [rep, ih, Nat.succ_mul]; omega
theorem elem_app {vs ws : List Value} {esz n i : Nat} (hl : vs.length = n * esz) (h : i < n) : elem (vs ++ ws) esz i = elem vs esz i := by
  have := mul_next (esz := esz) h
  unfold elem
  rw [List.drop_append_of_le_length (by omega), List.take_append_of_le_length (by simp; omega)]
theorem elem_rep {z : List Value} {n i : Nat} (h : i < n) : elem (rep n z) z.length i = z := by
  induction n generalizing i with
  | zero => omega
  | succ n ih =>
    cases i with
    | zero => simp [elem, rep]
    | succ i =>
      have := ih (i := i) (by omega)
      unfold elem at this ⊢
      rw [rep, Nat.succ_mul, Nat.add_comm, ← List.drop_drop]
      simpa using this
theorem elem_rep_app {vs z : List Value} {esz n m i : Nat} (hl : vs.length = n * esz) (hz : z.length = esz) (h : n ≤ i) (hi : i < n + m) : elem (vs ++ rep m z) esz i = z := by
  have e1 : elem (vs ++ rep m z) esz i = elem (rep m z) esz (i - n) := by
    unfold elem
    have : i * esz = vs.length + (i - n) * esz := by rw [hl, ← Nat.add_mul]; congr 1; omega
    rw [this, ← List.drop_drop, List.drop_left]
  rw [e1, ← hz]; exact elem_rep (by omega)
/-- What leads nowhere. -/
def NoRef (vs : List Value) : Prop := ∀ v ∈ vs, ∀ n, old0 n v = true
theorem NoRef.all {vs : List Value} (h : NoRef vs) {n : Nat} : vs.all (old0 n) = true := List.all_eq_true.2 fun v hv => h v hv n
theorem NoRef.app {vs ws : List Value} (h : NoRef vs) (h' : NoRef ws) : NoRef (vs ++ ws) := fun v hv n => (List.mem_append.1 hv).elim (fun h1 => h v h1 n) (fun h1 => h' v h1 n)
theorem NoRef.rep {z : List Value} (h : NoRef z) : ∀ {n : Nat}, NoRef (rep n z)
  | 0 => fun v hv => by simp [Fb.rep] at hv
  | n + 1 => h.app (NoRef.rep h)
theorem finish_slc {H G : Heap} {b ver len cap : Nat} {k : Blk} (hp : Pre H G) (hb : H.length ≤ b) (hk : G[b]? = some k) (hv : ver = k.ver) (hr : k.ro = false) (ho : k.cells.all (old0 H.length) = true) :
    finish H.length G [slc b 0 ver len cap] = (slc H.length 0 0 len cap, H ++ [{ k with ver := 0 }]) := by
  have hne : old1 H.length (slc b 0 ver len cap) = false := by
    show (true && decide (b < H.length)) = false
    simp; omega
  have : pack H.length G [slc b 0 ver len cap] [] [] = some ([slc H.length 0 0 len cap], [{ k with ver := 0 }]) := by
    rw [pack, if_neg (by rw [hne]; decide)]
    show (match G[b]? with
      | some k => if ([] : List Nat).contains b = false ∧ ver = k.ver ∧ k.ro = false ∧ k.cells.all (old0 H.length) = true then _ else none
      | none => none) = _
    rw [hk]
    simp only []
    rw [if_pos ⟨by simp, hv, hr, ho⟩]
    rfl
  rw [finish_some this, hp.take]; rfl
/-- The cells of a copy: with room behind. -/
def room (vs : List Value) (n : Nat) (fc : List Value) : List Value := vs ++ rep (roomN n) fc
theorem room_length {vs fc : List Value} {n esz : Nat} (hl : vs.length = n * esz) (hf : fc.length = esz) : (room vs n fc).length = (n + roomN n) * esz := by
  simp [room, rep_len, hl, hf, Nat.add_mul]
def mksV (esz bytes : Nat) (z : List Value) (G : Heap) (x y : Value) : Option (Value × Heap) := match x, y with
  | .int .i64 l, .int .i64 c => if 0 ≤ l ∧ l ≤ c ∧ c * bytes ≤ roomMax then some (slc G.length 0 0 l.toNat c.toNat, G ++ [⟨rep c.toNat z, esz, 0, false⟩]) else none
  | _, _ => none
theorem ev1_mkS {cl : Cl} {n0 : Nat} {wb : Bool} {e : Env} {G : Heap} {esz bytes : Nat} {z : List Value} {x y : Opd} : ev1 cl n0 wb e G (.mkS esz bytes z x y) = mksV esz bytes z G (x.ev e) (y.ev e) := rfl
theorem mksV_int {esz bytes : Nat} {z : List Value} {G : Heap} {l c : Int} : mksV esz bytes z G (.int .i64 l) (.int .i64 c) =
    if 0 ≤ l ∧ l ≤ c ∧ c * bytes ≤ roomMax then some (slc G.length 0 0 l.toNat c.toNat, G ++ [⟨rep c.toNat z, esz, 0, false⟩]) else none := rfl
theorem toS_call {f toE esz bytes : Nat} {z fc : List Value} {fo : Op1} (hf : tab f = some (.fn (toSC toE esz bytes z fo))) (hz : z.length = esz) (hb : bytes ≤ 64)
    (hfo : ∀ n0 e G, ev1 (Call tab) n0 false e G fo = some (agg fc, G)) (hfc : fc.length = esz) {pu : Bool} {H : Heap} {x : Value} {n : Nat} {vs : List Value} (hs : SlR H x esz n vs) (hn : n ≤ 1000000)
    (hE : ∀ i G, i < n → Call tab true toE [agg (elem vs esz i)] G = some (agg (elem vs esz i), G)) (ho : NoRef vs) (ho2 : NoRef fc) {flag : Bool} :
    Call tab pu f [x, .bool flag] H = some (if flag = true ∧ n = 0 then (.slice none 0 0, H) else (slc H.length 0 0 n (n + roomN n), H ++ [⟨room vs n fc, esz, 0, false⟩])) := by
  refine Call_wp hf (.inr rfl) rfl ?_
  by_cases hc : flag = true ∧ n = 0
  · obtain ⟨rfl, rfl⟩ := hc
    simp [toSC, toSK, hs.lenV]
  · have hn0 : flag = true → ¬ n = 0 := fun h h2 => hc ⟨h, h2⟩
    have hr := roomN_le (n := n)
    generalize hR : roomN n = R at hr
    have e1 : IntKind.wrap .i64 ((n : Int) + (R : Int)) = ((n + R : Nat) : Int) := by rw [wrap64 (by omega)]; omega
    have hmk : (0 ≤ ((n + R : Nat) : Int) ∧ ((n + R : Nat) : Int) ≤ ((n + R : Nat) : Int) ∧ ((n + R : Nat) : Int) * bytes ≤ roomMax) := by
      refine ⟨by omega, by omega, ?_⟩
      have h1 : (n + R) * bytes ≤ 3000000 * 64 := Nat.mul_le_mul (by omega) hb
      have h2 : roomMax = 140737488355328 := rfl
      rw [h2]
      have h3 : (((n + R) * bytes : Nat) : Int) ≤ ((3000000 * 64 : Nat) : Int) := Int.ofNat_le.2 h1
      rw [Int.natCast_mul] at h3
      exact Int.le_trans h3 (by decide)
    have hD : (room vs n fc).length = (n + R) * esz := by rw [room_length hs.size hfc, hR]
    have hele : ∀ i, i < n → elem (room vs n fc) esz i = elem vs esz i := fun i hi => elem_app hs.size hi
    have hele2 : ∀ i, n ≤ i → i < n + R → elem (room vs n fc) esz i = fc := fun i hi h2 => by unfold room; rw [hR]; exact elem_rep_app hs.size hfc hi h2
    have hev : ∀ (e : Env) (G : Heap), e 19 = .int .i64 ((n + R : Nat) : Int) → ev1 (Call tab) H.length false e G (.mkS esz bytes z (.t 19) (.t 19)) = some (slc G.length 0 0 (n + R) (n + R), G ++ [⟨rep (n + R) z, esz, 0, false⟩]) := by
      intro e G h
      rw [ev1_mkS, ev_t, h, mksV_int, if_pos hmk, Int.toNat_natCast]
    -- one store
    have hst : ∀ (C : List Value) (i : Nat) (vs' : List Value), C.length = (n + R) * esz → i < n + R → vs'.length = esz → stO H.length false (H ++ [⟨C, esz, 0, false⟩]) esz (adr H.length (i * esz) 0) (agg vs') = some (U, H ++ [⟨splice C (i * esz) vs', esz, 0, false⟩]) := by
      intro C i vs' hC hi hv
      have := mul_next (esz := esz) hi
      rw [stO_adr, cellsOf_agg, if_pos hv, wr_at (k := ⟨C, esz, 0, false⟩) get_last rfl rfl (by simp [may]) (by simp; omega), set_last]; rfl
    have hn1 : flag = true → ((n : Int) == 0) = false := fun h => by have := hn0 h; simp; omega
    have hmk' := hmk
    have hnlt : n < 9223372036854775807 := by omega
    have hbits : ∀ (C : List Value), C.length = (n + R) * esz → C.take ((n + R) * esz) = (room vs n fc).take ((n + R) * esz) → C = room vs n fc := fun C h1 h2 => by
      rwa [List.take_of_length_le (by omega), List.take_of_length_le (by omega)] at h2
    cases flag
    all_goals
      simp [toSC, toSK, hs.lenV, hn1, call296, hR, e1, ev1_mkS, mksV_int, hmk', skip, -Int.natCast_add]
      refine WP_count 6 n n rfl (fun i e H' => e 0 = x ∧ e 5 = slc H.length 0 0 (n + R) (n + R) ∧ ∃ C, C.length = (n + R) * esz ∧ C.take (i * esz) = (room vs n fc).take (i * esz) ∧ H' = H ++ [⟨C, esz, 0, false⟩]) hnlt ?_ ?_ (by simp) (by simp [rep_len, hz])
      · rintro i e _ _ hi hx e6 h6 ⟨h0, h5, C, hC, hCt, rfl⟩
        obtain ⟨a, ha, hl⟩ := (hs.app (L := [⟨C, esz, 0, false⟩])).get hi
        have hel := elem_length hs.size hi
        have hnx := mul_next (esz := esz) (show i < n + R by omega)
        obtain ⟨g1, g2⟩ := splice_tk (C := C) (D := room vs n fc) (vs := elem vs esz i) (o := i * esz) (k := esz) (by omega) (by omega) hCt (hele i hi).symm
        have hi2 : i < n + R := by omega
        simp [toSB1, h6, h0, h5, hx, hs.lenV, ha, hl, hE i _ hi, at_nat hi2, hst C i _ hC hi2 hel, wbOf, e6, -stO_adr]
        exact ⟨by omega, by rw [Nat.succ_mul]; exact g2⟩
      · rintro e _ _ h6 ⟨h0, h5, C, hC, hCt, rfl⟩
        simp [toSB1, h6, h0, h5, hs.lenV]
        refine WP_from 7 n (n + R) ((n + R : Nat) : Int) rfl (fun i e H' => e 0 = x ∧ e 5 = slc H.length 0 0 (n + R) (n + R) ∧ ∃ C, C.length = (n + R) * esz ∧ C.take (i * esz) = (room vs n fc).take (i * esz) ∧ H' = H ++ [⟨C, esz, 0, false⟩]) (by omega) (by omega) ?_ ?_ (by simp) ⟨by simp [h0], by simp [h5], C, hC, hCt, rfl⟩
        · rintro i e _ hni hi hx e6 h7 ⟨h0, h5, C, hC, hCt, rfl⟩
          have hnx := mul_next (esz := esz) hi
          obtain ⟨g1, g2⟩ := splice_tk (C := C) (D := room vs n fc) (vs := fc) (o := i * esz) (k := esz) (by omega) (by omega) hCt (hele2 i hni hi).symm
          simp [toSB2, h7, h0, h5, hx, hfo, at_nat hi, hst C i _ hC hi hfc, wbOf, e6, -stO_adr, -Int.natCast_add]
          exact ⟨by omega, by rw [Nat.succ_mul]; exact g2⟩
        · rintro e _ h7 ⟨h0, h5, C, hC, hCt, rfl⟩
          obtain rfl := hbits C hC hCt
          have hsl : slcAV (H ++ [⟨room vs n fc, esz, 0, false⟩]) esz (slc H.length 0 0 (n + R) (n + R)) none (some (.int .i64 n)) none = some (slc H.length 0 0 n (n + R)) := slcAV_hi get_last rfl rfl (by omega)
          have hfin := finish_slc (H := H) (G := H ++ [⟨room vs n fc, esz, 0, false⟩]) (b := H.length) (ver := 0) (len := n) (cap := n + R) (k := ⟨room vs n fc, esz, 0, false⟩) ⟨_, rfl⟩ (Nat.le_refl _) get_last rfl rfl (NoRef.all (ho.app ho2.rep))
          simp [toSB2, h7, h0, h5, hs.lenV, hsl, hfin, hn0, -Int.natCast_add]
theorem eqS_call {f eqE esz : Nat} (hf : tab f = some (.fn (eqSC eqE esz))) {pu : Bool} {H : Heap} {x y : Value} {n : Nat} {vs : List Value} (hx : SlR H x esz n vs) (hy : SlR H y esz n vs) (hn : n ≤ 1000000000)
    (hE : ∀ i, i < n → Call tab true eqE [agg (elem vs esz i), agg (elem vs esz i)] H = some (.bool true, H)) : Call tab pu f [x, y] H = some (.bool true, H) := by
  refine Call_wp hf (.inr rfl) rfl ?_
  simp [eqSC, eqSK, hx.lenV, hy.lenV]
  refine WP_forH 5 n n rfl (by omega) (fun i e => e 0 = x ∧ e 1 = y) ?_ ?_ (by simp) (by simp)
  · rintro i e hi hlt e4 h5 ⟨h0, h1⟩
    obtain ⟨a, ha, hl⟩ := hx.get hi
    obtain ⟨a', ha', hl'⟩ := hy.get hi
    simp [eqSB1, h5, h0, h1, hlt, hx.lenV, ha, hl, ha', hl', hE i hi, e4]
  · rintro e h5 ⟨h0, h1⟩
    simp [eqSB1, h5, h0, h1, hx.lenV]
/-- What a copy looks like. -/
def IsCp (H : Heap) (x : Value) (esz n : Nat) (vs fc : List Value) : Prop := ∃ b ver, x = slc b 0 ver n (n + roomN n) ∧ H[b]? = some ⟨room vs n fc, esz, ver, false⟩
theorem IsCp.sl {H : Heap} {x : Value} {esz n : Nat} {vs fc : List Value} (h : IsCp H x esz n vs fc) (hl : vs.length = n * esz) (hf : fc.length = esz) : SlR H x esz n vs := by
  obtain ⟨b, ver, rfl, h⟩ := h
  refine ⟨hl, .inr ⟨b, 0, ver, _, rfl, by omega, ?_, _, h, rfl, rfl⟩⟩
  have := room_length hl hf
  rw [Nat.add_mul] at this
  rw [rd_at h rfl (by simp; omega)]
  simp [room, hl]
theorem IsCp.app {H L : Heap} {x : Value} {esz n : Nat} {vs fc : List Value} (h : IsCp H x esz n vs fc) : IsCp (H ++ L) x esz n vs fc := by
  obtain ⟨b, ver, rfl, h⟩ := h
  exact ⟨b, ver, rfl, by rw [List.getElem?_append_left (List.getElem?_eq_some_iff.1 h).1]; exact h⟩
theorem IsCp.mk {H : Heap} {esz n : Nat} {vs fc : List Value} : IsCp (H ++ [⟨room vs n fc, esz, 0, false⟩]) (slc H.length 0 0 n (n + roomN n)) esz n vs fc := ⟨_, _, rfl, get_last⟩
theorem inS_call {f eqS eqE esz : Nat} (hf : tab f = some (.fn (inSC eqS esz))) (hf2 : tab eqS = some (.fn (eqSC eqE esz))) {pu : Bool} {H : Heap} {x y : Value} {n : Nat} {vs fc : List Value} (hx : IsCp H x esz n vs fc) (hy : IsCp H y esz n vs fc) (hn : n ≤ 1000000)
    (hl : vs.length = n * esz) (hfc : fc.length = esz) (hE : ∀ i, i < n → Call tab true eqE [agg (elem vs esz i), agg (elem vs esz i)] H = some (.bool true, H)) (hE2 : Call tab true eqE [agg fc, agg fc] H = some (.bool true, H)) :
    Call tab pu f [x, y] H = some (.bool true, H) := by
  refine Call_wp hf (.inr rfl) rfl ?_
  obtain ⟨b, ver, rfl, h⟩ := hx
  obtain ⟨b', ver', rfl, h'⟩ := hy
  have hr := roomN_le (n := n)
  have e1 : IntKind.wrap .i64 ((n : Int) + (roomN n : Int)) = ((n + roomN n : Nat) : Int) := by rw [wrap64 (by omega)]; omega
  have hlen := room_length hl hfc
  have s1 := slcAV_hi (off := 0) (len := n) (cap := n + roomN n) (kk := .i64) h rfl rfl (Nat.le_refl (n + roomN n))
  have s2 := slcAV_hi (off := 0) (len := n) (cap := n + roomN n) (kk := .i64) h' rfl rfl (Nat.le_refl (n + roomN n))
  have r1 : SlR H (slc b 0 ver (n + roomN n) (n + roomN n)) esz (n + roomN n) (room vs n fc) := ⟨hlen, .inr ⟨b, 0, ver, _, rfl, Nat.le_refl _, by rw [rd_at h rfl (by simp; omega)]; simp [take_all (Nat.le_of_eq hlen)], _, h, rfl, rfl⟩⟩
  have r2 : SlR H (slc b' 0 ver' (n + roomN n) (n + roomN n)) esz (n + roomN n) (room vs n fc) := ⟨hlen, .inr ⟨b', 0, ver', _, rfl, Nat.le_refl _, by rw [rd_at h' rfl (by simp; omega)]; simp [take_all (Nat.le_of_eq hlen)], _, h', rfl, rfl⟩⟩
  have hc := eqS_call hf2 (pu := true) r1 r2 (by omega) fun i hi => by
    rcases Nat.lt_or_ge i n with h3 | h3
    · unfold room; rw [elem_app hl h3]; exact hE i h3
    · unfold room; rw [elem_rep_app hl hfc h3 hi]; exact hE2
  simp [inSC, inSK, call296, e1, s1, s2, hc, -Int.natCast_add]
theorem SlR.pre {H G : Heap} {x : Value} {esz n : Nat} {vs : List Value} (p : Pre H G) (h : SlR H x esz n vs) : SlR G x esz n vs := by obtain ⟨L, rfl⟩ := p; exact h.app
theorem IsCp.pre {H G : Heap} {x : Value} {esz n : Nat} {vs fc : List Value} (p : Pre H G) (h : IsCp H x esz n vs fc) : IsCp G x esz n vs fc := by obtain ⟨L, rfl⟩ := p; exact h.app
/-- What a call that copies a slice brings about. -/
def CpF (f : Nat) (H : Heap) (x : Value) (esz n : Nat) (vs fc : List Value) : Prop := ∀ pu flag, Call tab pu f [x, .bool flag] H = some (if flag = true ∧ n = 0 then (.slice none 0 0, H) else (slc H.length 0 0 n (n + roomN n), H ++ [⟨room vs n fc, esz, 0, false⟩]))
/-- A copy. -/
theorem cp_false {f : Nat} {pu : Bool} {H : Heap} {x : Value} {esz n : Nat} {vs fc : List Value} (hl : vs.length = n * esz) (hf : fc.length = esz) (h : CpF f H x esz n vs fc) :
    ∃ x' G, Call tab pu f [x, .bool false] H = some (x', G) ∧ IsCp G x' esz n vs fc ∧ SlR G x' esz n vs ∧ Pre H G := by
  have h := h pu false
  rw [if_neg (by simp)] at h
  exact ⟨_, _, h, IsCp.mk, IsCp.mk.sl hl hf, Pre.one⟩
/-- A copy, with a list that is nil where it is empty. -/
theorem cp_true {f : Nat} {pu : Bool} {H : Heap} {x : Value} {esz n : Nat} {vs fc : List Value} (hl : vs.length = n * esz) (hf : fc.length = esz) (h : CpF f H x esz n vs fc) :
    ∃ x' G, Call tab pu f [x, .bool true] H = some (x', G) ∧ SlR G x' esz n vs ∧ Pre H G := by
  have h := h pu true
  by_cases h0 : n = 0
  · subst h0
    refine ⟨.slice none 0 0, H, ?_, ⟨hl, .inl ⟨rfl, rfl⟩⟩, .refl⟩
    rw [h]; simp
  · rw [if_neg (by simp [h0])] at h
    exact ⟨_, _, h, IsCp.mk.sl hl hf, Pre.one⟩
/-- Things of a kind, one behind the other. -/
def rowsC {α : Type} (f : α → List Value) : List α → List Value
  | [] => []
  | a :: r => f a ++ rowsC f r
def at0 {α : Type} [Inhabited α] (l : List α) (i : Nat) : α := l.getD i default
theorem at0_mem {α : Type} [Inhabited α] {l : List α} {i : Nat} (h : i < l.length) : at0 l i ∈ l := by
  rw [at0, List.getD_eq_getElem?_getD, List.getElem?_eq_getElem h]; exact List.getElem_mem h
theorem at0_get {α : Type} [Inhabited α] {l : List α} {i : Nat} (h : i < l.length) : l[i]? = some (at0 l i) := by
  rw [at0, List.getD_eq_getElem?_getD, List.getElem?_eq_getElem h]; rfl
theorem rows_length {α : Type} {f : α → List Value} {esz : Nat} {l : List α} (hf : ∀ a ∈ l, (f a).length = esz) : (rowsC f l).length = l.length * esz := by
  induction l with
  | nil => simp [rowsC]
  | cons a r ih =>
    have h1 := ih fun b hb => hf b (by simp [hb])
    have h2 := hf a (by simp)
    simp [rowsC, h1, h2, Nat.succ_mul]; omega
theorem rows_elem {α : Type} [Inhabited α] {f : α → List Value} {esz : Nat} {l : List α} (hf : ∀ a ∈ l, (f a).length = esz) {i : Nat} (hi : i < l.length) : elem (rowsC f l) esz i = f (at0 l i) := by
  induction l generalizing i with
  | nil => simp at hi
  | cons a r ih =>
    have h2 := hf a (by simp)
    cases i with
    | zero => simp [elem, rowsC, at0, ← h2]
    | succ i =>
      have h1 := ih (fun b hb => hf b (by simp [hb])) (i := i) (by simpa using hi)
      rw [show at0 (a :: r) (i + 1) = at0 r i by simp [at0], ← h1]
      unfold elem
      rw [Nat.succ_mul, Nat.add_comm, ← List.drop_drop, rowsC, ← h2, List.drop_left]
theorem rows_flat {α : Type} {f : α → List Value} {l : List α} (hf : ∀ a ∈ l, NoRef (f a)) : NoRef (rowsC f l) := by
  induction l with
  | nil => intro v hv; simp [rowsC] at hv
  | cons a r ih => exact (hf a (by simp)).app (ih fun b hb => hf b (by simp [hb]))
theorem rows_of {α : Type} {f : α → List Value} {p : α → Prop} {esz n : Nat} {vs : List Value} (hl : vs.length = n * esz) (h : ∀ i, i < n → ∃ a, elem vs esz i = f a ∧ p a) : ∃ l, vs = rowsC f l ∧ l.length = n ∧ ∀ a ∈ l, p a := by
  induction n generalizing vs with
  | zero => exact ⟨[], by simpa [rowsC] using hl, rfl, by simp⟩
  | succ n ih =>
    obtain ⟨a, ha, hp⟩ := h 0 (by omega)
    rw [Nat.succ_mul] at hl
    obtain ⟨l, h1, h2, h3⟩ := ih (vs := vs.drop esz) (by simp; omega) fun i hi => by
      obtain ⟨b, hb, hq⟩ := h (i + 1) (by omega)
      refine ⟨b, ?_, hq⟩
      rw [← hb]
      unfold elem
      rw [List.drop_drop, Nat.succ_mul, Nat.add_comm]
    refine ⟨a :: l, ?_, by simp [h2], fun b hb => ?_⟩
    · rw [rowsC, ← ha, ← h1]
      simp [elem]
    · rcases List.mem_cons.1 hb with rfl | hb
      · exact hp
      · exact h3 b hb
theorem flat2 {k k' : IntKind} {a b : Int} : NoRef [.int k a, .int k' b] := by
  intro v hv n
  simp only [List.mem_cons, List.not_mem_nil, or_false] at hv
  rcases hv with rfl | rfl <;> exact old0_int
theorem flat_cs {k : IntKind} {l : List Int} : NoRef (cs k l) := by
  intro v hv n
  obtain ⟨a, _, rfl⟩ := List.mem_map.1 hv
  exact old0_int
abbrev i8 (n : Int) : Prop := -128 ≤ n ∧ n ≤ 127
/-- A move. -/
def mvC (m : Int × Int) : List Value := [.int .i8 m.1, .int .i8 m.2]
def mvsC (l : List (Int × Int)) : List Value := rowsC mvC l
def mv (l : List (Int × Int)) (i : Nat) : Int × Int := at0 l i
theorem mvsC_length {l : List (Int × Int)} : (mvsC l).length = l.length * 2 := rows_length (f := mvC) (esz := 2) fun _ _ => rfl
theorem mvsC_elem {l : List (Int × Int)} {i : Nat} (hi : i < l.length) : elem (mvsC l) 2 i = mvC (mv l i) := rows_elem (f := mvC) (esz := 2) (fun _ _ => rfl) hi
theorem mvsC_flat {l : List (Int × Int)} : NoRef (mvsC l) := rows_flat fun _ _ => flat2
theorem stc2c {v w u x : Value} : stc (agg [v, w]) 0 [u, x] = some (agg [u, x]) := by simp [stc, agg, splice]
theorem ldc2 {v w : Value} : ldc 1 false (agg [v, w]) 0 = some v := by simp [ldc]
theorem ldc2b {v w : Value} : ldc 1 false (agg [v, w]) 1 = some w := by simp [ldc]
theorem SlR.get1 {H : Heap} {x : Value} {esz n : Nat} {vs : List Value} (h : SlR H x esz n vs) {i : Nat} (hi : i < n) : ∃ b off ver, idxAV esz x (.int .i64 (i : Int)) = some (adr b off ver) ∧ rd H b off ver esz = some (elem vs esz i) := by
  rcases h.is with ⟨rfl, rfl⟩ | ⟨b, off, ver, cap, rfl, h2, h3, _⟩
  · omega
  · exact ⟨b, _, ver, by rw [idxAV_slc, at_nat hi]; rfl, rd_part h3 (mul_next hi)⟩
def ixFB1 (esz : Nat) (g : Bool) : Cd :=
  (.seq
   (.reg [9] [
     ⟨none, (some 9), .bin .lss (.t 8) (.t 7), []⟩])
   (.seq
    (.cond (.t 9)
     .skip
     (.exit 0))
    (.seq
     (.block 1
      (.seq
       (.reg [5] [
         ⟨none, (some 10), .mov (.t 8), []⟩,
         ⟨none, (some 5), .mov (.t 10), []⟩])
       (.seq
        (.reg [16] [
          ⟨none, (some 11), .mov (.t 1), []⟩,
          ⟨none, (some 12), .mov (.t 0), []⟩,
          ⟨none, (some 13), .mov (.t 5), []⟩,
          ⟨none, (some 14), .idxA esz (.t 12) (.t 13), []⟩,
          ⟨none, (some 15), .ld esz g (.t 14), []⟩,
          ⟨none, (some 16), .callv (.t 11) [.t 15], []⟩])
        (.cond (.t 16)
         (.seq
          (.reg [4] [
            ⟨none, (some 17), .mov (.t 5), []⟩,
            ⟨none, (some 4), .mov (.t 17), []⟩])
          .ret)
         .skip))))
     (.reg [8] [
       ⟨none, (some 18), .bin .add (.t 8) (.c (.int .i64 1)), []⟩,
       ⟨none, (some 8), .mov (.t 18), []⟩]))))
def ixFK (esz : Nat) (g : Bool) : Cd :=
  (.seq
   (.reg [4] [
     ⟨none, (some 4), .mov (.c (.int .i64 0)), []⟩])
   (.seq
    (.seq
     (.reg [7, 8] [
       ⟨none, (some 6), .mov (.t 0), []⟩,
       ⟨none, (some 7), .len (.t 6), []⟩,
       ⟨none, (some 8), .mov (.c (.int .i64 0)), []⟩])
     (.block 0
      (.loop (ixFB1 esz g))))
    (.seq
     (.reg [4] [
       ⟨none, (some 4), .mov (.c (.int .i64 (-1))), []⟩])
     .ret)))
def ixFC (esz : Nat) (g : Bool) : Fn := { np := 2, nt := 19, kind := .pure, res := [.t 4], body := ixFK esz g }
def ctFK (ix : Nat) : Cd :=
  (.seq
   (.reg [4] [
     ⟨none, (some 4), .mov (.c (.bool false)), []⟩])
   (.seq
    (.reg [4] [
      ⟨none, (some 5), .mov (.t 0), []⟩,
      ⟨none, (some 6), .mov (.t 1), []⟩,
      ⟨none, (some 7), .call true ix [.t 5, .t 6], []⟩,
      ⟨none, (some 8), .bin .geq (.t 7) (.c (.int .i64 0)), []⟩,
      ⟨none, (some 4), .mov (.t 8), []⟩])
    .ret))
def ctFC (ix : Nat) : Fn := { np := 2, nt := 9, kind := .pure, res := [.t 4], body := ctFK ix }
/-- The first place with p below n, or -1. -/
def findN (p : Nat → Bool) (n : Nat) : Int := match (List.range n).find? p with
  | some i => i
  | none => -1
def anyN (p : Nat → Bool) (n : Nat) : Bool := (List.range n).any p
theorem findN_some {p : Nat → Bool} {n i : Nat} (hi : i < n) (hn : ∀ j, j < i → p j = false) (hp : p i = true) : findN p n = i := by
  unfold findN
  have : (List.range n).find? p = some i := by
    rw [List.find?_range_eq_some]
    exact ⟨hp, by simpa using hi, fun j hj => by simpa using hn j hj⟩
  rw [this]
theorem findN_none {p : Nat → Bool} {n : Nat} (hn : ∀ j, j < n → p j = false) : findN p n = -1 := by
  unfold findN
  have : (List.range n).find? p = none := by
    rw [List.find?_eq_none]
    intro x hx
    simp [hn x (by simpa using hx)]
  rw [this]
theorem findN_ge {p : Nat → Bool} {n : Nat} : decide (0 ≤ findN p n) = anyN p n := by
  unfold findN anyN
  cases h : (List.range n).find? p with
  | none =>
    rw [List.find?_eq_none] at h
    have : (List.range n).any p = false := by rw [List.any_eq_false]; exact h
    rw [this]; decide
  | some i =>
    have h1 := List.find?_some h
    have : (List.range n).any p = true := List.any_eq_true.2 ⟨i, List.mem_of_find?_eq_some h, h1⟩
    rw [this]; simp
theorem ixF_call {f esz : Nat} {g : Bool} (hf : tab f = some (.fn (ixFC esz g))) {pu : Bool} {H : Heap} {x F : Value} {n : Nat} {vs : List Value} (hx : SlR H x esz n vs) (hn : n ≤ 9223372036854775806) {p : Nat → Bool}
    (hF : ∀ i, i < n → ∃ v, ldv g (elem vs esz i) = some v ∧ callV (Call tab) H F [v] = some (.bool (p i), H)) : Call tab pu f [x, F] H = some (.int .i64 (findN p n), H) := by
  refine Call_wp hf (.inr rfl) rfl ?_
  simp [ixFC, ixFK, hx.lenV]
  refine WP_forH 8 n n rfl (by omega) (fun i e => e 0 = x ∧ e 1 = F ∧ e 7 = .int .i64 n ∧ ∀ j, j < i → p j = false) ?_ ?_ (by simp) (by simp)
  · rintro i e hi hlt e4 h8 ⟨h0, h1, h7, hnp⟩
    obtain ⟨b, off, ver, ha, hr⟩ := hx.get1 hi
    obtain ⟨v, hv, hc⟩ := hF i hi
    cases hp : p i with
    | true =>
      rw [hp] at hc
      simp [ixFB1, h8, h0, h1, h7, hlt, ha, hr, hv, hc, findN_some hi hnp hp]
    | false =>
      rw [hp] at hc
      simp [ixFB1, h8, h0, h1, h7, hlt, ha, hr, hv, hc, e4]
      exact upto_succ hnp hp
  · rintro e h8 ⟨h0, h1, h7, hnp⟩
    simp [ixFB1, h8, h7, findN_none hnp]
theorem ctF_call {f ix esz : Nat} {g : Bool} (hf : tab f = some (.fn (ctFC ix))) (hf2 : tab ix = some (.fn (ixFC esz g))) {pu : Bool} {H : Heap} {x F : Value} {n : Nat} {vs : List Value} (hx : SlR H x esz n vs) (hn : n ≤ 9223372036854775806) {p : Nat → Bool}
    (hF : ∀ i, i < n → ∃ v, ldv g (elem vs esz i) = some v ∧ callV (Call tab) H F [v] = some (.bool (p i), H)) : Call tab pu f [x, F] H = some (.bool (anyN p n), H) := by
  refine Call_wp hf (.inr rfl) rfl ?_
  simp [ctFC, ctFK, ixF_call hf2 hx hn hF, findN_ge]
theorem s547 : tab 547 = some (.fn (ixFC 1 false)) := t547
theorem s445 : tab 445 = some (.fn (ctFC 547)) := t445
theorem s474 : tab 474 = some (.fn (ixFC 12 true)) := t474
theorem s505 : tab 505 = some (.fn (ctFC 474)) := t505
abbrev u16' (n : Int) : Prop := 0 ≤ n ∧ n ≤ 65535
/-- A frame's form. -/
structure FrW (f : List Int) : Prop where
  len : f.length = 12
  ok : ∀ n ∈ f, u16' n
theorem FrW.nth {f : List Int} (h : FrW f) {i : Nat} (hi : i < 12) : u16' (nth f i) := h.ok _ (nth_mem (by rw [h.len]; exact hi))
def okRow (n : Int) : Bool := decide (n ≤ 4095)
def okF (f : List Int) : Bool := f.all okRow
theorem okF_true {f : List Int} (hl : f.length = 12) (h : ∀ i, i < 12 → okRow (nth f i) = true) : okF f = true := all_nth fun j hj => h j (by omega)
theorem okF_false {f : List Int} (hl : f.length = 12) {i : Nat} (hi : i < 12) (h : okRow (nth f i) = false) : okF f = false := all_false (nth_mem (by omega)) h
theorem call359 {pu : Bool} {H : Heap} {b off ver : Nat} {f : List Int} (hl : f.length = 12) (hr : rd H b off ver 12 = some (cs .u16 f)) : Call tab pu 359 [adr b off ver] H = some (.bool (okF f), H) := by
  refine Call_wp t359 (.inr rfl) rfl ?_
  simp [c359, k359]
  refine WP_forH 3 12 12 rfl (by omega) (fun i e => e 0 = adr b off ver ∧ ∀ j, j < i → okRow (nth f j) = true) ?_ ?_ (by simp) (by simp)
  · rintro i e hi hlt e4 h3 ⟨h0, hn⟩
    have d1 := rd_one hr hi
    cases hk : okRow (nth f i) with
    | true =>
      have : ¬ (4095 < nth f i) := by simp [okRow] at hk; omega
      simp [b359_1, h3, h0, hlt, hi, d1, this, e4]
      exact upto_succ hn hk
    | false =>
      have : 4095 < nth f i := by simp [okRow] at hk; omega
      simp [b359_1, h3, h0, hlt, hi, d1, this, okF_false hl hi hk]
  · rintro e h3 ⟨h0, hn⟩
    simp [b359_1, h3, okF_true hl hn]
theorem call446 {pu : Bool} {H : Heap} {n : Int} : Call tab pu 446 [.int .u16 n] H = some (.bool (!okRow n), H) := by
  refine Call_wp t446 (.inr rfl) rfl ?_
  have : decide (4095 < n) = !okRow n := by unfold okRow; by_cases h : n ≤ 4095 <;> simp [h] <;> omega
  simp [c446, k446, this]
theorem anyN_okF {f : List Int} (hl : f.length = 12) : anyN (fun i => !okRow (nth f i)) 12 = !okF f := by
  cases hk : okF f with
  | true =>
    have : anyN (fun i => !okRow (nth f i)) 12 = false := by
      unfold anyN
      rw [List.any_eq_false]
      intro i hi
      have := List.all_eq_true.1 (show f.all okRow = true from hk) _ (nth_mem (i := i) (by rw [hl]; simpa using hi))
      simp [this]
    rw [this]; rfl
  | false =>
    obtain ⟨x, hx, hp⟩ := List.all_eq_false.1 (show f.all okRow = false from hk)
    obtain ⟨i, hi, rfl⟩ := mem_nth hx
    have : anyN (fun i => !okRow (nth f i)) 12 = true := List.any_eq_true.2 ⟨i, by simp; omega, by simpa using hp⟩
    rw [this]; rfl
theorem call234 {pu : Bool} {H : Heap} {f : List Int} (hl : f.length = 12) : Call tab pu 234 [iv .u16 f] H = some (.bool (okF f), H) := by
  refine Call_wp t234 (.inr rfl) rfl ?_
  obtain ⟨G, hG⟩ : ∃ G, G = H ++ [⟨cs .u16 f, 1, 0, false⟩] := ⟨_, rfl⟩
  have hT : G.take H.length = H := by rw [hG]; simp
  have hs : slcPV G 12 1 (adr H.length 0 0) = some (slc H.length 0 0 12 12) := by rw [hG]; exact slcP_last rfl rfl (by simp [hl])
  have hr : SlR G (slc H.length 0 0 12 12) 1 12 (cs .u16 f) := ⟨by simp [hl], .inr ⟨_, 0, 0, 12, rfl, Nat.le_refl _, by rw [hG]; exact rd_last rfl (by simp [hl]), _, by rw [hG]; exact get_last, rfl, rfl⟩⟩
  have hc := ctF_call s445 s547 (pu := true) (F := .func (.func 446) #[] #[]) (p := fun i => !okRow (nth f i)) hr (by omega) fun i hi => ⟨.int .u16 (nth f i), by
    unfold elem; rw [Nat.mul_one, cs_one (by omega)]; rfl, by simp [call446]⟩
  rw [anyN_okF hl] at hc
  simp [c234, k234, hl, ← hG, hT, hs, hc]
theorem call506 {pu : Bool} {H : Heap} {f : List Int} (hl : f.length = 12) : Call tab pu 506 [iv .u16 f] H = some (.bool (!okF f), H) := by
  refine Call_wp t506 (.inr rfl) rfl ?_
  simp [c506, k506, hl, call234 hl]
def frC (f : List Int) : List Value := cs .u16 f
def bkC (b : List (List Int)) : List Value := rowsC frC b
/-- A book's form. -/
def BkW (b : List (List Int)) : Prop := ∀ f ∈ b, FrW f
def fr (b : List (List Int)) (i : Nat) : List Int := at0 b i
theorem BkW.fr {b : List (List Int)} (h : BkW b) {i : Nat} (hi : i < b.length) : FrW (fr b i) := h _ (at0_mem hi)
theorem bkC_length {b : List (List Int)} (h : BkW b) : (bkC b).length = b.length * 12 := rows_length (f := frC) (esz := 12) fun f hf => by simp [frC, (h f hf).len]
theorem bkC_elem {b : List (List Int)} (h : BkW b) {i : Nat} (hi : i < b.length) : elem (bkC b) 12 i = cs .u16 (fr b i) := rows_elem (f := frC) (esz := 12) (fun f hf => by simp [frC, (h f hf).len]) hi
theorem bkC_flat {b : List (List Int)} : NoRef (bkC b) := rows_flat fun _ _ => flat_cs
/-- A book in memory. -/
abbrev Bk (H : Heap) (x : Value) (b : List (List Int)) : Prop := SlR H x 12 b.length (bkC b)
theorem Bk.get {H : Heap} {x : Value} {b : List (List Int)} (h : Bk H x b) (hw : BkW b) {i : Nat} (hi : i < b.length) : ∃ q off ver, idxAV 12 x (.int .i64 (i : Int)) = some (adr q off ver) ∧ rd H q off ver 12 = some (cs .u16 (fr b i)) := by
  obtain ⟨q, off, ver, h1, h2⟩ := SlR.get1 h hi
  rw [bkC_elem hw hi] at h2
  exact ⟨q, off, ver, h1, h2⟩
def okFs (b : List (List Int)) : Bool := b.all okF
def okB (b : List (List Int)) : Bool := okFs b && decide (b.length ≤ 40)
theorem okFs_true {b : List (List Int)} (h : ∀ i, i < b.length → okF (fr b i) = true) : okFs b = true := by
  rw [okFs, List.all_eq_true]
  intro f hf
  obtain ⟨i, hi, rfl⟩ := List.getElem_of_mem hf
  have := h i hi
  rwa [show fr b i = b[i] from Option.some.inj ((at0_get hi).symm.trans (List.getElem?_eq_getElem hi))] at this
theorem okFs_false {b : List (List Int)} {i : Nat} (hi : i < b.length) (h : okF (fr b i) = false) : okFs b = false := by
  rw [okFs, List.all_eq_false]
  exact ⟨_, at0_mem hi, by rw [show at0 b i = fr b i from rfl, h]; decide⟩
theorem okFs_nth {b : List (List Int)} (h : okFs b = true) {i : Nat} (hi : i < b.length) : okF (fr b i) = true := List.all_eq_true.1 (show b.all okF = true from h) _ (at0_mem hi)
theorem call318 {pu : Bool} {H : Heap} {x : Value} {b : List (List Int)} (h : Bk H x b) (hw : BkW b) (hn : b.length ≤ 9223372036854775806) : Call tab pu 318 [x] H = some (.bool (okB b), H) := by
  refine Call_wp t318 (.inr rfl) rfl ?_
  simp [c318, k318]
  refine WP_forH 3 b.length _ rfl (by omega) (fun i e => e 0 = x ∧ ∀ j, j < i → okF (fr b j) = true) ?_ ?_ (by simp) (by simp)
  · rintro i e hi hlt e4 h3 ⟨h0, hnp⟩
    obtain ⟨q, off, ver, ha, hr⟩ := h.get hw hi
    have hc := call359 (pu := true) (hw.fr hi).len hr
    cases hk : okF (fr b i) with
    | true =>
      rw [hk] at hc
      simp [b318_1, h3, h0, hlt, h.lenV, ha, hc, e4]
      exact upto_succ hnp hk
    | false =>
      rw [hk] at hc
      simp [b318_1, h3, h0, hlt, h.lenV, ha, hc, okB, okFs_false hi hk]
  · rintro e h3 ⟨h0, hnp⟩
    have e1 : decide ((b.length : Int) ≤ 40) = decide (b.length ≤ 40) := by apply decide_eq_decide.2; omega
    simp [b318_1, h3, h0, h.lenV, okB, okFs_true hnp, e1]
theorem anyN_okFs {b : List (List Int)} : anyN (fun i => !okF (fr b i)) b.length = !okFs b := by
  cases hk : okFs b with
  | true =>
    have : anyN (fun i => !okF (fr b i)) b.length = false := by
      unfold anyN
      rw [List.any_eq_false]
      intro i hi
      simp [okFs_nth hk (i := i) (by simpa using hi)]
    rw [this]; rfl
  | false =>
    obtain ⟨f, hf, hp⟩ := List.all_eq_false.1 (show b.all okF = false from hk)
    obtain ⟨i, hi, rfl⟩ := List.getElem_of_mem hf
    have : anyN (fun i => !okF (fr b i)) b.length = true := List.any_eq_true.2 ⟨i, by simpa using hi, by
      rw [show fr b i = b[i] from Option.some.inj ((at0_get hi).symm.trans (List.getElem?_eq_getElem hi))]; simpa using hp⟩
    rw [this]; rfl
theorem call351 {pu : Bool} {H : Heap} {x : Value} {b : List (List Int)} (h : Bk H x b) (hw : BkW b) (hn : b.length ≤ 9223372036854775806) : Call tab pu 351 [x] H = some (.bool (okFs b), H) := by
  refine Call_wp t351 (.inr rfl) rfl ?_
  have hc := ctF_call s505 s474 (pu := true) (F := .func (.func 506) #[] #[]) (p := fun i => !okF (fr b i)) h hn fun i hi => ⟨iv .u16 (fr b i), by rw [bkC_elem hw hi]; rfl, by simp [call506 (hw.fr hi).len]⟩
  rw [anyN_okFs] at hc
  simp [c351, k351, hc]
theorem call316 {pu : Bool} {H : Heap} {x : Value} {b : List (List Int)} (h : Bk H x b) (hw : BkW b) (hn : b.length ≤ 9223372036854775806) : Call tab pu 316 [x] H = some (.bool (okB b), H) := by
  refine Call_wp t316 (.inr rfl) rfl ?_
  by_cases h1 : b.length ≤ 40
  · have h2 : (b.length : Int) ≤ 40 := by omega
    simp [c316, k316, h.lenV, h2, call351 h hw hn, okB, h1]
  · have h2 : ¬ ((b.length : Int) ≤ 40) := by omega
    simp [c316, k316, h.lenV, h2, okB, h1, skip]
/-- A row told place by place. -/
def tabN (n : Nat) (g : Nat → Int) : List Int := (List.range n).map g
theorem tabN_length {n : Nat} {g : Nat → Int} : (tabN n g).length = n := by simp [tabN]
theorem nth_tabN {n : Nat} {g : Nat → Int} {i : Nat} (h : i < n) : nth (tabN n g) i = g i := by
  apply nth_of; simp [tabN, h]
theorem tabN_ext {n : Nat} {g h : Nat → Int} (e : ∀ i, i < n → g i = h i) : tabN n g = tabN n h := by
  apply List.map_congr_left
  intro i hi
  exact e i (by simpa using hi)
theorem tabN_of {n : Nat} {g : Nat → Int} {l : List Int} (hl : l.length = n) (e : ∀ i, i < n → nth l i = g i) : l = tabN n g :=
  ext_nth (by rw [hl, tabN_length]) fun i hi => by rw [e i (by omega), nth_tabN (by omega)]
theorem tabN_set {n : Nat} {g h : Nat → Int} {r : Nat} {v : Int} (hr : r < n) (hv : h r = v) (e : ∀ i, i < n → i ≠ r → g i = h i) : (tabN n g).set r v = tabN n h :=
  tabN_of (by simp [tabN_length]) fun i hi => by
    rw [nth_set (by rw [tabN_length]; exact hr)]
    split
    · rename_i h1; subst h1; exact hv.symm
    · rename_i h1; rw [nth_tabN hi, e i hi (Ne.symm h1)]
/- Copies of books. -/
theorem call134 {pu : Bool} {H : Heap} {l : List Int} (hl : l.length = 12) : Call tab pu 134 [iv .u16 l] H = some (iv .u16 l, H) := by
  refine Call_wp t134 (.inr rfl) rfl ?_
  simp [c134, k134, zs_cs, agg_cs]
  refine WP_forH 4 12 12 rfl (by omega) (fun i e => e 1 = iv .u16 l ∧ e 3 = iv .u16 (cp l i) ∧ e 2 = iv .u16 (zr 12 0)) ?_ ?_ (by simp) (by simp [cp_zero hl])
  · rintro i e hi hx e4 h4 ⟨h1, h3, h2⟩
    have e5 : stc (iv .u16 (cp l i)) i [.int .u16 (nth l i)] = some (iv .u16 (cp l (i + 1))) := by rw [stc_one (by rw [cp_length] <;> omega) rfl, cp_set (by omega)]
    simp (disch := first | omega | assumption) [b134_1, h4, h1, h3, h2, hx, hi, e4, hl, e5]
  · rintro e h4 ⟨h1, h3, h2⟩
    have e5 : stc (iv .u16 (zr 12 0)) 0 (cs .u16 l) = some (iv .u16 l) := stc_all (by simp [hl])
    simp (disch := first | omega | assumption) [b134_1, h4, h3, h2, hl, e5, agg_cs, cp_all hl]
def bkF : List Int := [60201, 0, 0, 0, 0, 0, 0, 0, 0, 0, 0, 0]
def bkFC : List Value := cs .u16 bkF
theorem s103 : tab 103 = some (.fn szSC) := t103
theorem s105 : tab 105 = some (.fn (toSC 134 12 24 (zs 12 (.int .u16 0)) (.agg (zs 12 (.int .u16 0)) [(0, 1, .c (.int .u16 60201))]))) := t105
theorem s107 : tab 107 = some (.fn (inSC 121 12)) := t107
theorem s121 : tab 121 = some (.fn (eqSC 78 12)) := t121
theorem call105 {H : Heap} {x : Value} {b : List (List Int)} (hs : Bk H x b) (hw : BkW b) (hn : b.length ≤ 1000000) : CpF 105 H x 12 b.length (bkC b) bkFC := fun pu flag =>
  toS_call s105 (by simp) (by omega) (fun n0 e G => by simp [fill, splice, bkFC, bkF, zs_cs, zr]; rfl) rfl hs hn (fun i G hi => by rw [bkC_elem hw hi]; exact call134 (hw.fr hi).len) bkC_flat flat_cs
theorem call107 {pu : Bool} {H : Heap} {x y : Value} {b : List (List Int)} (hx : IsCp H x 12 b.length (bkC b) bkFC) (hy : IsCp H y 12 b.length (bkC b) bkFC) (hw : BkW b) (hn : b.length ≤ 1000000) : Call tab pu 107 [x, y] H = some (.bool true, H) :=
  inS_call s107 s121 hx hy hn (bkC_length hw) rfl (fun i hi => by rw [bkC_elem hw hi]; exact call78 (hw.fr hi).len) (call78 (l := bkF) rfl)
def okP (a b : Int) : Bool := decide (0 ≤ a ∧ a ≤ 11) && decide (0 ≤ b ∧ b ≤ 11)
theorem placeS {pu : Bool} {H : Heap} {a b : Int} : Call tab pu 342 [.int .i64 a, .int .i64 b] H = some (.bool (okP a b), H) := by
  refine Call_wp t342 (.inr rfl) rfl ?_
  have e1 : ∀ x : Int, (decide (0 ≤ x) && decide (x ≤ 11)) = decide (0 ≤ x ∧ x ≤ 11) := fun x => by simp
  cases h : decide (0 ≤ a ∧ a ≤ 11) <;> simp [c342, k342, call304, e1, h, okP, skip, -Bool.decide_and, -decide_eq_true_eq, -decide_eq_false_iff_not]
theorem placeI {pu : Bool} {H : Heap} {a b : Int} : Call tab pu 345 [.int .i64 a, .int .i64 b] H = some (.bool (okP a b), H) := by
  refine Call_wp t345 (.inr rfl) rfl ?_
  have e1 : ∀ x : Int, (decide (0 ≤ x) && decide (x ≤ 11)) = decide (0 ≤ x ∧ x ≤ 11) := fun x => by simp
  cases h : decide (0 ≤ a ∧ a ≤ 11) <;> simp [c345, k345, call295, e1, h, okP, skip, -Bool.decide_and, -decide_eq_true_eq, -decide_eq_false_iff_not]
theorem Pre.set {H G : Heap} {b : Nat} {k : Blk} (p : Pre H G) (hb : H.length ≤ b) : Pre H (G.set b k) := by
  obtain ⟨L, rfl⟩ := p
  exact ⟨L.set (b - H.length) k, by rw [List.set_append_right _ _ hb]⟩
/-- A list of a call's own that grows. -/
def Gr (H G : Heap) (x : Value) (esz n : Nat) (vs : List Value) : Prop := ∃ b ver, x = slc b 0 ver n n ∧ G[b]? = some ⟨vs, esz, ver, false⟩ ∧ H.length ≤ b ∧ vs.length = n * esz ∧ Pre H G
theorem Gr.new {H G : Heap} {esz : Nat} (p : Pre H G) : Gr H (G ++ [⟨[], esz, 0, false⟩]) (slc G.length 0 0 0 0) esz 0 [] := ⟨_, _, rfl, get_last, p.len, by simp, p.app⟩
theorem Gr.pre {H G : Heap} {x : Value} {esz n : Nat} {vs : List Value} (g : Gr H G x esz n vs) : Pre H G := by obtain ⟨b, ver, _, _, _, _, p⟩ := g; exact p
theorem Gr.app {H G L : Heap} {x : Value} {esz n : Nat} {vs : List Value} (g : Gr H G x esz n vs) : Gr H (G ++ L) x esz n vs := by
  obtain ⟨b, ver, rfl, h1, h2, h3, h4⟩ := g
  exact ⟨b, ver, rfl, by rw [List.getElem?_append_left (List.getElem?_eq_some_iff.1 h1).1]; exact h1, h2, h3, h4.app⟩
theorem appendTo_grow {n0 : Nat} {wb : Bool} {G : Heap} {esz bytes b ver len n : Nat} {cs : List Value} {k : Blk} (h : G[b]? = some k) (hv : ver = k.ver) (hr : k.ro = false) (hm : may n0 wb b cs = true) (he : k.esz = esz) (hl : len * esz = k.cells.length) (hn : 0 < n)
    (hb : (len + n) * bytes ≤ roomMax) : appendTo n0 wb esz bytes G (slc b 0 ver len len) n cs = some (slc b 0 (ver + 1) (len + n) (len + n), G.set b { k with cells := k.cells ++ cs, ver := ver + 1 }) := by
  unfold appendTo slc
  simp only []
  rw [if_neg (by omega), h]
  simp only []
  exact if_pos ⟨hv, hr, hm, he, trivial, hl, hb⟩
theorem Gr.push {H G : Heap} {x : Value} {esz n bytes : Nat} {vs c : List Value} (g : Gr H G x esz n vs) (hc : c.length = esz) (hb : (n + 1) * bytes ≤ roomMax) {wb : Bool} :
    ∃ x' G', ((srcOf esz (G ++ [⟨c, esz, 0, false⟩]) (slc G.length 0 0 1 1)).bind fun q => appendTo H.length wb esz bytes (G ++ [⟨c, esz, 0, false⟩]) x q.1 q.2) = some (x', G') ∧ Gr H G' x' esz (n + 1) (vs ++ c) := by
  obtain ⟨b, ver, rfl, h1, h2, h3, h4⟩ := g
  have h1' : (G ++ [(⟨c, esz, 0, false⟩ : Blk)])[b]? = some ⟨vs, esz, ver, false⟩ := by rw [List.getElem?_append_left (List.getElem?_eq_some_iff.1 h1).1]; exact h1
  have e1 : srcOf esz (G ++ [⟨c, esz, 0, false⟩]) (slc G.length 0 0 1 1) = some (1, c) := by
    show (rd (G ++ [⟨c, esz, 0, false⟩]) G.length 0 0 (1 * esz)).map (fun cs => (1, cs)) = _
    rw [Nat.one_mul, rd_last rfl (by simpa using hc)]; rfl
  refine ⟨slc b 0 (ver + 1) (n + 1) (n + 1), (G ++ [(⟨c, esz, 0, false⟩ : Blk)]).set b ⟨vs ++ c, esz, ver + 1, false⟩, ?_, b, ver + 1, rfl, get_set h1', h2, by simp [h3, hc, Nat.succ_mul], (h4.app).set h2⟩
  rw [e1, Option.bind_some]
  exact appendTo_grow h1' rfl rfl (by simp [may, h2]) rfl h3.symm (by omega) hb
theorem fill_one {z : List Value} {v : Value} {esz : Nat} (hv : (cellsOf v).length = esz) (hz : z.length = esz) : fill (rep 1 z) [(0, esz, v)] = some (cellsOf v) := by
  have e1 : rep 1 z = z := by simp [rep]
  rw [e1]
  show (if (cellsOf v).length = esz ∧ 0 + esz ≤ z.length then fill (splice z 0 (cellsOf v)) [] else none) = _
  rw [if_pos ⟨hv, by omega⟩]
  have : splice z 0 (cellsOf v) = cellsOf v := by simp [splice, hv, ← hz]
  rw [this]; rfl
theorem Gr.fin {H G : Heap} {x : Value} {esz n : Nat} {vs : List Value} (g : Gr H G x esz n vs) (hn : NoRef vs) : finish H.length G [x] = (slc H.length 0 0 n n, H ++ [⟨vs, esz, 0, false⟩]) := by
  obtain ⟨b, ver, rfl, h1, h2, h3, h4⟩ := g
  exact finish_slc h4 h2 h1 rfl rfl hn.all
/- Has a frame a dot there? -/
def dotB (row : Int) (x : Nat) : Bool := decide ((row / bit x) % 2 = 1)
theorem shr_bit {row : Int} {x : Nat} (h : x < 12) : shiftOf .shr .u16 row (x : Int) = some (.int .u16 (row / bit x)) := by
  have hb := bit_ok h
  unfold shiftOf
  rw [if_neg (by omega)]
  have e1 : min ((x : Int).toNat) (IntKind.bits .u16) = x := by
    have : IntKind.bits .u16 = 16 := rfl
    omega
  simp only [e1]
  show some (Value.int .u16 (row.fdiv (bit x))) = _
  rw [Int.fdiv_eq_ediv_of_nonneg _ (by omega)]
theorem and_one {v : Int} (h : 0 ≤ v ∧ v ≤ 65535) : bitsOf .and .u16 v 1 = v % 2 := by
  obtain ⟨n, rfl⟩ := Int.eq_ofNat_of_zero_le h.1
  have e0 : IntKind.bits .u16 = 16 := rfl
  unfold bitsOf
  simp only []
  have e1 : (BitVec.ofInt (IntKind.bits .u16) (n : Int) &&& BitVec.ofInt (IntKind.bits .u16) 1).toNat = n % 2 := by
    have e2 : n % 2 ^ 16 = n := Nat.mod_eq_of_lt (by omega)
    rw [BitVec.toNat_and, e0, BitVec.ofInt_natCast, BitVec.toNat_ofNat, show (BitVec.ofInt 16 1).toNat = 1 from rfl, Nat.and_one_is_mod, e2]
  rw [e1, wrapu16 (by omega)]; omega
theorem row_div {row : Int} {x : Nat} (h : u16' row) (hx : x < 12) : 0 ≤ row / bit x ∧ row / bit x ≤ 65535 := by
  have hb := bit_ok hx
  have h1 : 0 ≤ row / bit x := Int.ediv_nonneg h.1 (by omega)
  have h2 : row / bit x ≤ row := Int.ediv_le_self _ h.1
  omega
theorem tmod_two {v : Int} (h : 0 ≤ v) : v.tmod 2 = v % 2 := Int.tmod_eq_emod_of_nonneg h
def hasF (f : List Int) (x y : Nat) : Bool := dotB (nth f y) x
theorem okP_nat {x y : Nat} (hx : x < 12) (hy : y < 12) : okP (x : Int) (y : Int) = true := by simp [okP]; omega
theorem call395 {pu : Bool} {H : Heap} {f : List Int} {x y : Nat} (hw : FrW f) (hx : x < 12) (hy : y < 12) : Call tab pu 395 [iv .u16 f, .int .i64 x, .int .i64 y] H = some (.bool (hasF f x y), H) := by
  refine Call_wp t395 (.inr rfl) rfl ?_
  have hl := hw.len
  have hd := row_div (hw.nth hy) hx
  have e1 : ((nth f y / bit x) % 2 == 1) = hasF f x y := rfl
  simp (disch := omega) [c395, k395, placeI, okP_nat hx hy, hy, hx, hl, shr_bit, and_one hd, e1]
theorem call456 {pu : Bool} {H : Heap} {q off ver : Nat} {f : List Int} {x y : Nat} (hw : FrW f) (hr : rd H q off ver 12 = some (cs .u16 f)) (hx : x < 12) (hy : y < 12) : Call tab pu 456 [adr q off ver, .int .i64 x, .int .i64 y] H = some (.bool (hasF f x y), H) := by
  refine Call_wp t456 (.inr rfl) rfl ?_
  have hd := row_div (hw.nth hy) hx
  have e1 : ((nth f y / bit x) % 2 == 1) = hasF f x y := rfl
  simp (disch := omega) [c456, k456, placeS, okP_nat hx hy, hy, hx, rd_one hr hy, shr_bit, tmod_two hd.1, e1]
/- The dots, one behind the other. -/
def hasK (f : List Int) (k : Nat) : Bool := hasF f (k % 12) (k / 12)
def dotL (f : List Int) (k : Nat) : List Nat := (List.range k).filter (hasK f)
def dotM (k : Nat) : Int × Int := (((k % 12 : Nat) : Int), ((k / 12 : Nat) : Int))
def dotC (f : List Int) (k : Nat) : List Value := mvsC ((dotL f k).map dotM)
theorem dotL_succ {f : List Int} {k : Nat} : dotL f (k + 1) = dotL f k ++ if hasK f k = true then [k] else [] := by
  rw [dotL, List.range_succ, List.filter_append, ← dotL]
  congr 1
  cases h : hasK f k <;> simp [h]
theorem hasK_yx {f : List Int} {x y : Nat} (hx : x < 12) : hasK f (y * 12 + x) = hasF f x y := by
  rw [hasK, show (y * 12 + x) % 12 = x by omega, show (y * 12 + x) / 12 = y by omega]
theorem dotM_yx {x y : Nat} (hx : x < 12) : dotM (y * 12 + x) = ((x : Int), (y : Int)) := by
  rw [dotM, show (y * 12 + x) % 12 = x by omega, show (y * 12 + x) / 12 = y by omega]
theorem mvsC_app {a b : List (Int × Int)} : mvsC (a ++ b) = mvsC a ++ mvsC b := by
  induction a with
  | nil => rfl
  | cons m r ih => simp only [mvsC, List.cons_append, rowsC, List.append_assoc] at ih ⊢; rw [ih]
theorem dotC_succ {f : List Int} {x y : Nat} (hx : x < 12) : dotC f (y * 12 + x + 1) = if hasF f x y = true then dotC f (y * 12 + x) ++ mvC ((x : Int), (y : Int)) else dotC f (y * 12 + x) := by
  unfold dotC
  rw [dotL_succ, hasK_yx hx]
  split
  · rw [List.map_append, mvsC_app]
    simp [mvsC, rowsC, dotM_yx hx]
  · simp
theorem dotL_len {f : List Int} {k : Nat} : (dotL f k).length ≤ k := by
  have := List.length_filter_le (hasK f) (List.range k)
  simpa [dotL] using this
theorem dotL_succ_len {f : List Int} {x y : Nat} (hx : x < 12) : (dotL f (y * 12 + x + 1)).length = if hasF f x y = true then (dotL f (y * 12 + x)).length + 1 else (dotL f (y * 12 + x)).length := by
  rw [dotL_succ, hasK_yx hx]
  split <;> simp
theorem call449 {pu : Bool} {H : Heap} {f : List Int} (hw : FrW f) : Call tab pu 449 [iv .u16 f] H = some (slc H.length 0 0 (dotL f 144).length (dotL f 144).length, H ++ [⟨dotC f 144, 2, 0, false⟩]) := by
  refine Call_wp t449 (.inr rfl) rfl ?_
  have hl := hw.len
  simp [c449, k449, fill, rep]
  refine WP_count 7 12 12 rfl (fun y e G => e 1 = iv .u16 f ∧ ∃ g, e 3 = g ∧ Gr H G g 2 (dotL f (y * 12)).length (dotC f (y * 12))) (by omega) ?_ ?_ (by simp) (by simp; exact Gr.new .refl)
  · rintro y e G _ hy hyy e4 h7 ⟨h1, g, h3, hg⟩
    simp [b449_2, h7, hyy]
    refine WP_count 10 12 12 rfl (fun x e G => e 1 = iv .u16 f ∧ e 4 = .int .i64 y ∧ e 7 = .int .i64 y ∧ ∃ g, e 3 = g ∧ Gr H G g 2 (dotL f (y * 12 + x)).length (dotC f (y * 12 + x))) (by omega) ?_ ?_ (by simp) (by simp [h1, h7, h3]; exact hg)
    · rintro x e G _ hx hxx e5 h10 ⟨h1, h4, h7, g, h3, hg⟩
      have hc := call395 (pu := true) (H := G) hw hx hy
      have hs := dotC_succ (f := f) (y := y) hx
      have hs2 := dotL_succ_len (f := f) (y := y) hx
      have hle := dotL_len (f := f) (k := y * 12 + x)
      have w1 : IntKind.wrap .i8 (x : Int) = x := wrap8 (by omega)
      have w2 : IntKind.wrap .i8 (y : Int) = y := wrap8 (by omega)
      cases hp : hasF f x y with
      | true =>
        rw [hp] at hc hs hs2
        rw [if_pos rfl] at hs hs2
        obtain ⟨g', G', hpush, hg'⟩ := hg.push (c := mvC ((x : Int), (y : Int))) (bytes := 2) rfl (by have : roomMax = 140737488355328 := rfl; omega) (wb := false)
        have hfa : fill [.int .i8 0, .int .i8 0] [(0, 1, .int .i8 (x : Int)), (1, 1, .int .i8 (y : Int))] = some (mvC ((x : Int), (y : Int))) := rfl
        have hf1 := fill_one (z := [.int .i8 0, .int .i8 0]) (v := agg (mvC ((x : Int), (y : Int)))) (esz := 2) rfl rfl
        simp [b449_1, h10, hxx, h1, h4, h7, h3, hl, hc, w1, w2, hfa, hf1, hpush, wbOf, e5, ← Nat.add_assoc, hs, hs2]
        exact hg'
      | false =>
        rw [hp] at hc hs hs2
        rw [if_neg (by simp)] at hs hs2
        simp [b449_1, h10, hxx, h1, h4, h7, h3, hl, hc, e5, ← Nat.add_assoc, hs, hs2]
        exact hg
    · rintro e G _ h10 ⟨h1, h4, h7, g, h3, hg⟩
      simp [b449_1, h10, h1, h7, h3, e4, Nat.add_mul]
      exact hg
  · rintro e G _ h7 ⟨h1, g, h3, hg⟩
    have := hg.fin mvsC_flat
    simp [b449_2, h7, h3, this]
def lum (v : Int) : Int := if 1000 < v + 64 then 1000 else v + 64
theorem lum_ok {v : Int} (h : 0 ≤ v ∧ v ≤ 1000) : 0 ≤ lum v ∧ lum v ≤ 1000 := by unfold lum; split <;> omega
def litL (l f : List Int) : List Int := tabN 144 fun p => if hasK f p = true then lum (nth l p) else nth l p
def litU (l f : List Int) (k : Nat) : List Int := tabN 144 fun p => if p < k ∧ hasK f p = true then lum (nth l p) else nth l p
theorem litU_zero {l f : List Int} (h : l.length = 144) : litU l f 0 = l := (tabN_of h fun i _ => by simp).symm
theorem litU_all {l f : List Int} : litU l f 144 = litL l f := tabN_ext fun i hi => by simp [hi]
theorem litU_nth {l f : List Int} {k : Nat} (h : k < 144) : nth (litU l f k) k = nth l k := by rw [litU, nth_tabN h, if_neg (by omega)]
theorem litU_set {l f : List Int} {k : Nat} (h : k < 144) (hp : hasK f k = true) : (litU l f k).set k (lum (nth l k)) = litU l f (k + 1) :=
  tabN_set h (by rw [if_pos ⟨by omega, hp⟩]) fun i _ hi => by
    by_cases h1 : i < k ∧ hasK f i = true
    · rw [if_pos h1, if_pos ⟨by omega, h1.2⟩]
    · rw [if_neg h1, if_neg fun h2 => h1 ⟨by omega, h2.2⟩]
theorem litU_skip {l f : List Int} {k : Nat} (hp : hasK f k = false) : litU l f k = litU l f (k + 1) :=
  tabN_ext fun i _ => by
    by_cases h1 : i < k ∧ hasK f i = true
    · rw [if_pos h1, if_pos ⟨by omega, h1.2⟩]
    · have h4 : i ≠ k → ¬ (i < k + 1 ∧ hasK f i = true) := fun hne h2 => h1 ⟨by omega, h2.2⟩
      by_cases h3 : i = k
      · subst h3; rw [if_neg h1, if_neg (by simp [hp])]
      · rw [if_neg h1, if_neg (h4 h3)]
theorem call511 {pu : Bool} {H : Heap} {a b : Int} : Call tab pu 511 [.int .i64 a, .int .i64 b] H = some (.int .i64 (if a < b then a else b), H) := by
  refine Call_wp t511 (.inr rfl) rfl ?_
  by_cases h : a < b <;> simp [c511, k511, h]
theorem okAll_fad {l : List Int} {keep : Int} (h : okAll l = true) (h0 : 0 ≤ keep) (h8 : keep ≤ 8) : okAll (l.map (fad keep)) = true := by
  refine all_nth fun j hj => ?_
  have hj : j < l.length := by simpa using hj
  obtain ⟨f1, f2, _⟩ := fad_ok h0 h8 (okAll_nth h hj)
  rw [nth_map hj]
  simp [okL]; omega
theorem call360 {pu : Bool} {H : Heap} {l f : List Int} {q off ver : Nat} {keep : Int} (hl : l.length = 144) (hk : okAll l = true) (hw : FrW f) (hr : rd H q off ver 12 = some (cs .u16 f)) (h0 : 0 ≤ keep) (h8 : keep ≤ 8) :
    Call tab pu 360 [iv .i16 l, adr q off ver, .int .i64 keep] H = some (iv .i16 (litL (l.map (fad keep)) f), H) := by
  refine Call_wp t360 (.inr rfl) rfl ?_
  have hc := call300 (pu := true) (H := H) hl hk h0 h8
  obtain ⟨m, hm⟩ : ∃ m, m = l.map (fad keep) := ⟨_, rfl⟩
  rw [← hm] at hc
  have hml : m.length = 144 := by rw [hm]; simp [hl]
  have hmk : okAll m = true := by rw [hm]; exact okAll_fad hk h0 h8
  have hst : stc (iv .i16 l) 0 (cs .i16 m) = some (iv .i16 m) := stc_all (by rw [hl, hml])
  simp [c360, k360, zs_cs, agg_cs, hl, hc, ← hm, hml, hst]
  refine WP_forH 7 12 12 rfl (by omega) (fun y e => e 1 = adr q off ver ∧ e 6 = iv .i16 (zr 144 0) ∧ e 3 = iv .i16 (litU m f (y * 12))) ?_ ?_ (by simp) (by simp [litU_zero hml])
  · rintro y e hy hyy e5 h7 ⟨h1, h6, h3⟩
    simp [b360_2, h7, hyy]
    refine WP_forH 8 12 12 rfl (by omega) (fun x e => e 1 = adr q off ver ∧ e 6 = iv .i16 (zr 144 0) ∧ e 7 = .int .i64 y ∧ e 3 = iv .i16 (litU m f (y * 12 + x))) ?_ ?_ (by simp) (by simp [h1, h6, h7, h3])
    · rintro x e hx hxx e9 h8 ⟨h1, h6, h7, h3⟩
      have h77 := step12 hx hy
      have hc := call456 (pu := true) (H := H) hw hr hx hy
      have hn := okAll_nth hmk (i := y * 12 + x) (by omega)
      have hlm := lum_ok hn
      have hK := hasK_yx (f := f) (y := y) hx
      have hul : (litU m f (y * 12 + x)).length = 144 := tabN_length
      have hd : ldc 1 false (iv .i16 (litU m f (y * 12 + x))) (y * 12 + x) = some (.int .i16 (nth m (y * 12 + x))) := by rw [ldc_iv1 (by omega), litU_nth h77]
      cases hp : hasF f x y with
      | true =>
        rw [hp] at hc hK
        have e10 := stc_at (k := .i16) (l := litU m f (y * 12 + x)) (by omega) (litU_set h77 hK)
        have e11 : IntKind.wrap .i16 (lum (nth m (y * 12 + x))) = lum (nth m (y * 12 + x)) := wrap16 (by omega)
        have e12 : (if 1000 < nth m (y * 12 + x) + 64 then 1000 else nth m (y * 12 + x) + 64) = lum (nth m (y * 12 + x)) := rfl
        simp (disch := omega) [b360_1, h8, h1, h6, h7, h3, hxx, hx, hy, hc, hd, call511, e12, e11, e10, e9, ← Nat.add_assoc]
      | false =>
        rw [hp] at hc hK
        simp (disch := omega) [b360_1, h8, h1, h6, h7, h3, hxx, hc, e9, ← Nat.add_assoc, litU_skip hK]
    · rintro e h8 ⟨h1, h6, h7, h3⟩
      simp [b360_1, h8, h1, h6, h7, h3, e5, Nat.add_mul]
  · rintro e h7 ⟨h1, h6, h3⟩
    have hul : (litL m f).length = 144 := tabN_length
    have hz := stc_zr (k := .i16) hul
    simp [b360_2, h7, h6, h3, litU_all, hul, hz, agg_cs]
def litD (l f : List Int) (j : Nat) : List Int := tabN 144 fun p => if p ∈ (dotL f 144).take j then lum (nth l p) else nth l p
theorem dotL_nodup {f : List Int} {k : Nat} : (dotL f k).Nodup := List.nodup_range.sublist List.filter_sublist
theorem dotL_at {f : List Int} {j : Nat} (h : j < (dotL f 144).length) : ∃ y x, at0 (dotL f 144) j = y * 12 + x ∧ y < 12 ∧ x < 12 ∧ y * 12 + x ∉ (dotL f 144).take j ∧ (dotL f 144).take (j + 1) = (dotL f 144).take j ++ [y * 12 + x] := by
  have hm := at0_mem h
  have h1 : at0 (dotL f 144) j < 144 := by
    have := List.mem_filter.1 (show at0 (dotL f 144) j ∈ (List.range 144).filter (hasK f) from hm)
    simpa using this.1
  have hg := at0_get h
  have ht : (dotL f 144).take (j + 1) = (dotL f 144).take j ++ [at0 (dotL f 144) j] := by
    rw [List.take_add_one, hg]; rfl
  have hnd : ((dotL f 144).take (j + 1)).Nodup := dotL_nodup.sublist (List.take_sublist _ _)
  rw [ht] at hnd
  have hni : at0 (dotL f 144) j ∉ (dotL f 144).take j := fun hi => by
    rw [List.nodup_append] at hnd
    exact hnd.2.2 _ hi _ (by simp) rfl
  refine ⟨at0 (dotL f 144) j / 12, at0 (dotL f 144) j % 12, by omega, by omega, by omega, ?_, ?_⟩
  · rw [show at0 (dotL f 144) j / 12 * 12 + at0 (dotL f 144) j % 12 = at0 (dotL f 144) j by omega]; exact hni
  · rw [show at0 (dotL f 144) j / 12 * 12 + at0 (dotL f 144) j % 12 = at0 (dotL f 144) j by omega]; exact ht
theorem mv_map {α : Type} [Inhabited α] {g : α → Int × Int} {l : List α} {i : Nat} (h : i < l.length) : mv (l.map g) i = g (at0 l i) := by
  have h2 := at0_get (l := l.map g) (i := i) (by simpa using h)
  rw [List.getElem?_map, at0_get h] at h2
  exact (Option.some.inj h2).symm
theorem call361 {pu : Bool} {H : Heap} {l f : List Int} (hl : l.length = 144) (hk : okAll l = true) (hw : FrW f) : Call tab pu 361 [iv .i16 l, iv .u16 f] H = some (iv .i16 (litL l f), H) := by
  refine Call_wp t361 (.inr rfl) rfl ?_
  have hc := call449 (pu := true) (H := H) hw
  obtain ⟨G, hG⟩ : ∃ G, G = H ++ [⟨dotC f 144, 2, 0, false⟩] := ⟨_, rfl⟩
  have hT : G.take H.length = H := by rw [hG]; simp
  rw [← hG] at hc
  have hcl : (dotC f 144).length = (dotL f 144).length * 2 := by rw [dotC, mvsC_length]; simp
  have hs : SlR G (slc H.length 0 0 (dotL f 144).length (dotL f 144).length) 2 (dotL f 144).length (dotC f 144) :=
    ⟨hcl, .inr ⟨_, 0, 0, _, rfl, Nat.le_refl _, by rw [hG]; exact rd_last rfl hcl, _, by rw [hG]; exact get_last, rfl, rfl⟩⟩
  have hle := dotL_len (f := f) (k := 144)
  obtain ⟨x0, hx0⟩ : ∃ x0, x0 = slc H.length 0 0 (dotL f 144).length (dotL f 144).length := ⟨_, rfl⟩
  rw [← hx0] at hc hs
  have hzero : litD l f 0 = l := (tabN_of hl fun i _ => by simp).symm
  simp [c361, k361, zs_cs, agg_cs, hw.len, hc, hs.lenV]
  refine WP_forH 10 (dotL f 144).length _ rfl (by omega) (fun j e => e 8 = x0 ∧ e 9 = .int .i64 (dotL f 144).length ∧ e 4 = iv .i16 (zr 144 0) ∧ e 2 = iv .i16 (litD l f j)) ?_ ?_ (by simp) (by simp [hzero])
  · rintro j e hj hjj e5 h10 ⟨h8, h9, h4, h2⟩
    obtain ⟨y, x, hp, hy, hx, hni, htk⟩ := dotL_at hj
    obtain ⟨b, off, ver, ha, hr⟩ := hs.get1 hj
    have hel : elem (dotC f 144) 2 j = mvC ((x : Int), (y : Int)) := by
      rw [dotC, mvsC_elem (by simpa using hj), mv_map hj, hp, dotM_yx hx]
    rw [hel] at hr
    have h77 := step12 hx hy
    have hn := okAll_nth hk (i := y * 12 + x) (by omega)
    have hlm := lum_ok hn
    have hul : (litD l f j).length = 144 := tabN_length
    have hnt : nth (litD l f j) (y * 12 + x) = nth l (y * 12 + x) := by rw [litD, nth_tabN h77, if_neg hni]
    have hset : (litD l f j).set (y * 12 + x) (lum (nth l (y * 12 + x))) = litD l f (j + 1) := tabN_set h77 (by rw [htk]; simp) fun i _ hi => by
      rw [htk]
      by_cases h1 : i ∈ (dotL f 144).take j
      · rw [if_pos h1, if_pos (by simp [h1])]
      · rw [if_neg h1, if_neg (by simp [h1, hi])]
    have e10 := stc_at (k := .i16) (l := litD l f j) (by omega) hset
    have e12 : (if nth l (y * 12 + x) + 64 < 1000 then nth l (y * 12 + x) + 64 else 1000) = lum (nth l (y * 12 + x)) := by unfold lum; split <;> split <;> omega
    have hd : ldc 1 false (iv .i16 (litD l f j)) (y * 12 + x) = some (.int .i16 (nth l (y * 12 + x))) := by rw [ldc_iv1 (by omega), hnt]
    simp (disch := omega) [b361_1, h10, h8, h9, h4, h2, hjj, ha, hr, mvC, stc2c, ldc2, ldc2b, hx, hy, hd, e12, e10, e5]
  · rintro e h10 ⟨h8, h9, h4, h2⟩
    have hall : litD l f (dotL f 144).length = litL l f := tabN_ext fun p hp => by
      rw [List.take_length]
      have : p ∈ dotL f 144 ↔ hasK f p = true := by simp [dotL, hp]
      by_cases h1 : hasK f p = true
      · rw [if_pos h1, if_pos (this.2 h1)]
      · rw [if_neg h1, if_neg fun h2 => h1 (this.1 h2)]
    have hul : (litL l f).length = 144 := tabN_length
    have hz := stc_zr (k := .i16) hul
    simp [b361_1, h10, h9, h4, h2, hall, hul, hz, agg_cs, hT]
theorem zz144 : stc (iv .i16 (zr 144 0)) 0 (cs .i16 (zr 144 0)) = some (iv .i16 (zr 144 0)) := stc_zr (by simp)
def lofN (b : List (List Int)) (keep : Int) (k : Nat) : List Int := itN (fun k l => litL (l.map (fad keep)) (fr b k)) (zr 144 0) k
theorem lofN_zero {b : List (List Int)} {keep : Int} : lofN b keep 0 = zr 144 0 := itN_zero
theorem lofN_succ {b : List (List Int)} {keep : Int} {k : Nat} : lofN b keep (k + 1) = litL ((lofN b keep k).map (fad keep)) (fr b k) := itN_succ
theorem litL_length {l f : List Int} : (litL l f).length = 144 := tabN_length
theorem litL_ok {l f : List Int} (hl : l.length = 144) (h : okAll l = true) : okAll (litL l f) = true := by
  refine all_nth fun j hj => ?_
  have hj : j < 144 := by rwa [litL_length] at hj
  have h1 := okAll_nth h (i := j) (by omega)
  have h2 := lum_ok h1
  rw [litL, nth_tabN hj]
  split
  · simp [okL]; omega
  · simp [okL]; omega
theorem lofN_length {b : List (List Int)} {keep : Int} {k : Nat} : (lofN b keep k).length = 144 := by
  cases k with
  | zero => rw [lofN_zero]; simp
  | succ k => rw [lofN_succ]; exact litL_length
theorem lofN_ok {b : List (List Int)} {keep : Int} {k : Nat} (h0 : 0 ≤ keep) (h8 : keep ≤ 8) : okAll (lofN b keep k) = true := by
  induction k with
  | zero => rw [lofN_zero]; decide
  | succ k ih => rw [lofN_succ]; exact litL_ok (by simp [lofN_length]) (okAll_fad ih h0 h8)
def lofR (b : List (List Int)) (keep : Int) : Value := if okB b = true then if 0 ≤ keep ∧ keep ≤ 8 then lightR (lofN b keep b.length) 0 else lightR (zr 144 0) 2 else lightR (zr 144 0) 1
theorem call145 {pu : Bool} {H : Heap} {x : Value} {b : List (List Int)} {keep : Int} (h : Bk H x b) (hw : BkW b) (hn : b.length ≤ 1000000) : Call tab pu 145 [x, .int .i64 keep] H = some (lofR b keep, H) := by
  refine Call_wp t145 (.inr rfl) rfl ?_
  have hc := call318 (pu := true) h hw (by omega)
  cases hk : okB b with
  | false => simp [c145, k145, hc, hk, zs_cs, agg_cs, fill, zz144, lofR, lightR]
  | true =>
    by_cases hb : 0 ≤ keep ∧ keep ≤ 8
    · simp [c145, k145, hc, hk, zs_cs, agg_cs, fill, zz144, lofR, lightR, call299, hb]
      refine WP_forH 7 b.length _ rfl (by omega) (fun i e => e 0 = x ∧ e 1 = .int .i64 keep ∧ e 4 = iv .i16 (zr 144 0) ∧ e 6 = iv .i16 (lofN b keep i)) ?_ ?_ (by simp) (by simp [lofN_zero])
      · rintro i e hi hlt e4 h7 ⟨h0, h1, h4, h6⟩
        obtain ⟨q, off, ver, ha, hr⟩ := h.get hw hi
        have hl := lofN_length (b := b) (keep := keep) (k := i)
        have hcl := call360 (pu := true) hl (lofN_ok hb.1 hb.2) (hw.fr hi) hr hb.1 hb.2
        have hs := lofN_succ (b := b) (keep := keep) (k := i)
        rw [← hs] at hcl
        have hl2 := lofN_length (b := b) (keep := keep) (k := i + 1)
        have hst : stc (iv .i16 (lofN b keep i)) 0 (cs .i16 (lofN b keep (i + 1))) = some (iv .i16 (lofN b keep (i + 1))) := stc_all (by rw [hl, hl2])
        simp [b145_1, h7, h0, h1, h4, h6, hlt, h.lenV, ha, hl, hcl, hl2, hst, e4]
      · rintro e h7 ⟨h0, h1, h4, h6⟩
        have hl := lofN_length (b := b) (keep := keep) (k := b.length)
        have hz := stc_zr (k := .i16) hl
        simp [b145_1, h7, h0, h4, h6, h.lenV, hl, hz, agg_cs]
    · have hb' : (decide (0 ≤ keep) && decide (keep ≤ 8)) = false := by simpa using hb
      simp [c145, k145, hc, hk, zs_cs, agg_cs, fill, zz144, lofR, lightR, call299, hb, hb']
theorem call146 {pu : Bool} {H : Heap} {x : Value} {b : List (List Int)} {keep : Int} (h : Bk H x b) (hw : BkW b) (hn : b.length ≤ 1000000) : Call tab pu 146 [x, .int .i64 keep] H = some (lofR b keep, H) := by
  refine Call_wp t146 (.inr rfl) rfl ?_
  have hc := call316 (pu := true) h hw (by omega)
  cases hk : okB b with
  | false => simp [c146, k146, hc, hk, zs_cs, agg_cs, fill, zz144, lofR, lightR]
  | true =>
    by_cases hb : 0 ≤ keep ∧ keep ≤ 8
    · simp [c146, k146, hc, hk, zs_cs, agg_cs, fill, zz144, lofR, lightR, call301, hb, h.lenV]
      refine WP_forH 22 b.length _ rfl (by omega) (fun i e => e 1 = .int .i64 keep ∧ e 4 = iv .i16 (zr 144 0) ∧ e 6 = iv .i16 (lofN b keep i) ∧ e 20 = x ∧ e 21 = .int .i64 b.length) ?_ ?_ (by simp) (by simp [lofN_zero])
      · rintro i e hi hlt e4 h22 ⟨h1, h4, h6, h20, h21⟩
        obtain ⟨q, off, ver, ha, hr⟩ := h.get hw hi
        have hf := hw.fr hi
        have hl := lofN_length (b := b) (keep := keep) (k := i)
        have hc1 := call302 (pu := true) (H := H) hl (lofN_ok hb.1 hb.2) hb.1 hb.2
        have hc2 := call361 (pu := true) (H := H) (l := (lofN b keep i).map (fad keep)) (f := fr b i) (by simp [hl]) (okAll_fad (lofN_ok hb.1 hb.2) hb.1 hb.2) hf
        have hs := lofN_succ (b := b) (keep := keep) (k := i)
        rw [← hs] at hc2
        have hl2 := lofN_length (b := b) (keep := keep) (k := i + 1)
        have hst0 : stc (iv .u16 (zr 12 0)) 0 (cs .u16 (fr b i)) = some (iv .u16 (fr b i)) := stc_zr hf.len
        have hst : stc (iv .i16 (lofN b keep i)) 0 (cs .i16 (lofN b keep (i + 1))) = some (iv .i16 (lofN b keep (i + 1))) := stc_all (by rw [hl, hl2])
        simp [b146_1, h22, h1, h4, h6, h20, h21, hlt, ha, hr, zs_cs, agg_cs, hf.len, hst0, hl, hc1, hc2, hl2, hst, e4]
      · rintro e h22 ⟨h1, h4, h6, h20, h21⟩
        have hl := lofN_length (b := b) (keep := keep) (k := b.length)
        have hz := stc_zr (k := .i16) hl
        simp [b146_1, h22, h4, h6, h21, hl, hz, agg_cs]
    · have hb' : (decide (0 ≤ keep) && decide (keep ≤ 8)) = false := by simpa using hb
      simp [c146, k146, hc, hk, zs_cs, agg_cs, fill, zz144, lofR, lightR, call301, hb, hb']
theorem call23 {H : Heap} {x : Value} {b : List (List Int)} {keep : Int} (hs : Bk H x b) (hw : BkW b) (hn : b.length ≤ 9223372036854775807) : Call tab false 23 [x, .int .i64 keep] H = some (.bool true, H) := by
  refine Call_wp t23 (.inl rfl) rfl ?_
  have hsz := sz_call s103 (pu := true) hs (left := 1000000) (by omega) (by omega) hn
  by_cases hbig : b.length ≤ 1000000
  · have hsz' : ¬ (1000000 - (b.length : Int) < 0) := by omega
    rw [if_neg hsz'] at hsz
    have hbl := bkC_length hw
    obtain ⟨x1, G1, q1, k1, r1, p1⟩ := cp_false (pu := true) hbl rfl (call105 hs hw hbig)
    obtain ⟨x2, G2, q2, k2, r2, p2⟩ := cp_false (pu := true) hbl rfl (call105 (hs.pre p1) hw hbig)
    have p12 := p1.trans p2
    obtain ⟨x3, G3, q3, k3, r3, p3⟩ := cp_false (pu := true) hbl rfl (call105 (hs.pre p12) hw hbig)
    have p13 := p12.trans p3
    obtain ⟨x4, G4, q4, r4, p4⟩ := cp_true (pu := true) hbl rfl (call105 (hs.pre p13) hw hbig)
    have w3 := call107 (pu := true) (k2.pre p3) k3 hw hbig
    obtain ⟨m, c, hm, e⟩ : ∃ m c, m.length = 144 ∧ lofR b keep = tup [iv .i16 m, .int .i64 c] := by
      unfold lofR
      split
      · split
        · exact ⟨_, _, lofN_length, rfl⟩
        · exact ⟨_, _, by simp, rfl⟩
      · exact ⟨_, _, by simp, rfl⟩
    have w1 := call145 (pu := true) (keep := keep) r1 hw hbig
    have w2 := call146 (pu := true) (keep := keep) r2 hw hbig
    have w4 := call146 (pu := true) (keep := keep) r4 hw hbig
    have hz := stc_zr (k := .i16) hm
    rw [e] at w1 w2 w4
    simp [c23, k23, hsz, hsz', q1, q2, q3, q4, w1, w2, w3, w4, zs_cs, agg_cs, hm, hz, call75 hm, skip, (p13.trans p4).take]
  · have hsz' : 1000000 - (b.length : Int) < 0 := by omega
    rw [if_pos hsz'] at hsz
    simp [c23, k23, hsz]
end Fb
