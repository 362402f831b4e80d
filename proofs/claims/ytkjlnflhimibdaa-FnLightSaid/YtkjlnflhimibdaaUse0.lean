/- What each function computes. -/
import Derived.Test.YtkjlnflhimibdaaTab
import Derived.Test.YtkjlnflhimibdaaPl
set_option linter.unusedVariables false
set_option linter.unusedSimpArgs false
namespace Fb
open Go
theorem call304 {pu : Bool} {a b c : Int} {H : Heap} : Call tab pu 304 [.int .i64 a, .int .i64 b, .int .i64 c] H = some (.bool (decide (b ≤ a ∧ a ≤ c)), H) := by
  refine Call_wp t304 (.inr rfl) rfl ?_
  by_cases h : b ≤ a <;> simp [c304, k304, h, skip]
theorem call295 {pu : Bool} {a b c : Int} {H : Heap} : Call tab pu 295 [.int .i64 a, .int .i64 b, .int .i64 c] H = some (.bool (decide (b ≤ a ∧ a ≤ c)), H) := by
  refine Call_wp t295 (.inr rfl) rfl ?_
  by_cases h : b ≤ a <;> simp [c295, k295, h, skip]
/-- A number that fits. -/
abbrev i16 (n : Int) : Prop := -32768 ≤ n ∧ n ≤ 32767
def okL (n : Int) : Bool := decide (0 ≤ n ∧ n ≤ 1000)
def okAll (l : List Int) : Bool := l.all okL
theorem call294 {pu : Bool} {n : Int} {H : Heap} (h : i16 n) : Call tab pu 294 [.int .i16 n] H = some (.bool (!okL n), H) := by
  refine Call_wp t294 (.inr rfl) rfl ?_
  simp (disch := omega) [c294, k294, okL, call295]
/-- The first place of a number with p, or -1. -/
def findI (p : Int → Bool) (l : List Int) : Int := match l.findIdx? p with
  | some i => i
  | none => -1
theorem findI_spec {p : Int → Bool} {l : List Int} {i : Nat} (hi : i < l.length) (hn : ∀ j, j < i → p (nth l j) = false) (hp : p (nth l i) = true) : findI p l = i := by
  have e : ∀ j (h : j < l.length), nth l j = l[j] := fun j h => nth_of (List.getElem?_eq_getElem h)
  have : l.findIdx? p = some i := by
    rw [List.findIdx?_eq_some_iff_getElem]
    refine ⟨hi, by rw [← e]; exact hp, fun j hj => ?_⟩
    have := hn j hj
    rw [e j (by omega)] at this
    simpa using this
  unfold findI
  rw [this]
theorem findI_none {p : Int → Bool} {l : List Int} (hn : ∀ j, j < l.length → p (nth l j) = false) : findI p l = -1 := by
  have : l.findIdx? p = none := by
    rw [List.findIdx?_eq_none_iff]
    intro x hx
    obtain ⟨j, hj, rfl⟩ := mem_nth hx
    exact hn j hj
  unfold findI
  rw [this]
theorem findI_ge {p : Int → Bool} {l : List Int} : decide (0 ≤ findI p l) = l.any p := by
  unfold findI
  cases h : l.findIdx? p with
  | none =>
    rw [List.findIdx?_eq_none_iff] at h
    have : l.any p = false := by rw [List.any_eq_false]; intro x hx; simp [h x hx]
    rw [this]; decide
  | some i =>
    rw [List.findIdx?_eq_some_iff_getElem] at h
    obtain ⟨hi, hp, _⟩ := h
    have : l.any p = true := List.any_eq_true.2 ⟨_, List.getElem_mem hi, hp⟩
    rw [this]; simp
theorem upto_succ {p : Nat → Prop} {i : Nat} (h : ∀ j, j < i → p j) (hi : p i) : ∀ j, j < i + 1 → p j := by
  intro j hj
  rcases Nat.lt_or_ge j i with h1 | h1
  · exact h j h1
  · obtain rfl : j = i := by omega
    exact hi
theorem call487 {pu : Bool} {H : Heap} {b off ver cap : Nat} {l : List Int} {F : Value} {p : Int → Bool} (hr : rd H b off ver l.length = some (cs .i16 l)) (hlen : l.length ≤ 1152921504606846976)
    (hF : ∀ n ∈ l, callV (Call tab) H F [.int .i16 n] = some (.bool (p n), H)) : Call tab pu 487 [slc b off ver l.length cap, F] H = some (.int .i64 (findI p l), H) := by
  refine Call_wp t487 (.inr rfl) rfl ?_
  simp [c487, k487]
  refine WP_count 8 l.length _ rfl (fun i e H' => H' = H ∧ e 7 = .int .i64 (l.length : Int) ∧ e 0 = slc b off ver l.length cap ∧ e 1 = F ∧ ∀ j, j < i → p (nth l j) = false) (by omega) ?_ ?_ (by simp) (by simp)
  · rintro i e' _ hf hi hx e4 h8 ⟨rfl, h7, h0, h1, hn⟩
    have hm := hF _ (nth_mem hi)
    cases hp : p (nth l i) with
    | true =>
      rw [hp] at hm
      simp (disch := first | omega | assumption) [b487_1, h8, h7, h0, h1, hx, rd_one hr, hi, hm, findI_spec hi hn hp]
    | false =>
      rw [hp] at hm
      simp (disch := first | omega | assumption) [b487_1, h8, h7, h0, h1, hx, rd_one hr, hi, hm]
      exact upto_succ hn hp
  · rintro e' _ hf h8 ⟨rfl, h7, h0, h1, hn⟩
    simp [b487_1, h8, h7, findI_none hn]
theorem call293 {pu : Bool} {H : Heap} {b off ver cap : Nat} {l : List Int} {F : Value} {p : Int → Bool} (hr : rd H b off ver l.length = some (cs .i16 l)) (hlen : l.length ≤ 1152921504606846976)
    (hF : ∀ n ∈ l, callV (Call tab) H F [.int .i16 n] = some (.bool (p n), H)) : Call tab pu 293 [slc b off ver l.length cap, F] H = some (.bool (l.any p), H) := by
  refine Call_wp t293 (.inr rfl) rfl ?_
  simp [c293, k293, call487 hr hlen hF, findI_ge]
/-- Rows of 12. -/
theorem rows_all {l : List Int} (hl : l.length = 144) {p : Int → Bool} (h : ∀ r, r < 12 → (sub l (r * 12) 12).all p = true) : l.all p = true := by
  refine all_nth fun j hj => ?_
  have h1 := h (j / 12) (by omega)
  rw [List.all_eq_true] at h1
  have := h1 (nth (sub l (j / 12 * 12) 12) (j % 12)) (nth_mem (by rw [sub_length] <;> omega))
  rwa [nth_sub (by omega), show j / 12 * 12 + j % 12 = j by omega] at this
theorem any_not {l : List Int} {p : Int → Bool} : (l.any fun n => !p n) = !l.all p := by induction l <;> simp_all
theorem all_false {l : List Int} {p : Int → Bool} {x : Int} (h : x ∈ l) (hp : p x = false) : l.all p = false := by
  rw [List.all_eq_false]; exact ⟨x, h, by simp [hp]⟩
theorem okAll_rows {l : List Int} (hl : l.length = 144) (h : ∀ r, r < 12 → okAll (sub l (r * 12) 12) = true) : okAll l = true := rows_all hl h
theorem call63 {pu : Bool} {H : Heap} {l : List Int} (hl : l.length = 144) (hw : ∀ n ∈ l, i16 n) : Call tab pu 63 [iv .i16 l] H = some (.bool (okAll l), H) := by
  refine Call_wp t63 (.inr rfl) rfl ?_
  simp [c63, k63, hl]
  refine WP_count 6 12 12 rfl (fun i e H' => e 5 = iv .i16 l ∧ Pre H H' ∧ ∀ j, j < i → okAll (sub l (j * 12) 12) = true) (by omega) ?_ ?_ (by simp) (by simp)
  · rintro i e' H' hf hi hx e4 h6 ⟨h5, hpre, hn⟩
    have hs := sub_length (l := l) (o := i * 12) (n := 12) (by omega)
    have hc := call293 (pu := true) (H := H' ++ [⟨cs .i16 (sub l (i * 12) 12), 1, 0, false⟩]) (b := H'.length) (off := 0) (ver := 0) (cap := 12) (l := sub l (i * 12) 12) (F := .func (.func 294) #[] #[]) (p := fun n => !okL n) (by
      rw [rd_last rfl]; simp) (by omega) (fun n hn => by simp [call294 (hw n (sub_mem hn))])
    rw [hs, any_not, ← okAll] at hc
    have e2 := wr_last (n0 := H.length) (wb := false) (H := H') (b := ⟨zs 12 (.int .i16 0), 1, 0, false⟩) (vs := cs .i16 (sub l (i * 12) 12)) rfl rfl hpre.len (by simp [hs])
    have e3 := slcP_last (H := H') (b := ⟨cs .i16 (sub l (i * 12) 12), 1, 0, false⟩) (n := 12) (esz := 1) rfl rfl (by simp [hs])
    cases hany : okAll (sub l (i * 12) 12) with
    | true =>
      rw [hany] at hc
      simp (disch := omega) [b63_1, h6, h5, hx, hl, idxV_sub, hs, e2, e3, hc, wbOf, e4, hi, hpre.app]
      simpa using upto_succ hn hany
    | false =>
      rw [hany] at hc
      have : okAll l = false := by
        obtain ⟨x, hx, hp⟩ := List.all_eq_false.1 (show (sub l (i * 12) 12).all okL = false from hany)
        exact all_false (sub_mem hx) (by simpa using hp)
      simp (disch := omega) [b63_1, h6, h5, hx, hl, idxV_sub, hs, e2, e3, hc, wbOf, this, hpre.app.take]
  · rintro e' H' hf h6 ⟨h5, hpre, hn⟩
    simp [b63_1, h6, hpre.take, okAll_rows hl hn]
theorem inner291 {H : Heap} {b ver n0 : Nat} {wb : Bool} {l : List Int} (hl : l.length = 144) (hw : ∀ n ∈ l, i16 n) (hr : rd H b 0 ver 144 = some (cs .i16 l)) {y : Nat} (hy : y < 12) {e : Env} {fs : List Fr} {Q : Ex → Env → Heap → Prop}
    (h0 : e 0 = adr b 0 ver) (h3 : e 3 = .int .i64 (y : Int)) (h4 : e 4 = .int .i64 0)
    (q1 : ∀ e', e' 0 = e 0 → e' 3 = e 3 → okAll (sub l (y * 12) 12) = true → KK tab n0 wb (.exit 2) fs e' H Q) (q2 : ∀ e', e' 2 = .bool false → okAll l = false → KK tab n0 wb .ret fs e' H Q) :
    WK tab n0 wb (.loop b291_1) fs e H Q := by
  refine WP_count 4 12 12 rfl (fun i e' H' => H' = H ∧ ∀ j, j < i → okL (nth l (y * 12 + j)) = true) (by omega) ?_ ?_ h4 ⟨rfl, fun j hj => by omega⟩
  · rintro i e' H' hf hi hx e4 h4 ⟨rfl, hn⟩
    have h0 := (hf 0 (by decide)).trans h0
    have h3 := (hf 3 (by decide)).trans h3
    have hd := rd_one hr (o := y * 12 + i) (by omega)
    have hj : y * 12 + i < l.length := by omega
    have hm := hw _ (nth_mem hj)
    rw [Nat.zero_add] at hd
    have hok : okL (nth l (y * 12 + i)) = decide (0 ≤ nth l (y * 12 + i) ∧ nth l (y * 12 + i) ≤ 1000) := rfl
    cases hk : okL (nth l (y * 12 + i)) with
    | true =>
      rw [hk] at hok
      simp (disch := omega) [b291_1, h4, h0, h3, hx, hi, hy, hd, call304, ← hok, e4, -Bool.decide_and]
      exact upto_succ hn hk
    | false =>
      rw [hk] at hok
      simp (disch := omega) [b291_1, h4, h0, h3, hx, hi, hy, hd, call304, ← hok, e4, -Bool.decide_and]
      exact q2 _ (by simp) (all_false (nth_mem hj) hk)
  · rintro e' H' hf h4 ⟨rfl, hn⟩
    simp [b291_1, h4]
    refine q1 _ (by simp [hf 0 (by decide)]) (by simp [hf 3 (by decide)]) (all_nth fun j hj => ?_)
    rw [sub_length (by omega)] at hj
    rw [nth_sub hj]; exact hn j hj
theorem call291 {pu : Bool} {H : Heap} {b ver : Nat} {l : List Int} (hl : l.length = 144) (hw : ∀ n ∈ l, i16 n) (hr : rd H b 0 ver 144 = some (cs .i16 l)) : Call tab pu 291 [adr b 0 ver] H = some (.bool (okAll l), H) := by
  refine Call_wp t291 (.inr rfl) rfl ?_
  simp [c291, k291]
  refine WP_count 3 12 12 rfl (fun i e H' => H' = H ∧ e 0 = adr b 0 ver ∧ ∀ j, j < i → okAll (sub l (j * 12) 12) = true) (by omega) ?_ ?_ (by simp) (by simp)
  · rintro i e' H' hf hi hx e4 h3 ⟨rfl, h0, hn⟩
    simp [b291_2, h3, hx]
    refine inner291 hl hw hr hi (by simp [h0]) (by simp [h3]) (by simp) (fun e1 g0 g3 h => ?_) (fun e1 g2 h => ?_)
    · simp [h0, h3] at g0 g3
      simp [g0, g3, e4]
      simpa using upto_succ hn h
    · simp [g2, h]
  · rintro e' H' hf h3 ⟨rfl, h0, hn⟩
    simp [b291_2, h3, okAll_rows hl hn]
def sumN (l : List Int) : Nat → Int
  | 0 => 0
  | k + 1 => sumN l k + nth l k
theorem okAll_nth {l : List Int} (h : okAll l = true) {i : Nat} (hi : i < l.length) : 0 ≤ nth l i ∧ nth l i ≤ 1000 := by
  have := List.all_eq_true.1 h _ (nth_mem hi)
  simpa [okL] using this
theorem sumN_ok {l : List Int} (h : okAll l = true) {k : Nat} (hk : k ≤ l.length) : 0 ≤ sumN l k ∧ sumN l k ≤ 1000 * (k : Int) := by
  induction k with
  | zero => simp [sumN]
  | succ k ih =>
    have h1 := ih (by omega)
    have h2 := okAll_nth h (i := k) (by omega)
    simp only [sumN]
    omega
/-- A sum, or a refusal. -/
def sumL (l : List Int) : Value := if okAll l = true then tup [.int .i64 (sumN l 144), .int .i64 0] else tup [.int .i64 0, .int .i64 1]
theorem step12 {x y : Nat} (hx : x < 12) (hy : y < 12) : y * 12 + x < 144 := by omega
theorem call65 {pu : Bool} {H : Heap} {l : List Int} (hl : l.length = 144) (hw : ∀ n ∈ l, i16 n) : Call tab pu 65 [iv .i16 l] H = some (sumL l, H) := by
  refine Call_wp t65 (.inr rfl) rfl ?_
  have hc := call63 (pu := true) (H := H) hl hw
  cases hk : okAll l with
  | false => simp [c65, k65, hl, hc, hk, sumL]
  | true =>
    simp [c65, k65, hl, hc, hk, sumL]
    refine WP_forH 13 12 12 rfl (by omega) (fun y e => e 12 = iv .i16 l ∧ e 4 = .int .i64 (sumN l (y * 12))) ?_ ?_ (by simp) (by simp [sumN])
    · rintro y e hy hyy e5 h5 ⟨h1, h4⟩
      have hs := sub_length (l := l) (o := y * 12) (n := 12) (by omega)
      have e9 : stc (iv .i16 (zr 12 0)) 0 (cs .i16 (sub l (y * 12) 12)) = some (iv .i16 (sub l (y * 12) 12)) := stc_all (by simp [hs])
      simp (disch := omega) [b65_2, h5, hyy, h1, hl, idxV_sub, hs, zs_cs, agg_cs, e9]
      refine WP_forH 17 12 12 rfl (by omega) (fun x e => e 12 = iv .i16 l ∧ e 16 = iv .i16 (sub l (y * 12) 12) ∧ e 13 = .int .i64 y ∧ e 4 = .int .i64 (sumN l (y * 12 + x))) ?_ ?_ (by simp) (by simp [h1, h4, h5])
      · rintro x e hx hxx e6 h6 ⟨h1, h2, h5, h4⟩
        have h7 := step12 hx hy
        have h8 := sumN_ok hk (k := y * 12 + x) (by omega)
        have h9 := okAll_nth hk (i := y * 12 + x) (by omega)
        simp (disch := omega) [b65_1, h6, hxx, hx, hy, h1, h2, h5, h4, hs, nth_sub, e6, ← Nat.add_assoc, sumN]
      · rintro e h6 ⟨h1, h2, h5, h4⟩
        simp [b65_1, h6, h1, h4, h5, e5, Nat.add_mul]
    · rintro e h5 ⟨h1, h4⟩
      simp [b65_2, h5, h4]
/-- The first brightest one of the first k numbers. -/
def brS (l : List Int) (k q : Nat) : Nat := if nth l q < nth l k then k else q
def brN (l : List Int) (k : Nat) : Nat := itN (brS l) 0 k
theorem brN_zero {l : List Int} : brN l 0 = 0 := itN_zero
theorem brN_succ {l : List Int} {k : Nat} : brN l (k + 1) = if nth l (brN l k) < nth l k then k else brN l k := itN_succ
def brC (l : List Int) : Int := ((brN l 144 % 12 : Nat) : Int)
def brR (l : List Int) : Int := ((brN l 144 / 12 : Nat) : Int)
def brV (l : List Int) : Int := nth l (brN l 144)
def brL (l : List Int) : Value := if okAll l = true then tup [.int .i64 (brC l), .int .i64 (brR l), .int .i64 (brV l), .int .i64 0]
  else tup [.int .i64 0, .int .i64 0, .int .i64 0, .int .i64 1]
def bAt (e : Env) (r c : Nat) (q : Nat) : Prop := ∃ a b : Nat, q = a * 12 + b ∧ a < 12 ∧ b < 12 ∧ e r = .int .i64 a ∧ e c = .int .i64 b
theorem call67 {pu : Bool} {H : Heap} {l : List Int} (hl : l.length = 144) (hw : ∀ n ∈ l, i16 n) : Call tab pu 67 [iv .i16 l] H = some (brL l, H) := by
  refine Call_wp t67 (.inr rfl) rfl ?_
  have hc := call63 (pu := true) (H := H) hl hw
  cases hk : okAll l with
  | false => simp [c67, k67, hl, hc, hk, brL]
  | true =>
    simp [c67, k67, hl, hc, hk, brL]
    refine WP_forH 14 12 12 rfl (by omega) (fun y e => e 1 = iv .i16 l ∧ bAt e 7 6 (brN l (y * 12))) ?_ ?_ (by simp) (by simp [bAt, brN_zero]; exact ⟨0, 0, by simp⟩)
    · rintro y e hy hyy e5 h5 ⟨h1, h4⟩
      have hs := sub_length (l := l) (o := y * 12) (n := 12) (by omega)
      simp (disch := omega) [b67_2, h5, hyy, h1, hy, ldc_sub]
      refine WP_forH 20 12 12 rfl (by omega) (fun x e => e 1 = iv .i16 l ∧ e 19 = iv .i16 (sub l (y * 12) 12) ∧ e 14 = .int .i64 y ∧ e 8 = .int .i64 y ∧ bAt e 7 6 (brN l (y * 12 + x))) ?_ ?_ (by simp) (by simpa [bAt, h1, h5] using h4)
      · rintro x e hx hxx e6 h6 ⟨h1, h2, h5, h3, a, b, hq, ha, hb, h7, h8⟩
        have d1 := step12 hx hy
        have d2 := step12 hb ha
        by_cases hlt : nth l (brN l (y * 12 + x)) < nth l (y * 12 + x)
        · have hlt' := hlt
          have hn : brN l (y * 12 + x + 1) = if nth l (brN l (y * 12 + x)) < nth l (y * 12 + x) then y * 12 + x else brN l (y * 12 + x) := brN_succ
          rw [if_pos hlt] at hn
          rw [hq] at hlt'
          simp (disch := omega) [b67_1, h6, hxx, hx, hy, h1, h2, h3, h5, h7, h8, hs, nth_sub, ha, hb, hlt', e6, ← Nat.add_assoc, hn, bAt]
          exact ⟨y, x, by omega, hy, hx, rfl, rfl⟩
        · have hlt' := hlt
          have hn : brN l (y * 12 + x + 1) = if nth l (brN l (y * 12 + x)) < nth l (y * 12 + x) then y * 12 + x else brN l (y * 12 + x) := brN_succ
          rw [if_neg hlt] at hn
          rw [hq] at hlt'
          simp (disch := omega) [b67_1, h6, hxx, hx, hy, h1, h2, h3, h5, h7, h8, hs, nth_sub, ha, hb, hlt', e6, ← Nat.add_assoc, hn, bAt]
          exact ⟨a, b, by omega, ha, hb, rfl, rfl⟩
      · rintro e h6 ⟨h1, h2, h5, h3, h4⟩
        simp [b67_1, h6, h1, h5, e5, Nat.add_mul]
        simpa [bAt] using h4
    · rintro e h5 ⟨h1, h4⟩
      obtain ⟨a, b, hq, ha, hb, h7, h8⟩ := h4
      have hq : brN l 144 = a * 12 + b := hq
      have hk1 := okAll_nth hk (i := a * 12 + b) (by omega)
      have e2 := okAll_nth hk (i := a * 12 + b) (by omega)
      have hC : brC l = b := by unfold brC; rw [hq]; omega
      have hR : brR l = a := by unfold brR; rw [hq]; omega
      have hV : brV l = nth l (a * 12 + b) := by unfold brV; rw [hq]
      simp (disch := omega) [b67_2, h5, h1, h7, h8, ha, hb, hC, hR, hV]
/-- The first m numbers of a row are turned. -/
def part (f : Int → Int) (m : Nat) (l : List Int) : List Int := (l.take m).map f ++ l.drop m
theorem part_length {f : Int → Int} {m : Nat} {l : List Int} : (part f m l).length = l.length := by simp [part]; omega
theorem part_zero {f : Int → Int} {l : List Int} : part f 0 l = l := by simp [part]
theorem part_all {f : Int → Int} {m : Nat} {l : List Int} (h : l.length ≤ m) : part f m l = l.map f := by simp [part, List.take_of_length_le h, List.drop_eq_nil_of_le h]
theorem nth_part {f : Int → Int} {m i : Nat} {l : List Int} (h : i < l.length) : nth (part f m l) i = if i < m then f (nth l i) else nth l i := by
  apply nth_of
  simp only [part, List.getElem?_append, List.length_map, List.length_take]
  split
  · rw [if_pos (by omega), List.getElem?_map, List.getElem?_take, if_pos (by omega), nth_get h]; rfl
  · rw [if_neg (by omega), List.getElem?_drop, show m + (i - min m l.length) = i by omega, nth_get h]
theorem part_set {f : Int → Int} {m : Nat} {l : List Int} (h : m < l.length) : (part f m l).set m (f (nth l m)) = part f (m + 1) l := by
  refine ext_nth (by simp [part_length]) fun i hi => ?_
  have hi : i < l.length := by simpa [part_length] using hi
  rw [nth_set (by rw [part_length]; exact h), nth_part hi, nth_part hi]
  split
  · rename_i h1; subst h1; rw [if_pos (by omega)]
  · split
    · rw [if_pos (by omega)]
    · rw [if_neg (by omega)]
def fad (keep n : Int) : Int := (n * keep).tdiv 8
theorem fad_ok {keep n : Int} (h0 : 0 ≤ keep) (h8 : keep ≤ 8) (hn : 0 ≤ n ∧ n ≤ 1000) : 0 ≤ fad keep n ∧ fad keep n ≤ 1000 ∧ 0 ≤ n * keep ∧ n * keep ≤ 8000 := by
  have h1 : 0 ≤ n * keep := Int.mul_nonneg hn.1 h0
  have h2 : n * keep ≤ 1000 * 8 := Int.mul_le_mul hn.2 h8 h0 (by omega)
  unfold fad
  rw [Int.tdiv_eq_ediv_of_nonneg h1]
  omega
theorem stc_at {k : IntKind} {l l' : List Int} {i : Nat} {n : Int} (h : i < l.length) (hl : l.set i n = l') : stc (iv k l) i [.int k n] = some (iv k l') := by rw [stc_one h rfl, hl]
theorem call300 {pu : Bool} {H : Heap} {l : List Int} {keep : Int} (hl : l.length = 144) (hk : okAll l = true) (h0 : 0 ≤ keep) (h8 : keep ≤ 8) : Call tab pu 300 [iv .i16 l, .int .i64 keep] H = some (iv .i16 (l.map (fad keep)), H) := by
  refine Call_wp t300 (.inr rfl) rfl ?_
  simp [c300, k300, zs_cs, agg_cs]
  refine WP_forH 5 12 12 rfl (by omega) (fun y e => e 1 = .int .i64 keep ∧ e 2 = iv .i16 (part (fad keep) (y * 12) l) ∧ e 4 = iv .i16 (zr 144 0)) ?_ ?_ (by simp) (by simp [part_zero])
  · rintro y e hy hyy e5 h5 ⟨h1, h2, h4⟩
    simp [b300_2, h5, hyy]
    refine WP_forH 6 12 12 rfl (by omega) (fun x e => e 1 = .int .i64 keep ∧ e 5 = .int .i64 y ∧ e 2 = iv .i16 (part (fad keep) (y * 12 + x) l) ∧ e 4 = iv .i16 (zr 144 0)) ?_ ?_ (by simp) (by simp [h1, h2, h4, h5])
    · rintro x e hx hxx e6 h6 ⟨h1, h5, h2, h4⟩
      have h7 := step12 hx hy
      have hn := okAll_nth hk (i := y * 12 + x) (by omega)
      obtain ⟨f1, f2, f3, f4⟩ := fad_ok h0 h8 hn
      have hp : ldc 1 false (iv .i16 (part (fad keep) (y * 12 + x) l)) (y * 12 + x) = some (.int .i16 (nth l (y * 12 + x))) := by rw [ldc_iv1 (by rw [part_length]; omega), nth_part (by omega), if_neg (by omega)]
      have e9 := stc_at (k := .i16) (by rw [part_length]; omega) (part_set (f := fad keep) (m := y * 12 + x) (l := l) (by omega))
      have e10 : IntKind.wrap .i16 (fad keep (nth l (y * 12 + x))) = fad keep (nth l (y * 12 + x)) := wrap16 (by omega)
      have e11 : IntKind.wrap .i64 ((nth l (y * 12 + x) * keep).tdiv 8) = fad keep (nth l (y * 12 + x)) := wrap64 (by unfold fad at f1 f2; omega)
      simp (disch := omega) [b300_1, h6, hxx, hx, hy, h1, h5, h2, h4, e6, ← Nat.add_assoc, hp, e9, e10, e11]
    · rintro e h6 ⟨h1, h5, h2, h4⟩
      simp [b300_1, h6, h1, h2, h4, h5, e5, Nat.add_mul]
  · rintro e h5 ⟨h1, h2, h4⟩
    have e9 : stc (iv .i16 (zr 144 0)) 0 (cs .i16 (l.map (fad keep))) = some (iv .i16 (l.map (fad keep))) := stc_all (by simp [hl])
    simp [b300_2, h5, h2, h4, part_all (f := fad keep) (m := 144) (Nat.le_of_eq hl), hl, e9, agg_cs]
theorem call302 {pu : Bool} {H : Heap} {l : List Int} {keep : Int} (hl : l.length = 144) (hk : okAll l = true) (h0 : 0 ≤ keep) (h8 : keep ≤ 8) : Call tab pu 302 [iv .i16 l, .int .i64 keep] H = some (iv .i16 (l.map (fad keep)), H) := by
  refine Call_wp t302 (.inr rfl) rfl ?_
  simp [c302, k302, zs_cs, agg_cs]
  refine WP_forH 8 12 12 rfl (by omega) (fun y e => e 1 = .int .i64 keep ∧ e 2 = iv .i16 (part (fad keep) (y * 12) l) ∧ e 4 = iv .i16 (zr 144 0)) ?_ ?_ (by simp) (by simp [part_zero])
  · rintro y e hy hyy e5 h5 ⟨h1, h2, h4⟩
    have hs := sub_length (l := part (fad keep) (y * 12) l) (o := y * 12) (n := 12) (by rw [part_length]; omega)
    have hq : ldc 12 true (iv .i16 (part (fad keep) (y * 12) l)) (y * 12) = some (iv .i16 (sub (part (fad keep) (y * 12) l) (y * 12) 12)) := ldc_sub (by rw [part_length]; omega)
    simp (disch := omega) [b302_2, h5, hyy, h2, hy, hq]
    refine WP_forH 14 12 12 rfl (by omega) (fun x e => e 1 = .int .i64 keep ∧ e 5 = .int .i64 y ∧ e 8 = .int .i64 y ∧ e 13 = iv .i16 (sub (part (fad keep) (y * 12) l) (y * 12) 12) ∧ e 2 = iv .i16 (part (fad keep) (y * 12 + x) l) ∧ e 4 = iv .i16 (zr 144 0)) ?_ ?_ (by simp) (by simp [h1, h2, h4, h5])
    · rintro x e hx hxx e6 h6 ⟨h1, h5, h3, h7, h2, h4⟩
      have h7' := step12 hx hy
      have hn := okAll_nth hk (i := y * 12 + x) (by omega)
      obtain ⟨f1, f2, f3, f4⟩ := fad_ok h0 h8 hn
      have hp : nth (sub (part (fad keep) (y * 12) l) (y * 12) 12) x = nth l (y * 12 + x) := by rw [nth_sub hx, nth_part (by omega), if_neg (by omega)]
      have e9 := stc_at (k := .i16) (by rw [part_length]; omega) (part_set (f := fad keep) (m := y * 12 + x) (l := l) (by omega))
      have e10 : IntKind.wrap .i16 (fad keep (nth l (y * 12 + x))) = fad keep (nth l (y * 12 + x)) := wrap16 (by omega)
      have e11 : IntKind.wrap .i64 ((nth l (y * 12 + x) * keep).tdiv 8) = fad keep (nth l (y * 12 + x)) := wrap64 (by unfold fad at f1 f2; omega)
      simp (disch := omega) [b302_1, h6, hxx, hx, hy, h1, h5, h3, h7, h2, h4, hs, e6, ← Nat.add_assoc, hp, e9, e10, e11]
    · rintro e h6 ⟨h1, h5, h3, h7, h2, h4⟩
      simp [b302_1, h6, h1, h2, h3, h4, h5, e5, Nat.add_mul]
  · rintro e h5 ⟨h1, h2, h4⟩
    have e9 : stc (iv .i16 (zr 144 0)) 0 (cs .i16 (l.map (fad keep))) = some (iv .i16 (l.map (fad keep))) := stc_all (by simp [hl])
    simp [b302_2, h5, h2, h4, part_all (f := fad keep) (m := 144) (Nat.le_of_eq hl), hl, e9, agg_cs]
theorem call299 {pu : Bool} {a : Int} {H : Heap} : Call tab pu 299 [.int .i64 a] H = some (.bool (decide (0 ≤ a ∧ a ≤ 8)), H) := by
  refine Call_wp t299 (.inr rfl) rfl ?_
  simp [c299, k299, call304]
theorem call301 {pu : Bool} {a : Int} {H : Heap} : Call tab pu 301 [.int .i64 a] H = some (.bool (decide (0 ≤ a ∧ a ≤ 8)), H) := by
  refine Call_wp t301 (.inr rfl) rfl ?_
  simp [c301, k301, call295]
def lightR (l : List Int) (c : Int) : Value := tup [iv .i16 l, .int .i64 c]
def fadR (l : List Int) (keep : Int) : Value := if okAll l = true then if 0 ≤ keep ∧ keep ≤ 8 then lightR (l.map (fad keep)) 0 else lightR (zr 144 0) 2 else lightR (zr 144 0) 1
theorem stc_zr {k : IntKind} {n : Nat} {l : List Int} (h : l.length = n) : stc (iv k (zr n 0)) 0 (cs k l) = some (iv k l) := stc_all (by simp [h])
theorem call73 {pu : Bool} {H : Heap} {l : List Int} {keep : Int} (hl : l.length = 144) (hw : ∀ n ∈ l, i16 n) : Call tab pu 73 [iv .i16 l, .int .i64 keep] H = some (fadR l keep, H) := by
  refine Call_wp t73 (.inr rfl) rfl ?_
  obtain ⟨G, hG⟩ : ∃ G, G = H ++ [⟨cs .i16 l, 1, 0, false⟩] := ⟨_, rfl⟩
  have hr : rd G H.length 0 0 144 = some (cs .i16 l) := by rw [hG]; exact rd_last rfl (by simp [hl])
  have hT : G.take H.length = H := by rw [hG]; simp
  have hc := call291 (pu := true) hl hw hr
  have hz : stc (iv .i16 (zr 144 0)) 0 (cs .i16 (zr 144 0)) = some (iv .i16 (zr 144 0)) := stc_zr (by simp)
  cases hk : okAll l with
  | false => simp [c73, k73, hl, hc, hk, ← hG, hT, fadR, zs_cs, agg_cs, fill, hz, lightR]
  | true =>
    by_cases hb : 0 ≤ keep ∧ keep ≤ 8
    · have hc2 := call300 (pu := true) (H := G) hl hk hb.1 hb.2
      have hz2 := stc_zr (k := .i16) (l := l.map (fad keep)) (n := 144) (by simp [hl])
      simp [c73, k73, hl, hc, hk, ← hG, hT, fadR, zs_cs, agg_cs, fill, hz2, lightR, call299, hb, hc2, hr]
    · have hb' : (decide (0 ≤ keep) && decide (keep ≤ 8)) = false := by simpa using hb
      simp [c73, k73, hl, hc, hk, ← hG, hT, fadR, zs_cs, agg_cs, fill, hz, lightR, call299, hb, hb', hr]
theorem call74 {pu : Bool} {H : Heap} {l : List Int} {keep : Int} (hl : l.length = 144) (hw : ∀ n ∈ l, i16 n) : Call tab pu 74 [iv .i16 l, .int .i64 keep] H = some (fadR l keep, H) := by
  refine Call_wp t74 (.inr rfl) rfl ?_
  have hc := call63 (pu := true) (H := H) hl hw
  have hz : stc (iv .i16 (zr 144 0)) 0 (cs .i16 (zr 144 0)) = some (iv .i16 (zr 144 0)) := stc_zr (by simp)
  cases hk : okAll l with
  | false => simp [c74, k74, hl, hc, hk, fadR, zs_cs, agg_cs, fill, hz, lightR]
  | true =>
    by_cases hb : 0 ≤ keep ∧ keep ≤ 8
    · have hc2 := call302 (pu := true) (H := H) hl hk hb.1 hb.2
      have hz2 := stc_zr (k := .i16) (l := l.map (fad keep)) (n := 144) (by simp [hl])
      simp [c74, k74, hl, hc, hk, fadR, zs_cs, agg_cs, fill, hz2, lightR, call301, hb, hc2]
    · have hb' : (decide (0 ≤ keep) && decide (keep ≤ 8)) = false := by simpa using hb
      simp [c74, k74, hl, hc, hk, fadR, zs_cs, agg_cs, fill, hz, lightR, call301, hb, hb']
def bit (x : Nat) : Int := 2 ^ x
theorem bit_ok {x : Nat} (h : x < 12) : 0 < bit x ∧ bit x ≤ 2048 := by
  have : x = 0 ∨ x = 1 ∨ x = 2 ∨ x = 3 ∨ x = 4 ∨ x = 5 ∨ x = 6 ∨ x = 7 ∨ x = 8 ∨ x = 9 ∨ x = 10 ∨ x = 11 := by omega
  rcases this with rfl | rfl | rfl | rfl | rfl | rfl | rfl | rfl | rfl | rfl | rfl | rfl <;> decide
theorem shl_bit {x : Nat} (h : x < 12) : shiftOf .shl .u16 1 (x : Int) = some (.int .u16 (bit x)) := by
  have hb := bit_ok h
  unfold shiftOf
  rw [if_neg (by omega)]
  have e1 : min ((x : Int).toNat) (IntKind.bits .u16) = x := by
    have : IntKind.bits .u16 = 16 := rfl
    omega
  simp only [e1]
  show some (Value.int .u16 (IntKind.wrap .u16 (1 * bit x))) = _
  rw [Int.one_mul, wrapu16 (by omega)]
def putR (row : Int) (x : Nat) : Int := bitsOf .or .u16 row (bit x)
def putF (l : List Int) (x y : Nat) : List Int := l.set y (putR (nth l y) x)
theorem putR_eq {a : Int} {x : Nat} : bitsOf .or .u16 a (bit x) = putR a x := rfl
theorem putF_eq {l : List Int} {x y : Nat} : l.set y (putR (nth l y) x) = putF l x y := rfl
theorem putF_length {l : List Int} {x y : Nat} : (putF l x y).length = l.length := by simp [putF]
theorem call342 {pu : Bool} {H : Heap} {x y : Nat} (hx : x < 12) (hy : y < 12) : Call tab pu 342 [.int .i64 x, .int .i64 y] H = some (.bool true, H) := by
  refine Call_wp t342 (.inr rfl) rfl ?_
  have e1 : (x : Int) ≤ 11 := by omega
  have e2 : (y : Int) ≤ 11 := by omega
  simp [c342, k342, call304, e1, e2]
theorem call346 {pu : Bool} {H : Heap} {l : List Int} {x y : Nat} (hl : l.length = 12) (hx : x < 12) (hy : y < 12) : Call tab pu 346 [iv .u16 l, .int .i64 x, .int .i64 y] H = some (iv .u16 (putF l x y), H) := by
  refine Call_wp t346 (.inr rfl) rfl ?_
  have e9 := stc_at (k := .u16) (l := l) (i := y) (n := putR (nth l y) x) (l' := putF l x y) (by omega) rfl
  have hlp : (putF l x y).length = 12 := by rw [putF_length, hl]
  have hz := stc_zr (k := .u16) hlp
  simp (disch := omega) [c346, k346, zs_cs, agg_cs, hy, hx, hl, shl_bit, putR_eq, e9, hlp, hz]
theorem call305 {H : Heap} {b ver esz : Nat} {l : List Int} (hg : H[b]? = some ⟨cs .u16 l, esz, ver, false⟩) {x y : Nat} (hl : l.length = 12) (hx : x < 12) (hy : y < 12) :
    Call tab false 305 [adr b 0 ver, .int .i64 x, .int .i64 y] H = some (tup [], H.set b ⟨cs .u16 (putF l x y), esz, ver, false⟩) := by
  refine Call_wp t305 (.inl rfl) rfl ?_
  have hr := rd_at (off := 0) (n := 12) (ver := ver) hg rfl (by simp [hl])
  simp [take_all, hl] at hr
  have h1 := rd_one hr hy
  have h2 := fun v => wr_at (n0 := H.length) (wb := true) (off := y) (vs := [.int .u16 v]) (ver := ver) hg rfl rfl (may_ints (l := [v])) (by simp [hl]; omega)
  have h3 : ∀ v, splice (cs .u16 l) y [.int .u16 v] = cs .u16 (l.set y v) := fun v => by rw [splice_one (by simp [hl]; omega)]; simp [cs, List.map_set]
  rw [Nat.zero_add] at h1
  simp (disch := omega) [c305, k305, call342 hx hy, hy, hx, shl_bit, h1, h2, h3, wbOf, take_all, putR_eq, putF_eq, hl]
def whereN (p : Nat → Nat → Bool) (k : Nat) : List Int := itN (fun k f => if p (k % 12) (k / 12) = true then putF f (k % 12) (k / 12) else f) (zr 12 0) k
theorem whereN_zero {p : Nat → Nat → Bool} : whereN p 0 = zr 12 0 := itN_zero
theorem whereN_succ {p : Nat → Nat → Bool} {x y : Nat} (hx : x < 12) : whereN p (y * 12 + x + 1) = if p x y = true then putF (whereN p (y * 12 + x)) x y else whereN p (y * 12 + x) := by
  have := itN_succ (f := fun k f => if p (k % 12) (k / 12) = true then putF f (k % 12) (k / 12) else f) (a := zr 12 0) (k := y * 12 + x)
  simp only [show (y * 12 + x) % 12 = x by omega, show (y * 12 + x) / 12 = y by omega] at this
  exact this
theorem whereN_length {p : Nat → Nat → Bool} {k : Nat} : (whereN p k).length = 12 := by
  induction k with
  | zero => rw [whereN_zero]; simp
  | succ k ih =>
    rw [whereN, itN_succ]
    split
    · rw [putF_length]; exact ih
    · exact ih
theorem call306 {pu : Bool} {H : Heap} {F : Value} {p : Nat → Nat → Bool} (hF : ∀ x y : Nat, x < 12 → y < 12 → callV (Call tab) H F [.int .i64 x, .int .i64 y] = some (.bool (p x y), H)) : Call tab pu 306 [F] H = some (iv .u16 (whereN p 144), H) := by
  refine Call_wp t306 (.inr rfl) rfl ?_
  have hz := stc_zr (k := .u16) (n := 12) (l := zr 12 0) (by simp)
  simp [c306, k306, zs_cs, agg_cs, fill, hz]
  refine WP_forH 7 12 12 rfl (by omega) (fun y e => e 0 = F ∧ e 2 = iv .u16 (zr 12 0) ∧ e 3 = iv .u16 (whereN p (y * 12))) ?_ ?_ (by simp) (by simp [whereN_zero])
  · rintro y e hy hyy e5 h7 ⟨h0, h2, h3⟩
    simp [b306_2, h7, hyy]
    refine WP_forH 10 12 12 rfl (by omega) (fun x e => e 0 = F ∧ e 2 = iv .u16 (zr 12 0) ∧ e 7 = .int .i64 y ∧ e 4 = .int .i64 y ∧ e 3 = iv .u16 (whereN p (y * 12 + x))) ?_ ?_ (by simp) (by simp [h0, h2, h3, h7])
    · rintro x e hx hxx e6 h10 ⟨h0, h2, h7, h4, h3⟩
      have hl := whereN_length (p := p) (k := y * 12 + x)
      have hs := whereN_succ (p := p) (y := y) hx
      have hc := hF x y hx hy
      cases hp : p x y with
      | true =>
        rw [hp] at hs hc
        have hlp : (putF (whereN p (y * 12 + x)) x y).length = 12 := by rw [putF_length, hl]
        have hst : stc (iv .u16 (whereN p (y * 12 + x))) 0 (cs .u16 (putF (whereN p (y * 12 + x)) x y)) = some (iv .u16 (putF (whereN p (y * 12 + x)) x y)) := stc_all (by rw [hlp, hl])
        simp [b306_1, h10, hxx, h0, h2, h7, h4, h3, hc, hl, call346 hl hx hy, hst, hlp, e6, ← Nat.add_assoc, hs]
      | false =>
        rw [hp] at hs hc
        simp [b306_1, h10, hxx, h0, h2, h7, h4, h3, hc, e6, ← Nat.add_assoc, hs]
    · rintro e h10 ⟨h0, h2, h7, h4, h3⟩
      simp [b306_1, h10, h0, h2, h7, h3, e5, Nat.add_mul]
  · rintro e h7 ⟨h0, h2, h3⟩
    have hl := whereN_length (p := p) (k := 144)
    have hz := stc_zr (k := .u16) (n := 12) hl
    simp [b306_2, h7, h2, h3, hl, hz, agg_cs]
def seeP (l : List Int) (lev : Int) (x y : Nat) : Bool := decide (lev ≤ nth l (y * 12 + x))
theorem call307 {H : Heap} {b c : Nat} {l : List Int} {lev : Int} (hl : l.length = 144) (hw : ∀ n ∈ l, i16 n) (hr : rd H b 0 0 144 = some (cs .i16 l)) (hc : rd H c 0 0 1 = some (cs .i64 [lev])) {x y : Nat} (hx : x < 12) (hy : y < 12) :
    callV (Call tab) H (.func (.func 307) #[] #[adr b 0 0, adr c 0 0]) [.int .i64 x, .int .i64 y] = some (.bool (seeP l lev x y), H) := by
  have e1 : (#[adr b 0 0, adr c 0 0] : Array Value) = [adr b 0 0, adr c 0 0].toArray := rfl
  rw [e1, callV_func]
  refine Call_wp t307 (.inr rfl) rfl ?_
  have h1 := rd_one hr (step12 hx hy)
  have h2 := hw _ (nth_mem (l := l) (i := y * 12 + x) (by have := step12 hx hy; omega))
  rw [Nat.zero_add] at h1
  have h3 : nth [lev] 0 = lev := rfl
  have h4 : rd H c 0 0 1 = some [.int .i64 lev] := hc
  simp (disch := omega) [c307, k307, hx, hy, h1, h4, seeP]
def seeR (l : List Int) (lev : Int) : Value := if okAll l = true then if 0 ≤ lev ∧ lev ≤ 1000 then tup [iv .u16 (whereN (seeP l lev) 144), .int .i64 0] else tup [iv .u16 (zr 12 0), .int .i64 2] else tup [iv .u16 (zr 12 0), .int .i64 1]
theorem call77 {pu : Bool} {H : Heap} {l : List Int} {lev : Int} (hl : l.length = 144) (hw : ∀ n ∈ l, i16 n) : Call tab pu 77 [iv .i16 l, .int .i64 lev] H = some (seeR l lev, H) := by
  refine Call_wp t77 (.inr rfl) rfl ?_
  obtain ⟨G1, hG1⟩ : ∃ G, G = H ++ [⟨cs .i16 l, 1, 0, false⟩] := ⟨_, rfl⟩
  obtain ⟨G, hG⟩ : ∃ G, G = G1 ++ [⟨[.int .i64 lev], 1, 0, false⟩] := ⟨_, rfl⟩
  have hT : G.take H.length = H := by rw [hG, hG1]; simp
  have hr : rd G H.length 0 0 144 = some (cs .i16 l) := by rw [hG, hG1]; exact rd_app (rd_last rfl (by simp [hl]))
  have hr2 : rd G G1.length 0 0 1 = some [.int .i64 lev] := by rw [hG]; exact rd_last rfl rfl
  have hc := call63 (pu := true) (H := G) hl hw
  have hz : stc (iv .u16 (zr 12 0)) 0 (cs .u16 (zr 12 0)) = some (iv .u16 (zr 12 0)) := stc_zr (by simp)
  cases hk : okAll l with
  | false => simp [c77, k77, hl, ← hG1, ← hG, hr, hr2, hT, hc, hk, seeR, zs_cs, agg_cs, fill, hz]
  | true =>
    by_cases hb : 0 ≤ lev ∧ lev ≤ 1000
    · have hc2 := call306 (pu := true) (H := G) (p := seeP l lev) fun x y hx hy => call307 hl hw hr hr2 hx hy
      have hl2 := whereN_length (p := seeP l lev) (k := 144)
      have hz2 := stc_zr (k := .u16) hl2
      simp [c77, k77, hl, ← hG1, ← hG, hr, hr2, hT, hc, hk, seeR, zs_cs, agg_cs, fill, hz2, call295, hb, hc2, hl2]
    · have hb' : (decide (0 ≤ lev) && decide (lev ≤ 1000)) = false := by simpa using hb
      simp [c77, k77, hl, ← hG1, ← hG, hr, hr2, hT, hc, hk, seeR, zs_cs, agg_cs, fill, hz, call295, hb, hb']
theorem call76 {pu : Bool} {H : Heap} {l : List Int} {lev : Int} (hl : l.length = 144) (hw : ∀ n ∈ l, i16 n) : Call tab pu 76 [iv .i16 l, .int .i64 lev] H = some (seeR l lev, H) := by
  refine Call_wp t76 (.inr rfl) rfl ?_
  obtain ⟨G, hG⟩ : ∃ G, G = H ++ [⟨cs .i16 l, 1, 0, false⟩] := ⟨_, rfl⟩
  have hn : H.length ≤ G.length := by rw [hG]; simp
  have hT : G.take H.length = H := by rw [hG]; simp
  have hT2 : ∀ b, (G ++ [b]).take H.length = H := fun b => by rw [List.take_append_of_le_length hn, hT]
  have hr : rd G H.length 0 0 144 = some (cs .i16 l) := by rw [hG]; exact rd_last rfl (by simp [hl])
  have hc := call291 (pu := true) hl hw hr
  have hz : stc (iv .u16 (zr 12 0)) 0 (cs .u16 (zr 12 0)) = some (iv .u16 (zr 12 0)) := stc_zr (by simp)
  cases hk : okAll l with
  | false => simp [c76, k76, hl, ← hG, hr, hT, hc, hk, seeR, zs_cs, agg_cs, fill, hz]
  | true =>
    by_cases hb : 0 ≤ lev ∧ lev ≤ 1000
    · have hwr : wr H.length false (G ++ [⟨cs .u16 (zr 12 0), 1, 0, false⟩]) G.length 0 0 (cs .u16 (zr 12 0)) = some (G ++ [⟨cs .u16 (zr 12 0), 1, 0, false⟩]) := wr_last rfl rfl hn (by simp)
      simp [c76, k76, hl, ← hG, hr, hT, hc, hk, seeR, zs_cs, agg_cs, fill, call304, hb, hwr, wbOf]
      refine WP_count 7 12 12 rfl (fun y e H' => H' = G ++ [⟨cs .u16 (whereN (seeP l lev) (y * 12)), 1, 0, false⟩] ∧ e 1 = .int .i64 lev ∧ e 2 = adr H.length 0 0 ∧ e 6 = adr G.length 0 0 ∧ e 4 = iv .u16 (zr 12 0)) (by omega) ?_ ?_ (by simp) (by simp [whereN_zero])
      · rintro y e _ _ hy hyy e5 h7 ⟨rfl, h1, h2, h6, h4⟩
        simp [b76_2, h7, hyy]
        refine WP_count 8 12 12 rfl (fun x e H' => H' = G ++ [⟨cs .u16 (whereN (seeP l lev) (y * 12 + x)), 1, 0, false⟩] ∧ e 1 = .int .i64 lev ∧ e 2 = adr H.length 0 0 ∧ e 6 = adr G.length 0 0 ∧ e 4 = iv .u16 (zr 12 0) ∧ e 7 = .int .i64 y) (by omega) ?_ ?_ (by simp) (by simp [h1, h2, h6, h4, h7])
        · rintro x e _ _ hx hxx e6 h8 ⟨rfl, h1, h2, h6, h4, h7⟩
          have d1 := rd_app (L := [⟨cs .u16 (whereN (seeP l lev) (y * 12 + x)), 1, 0, false⟩]) (rd_one hr (step12 hx hy))
          rw [Nat.zero_add] at d1
          have d2 := hw _ (nth_mem (l := l) (i := y * 12 + x) (by have := step12 hx hy; omega))
          have hl3 := whereN_length (p := seeP l lev) (k := y * 12 + x)
          have hs := whereN_succ (p := seeP l lev) (y := y) hx
          have hcc := call305 (H := G ++ [⟨cs .u16 (whereN (seeP l lev) (y * 12 + x)), 1, 0, false⟩]) (b := G.length) get_last hl3 hx hy
          rw [set_last] at hcc
          cases hp : seeP l lev x y with
          | true =>
            rw [if_pos hp] at hs
            have hp' : lev ≤ nth l (y * 12 + x) := by simpa [seeP] using hp
            have he : elder H.length false (G ++ [⟨cs .u16 (whereN (seeP l lev) (y * 12 + x)), 1, 0, false⟩]) (tup [], G ++ [⟨cs .u16 (putF (whereN (seeP l lev) (y * 12 + x)) x y), 1, 0, false⟩]) = some (tup [], G ++ [⟨cs .u16 (putF (whereN (seeP l lev) (y * 12 + x)) x y), 1, 0, false⟩]) := elder_same (by rw [hT2, hT2])
            simp (disch := omega) [b76_1, h8, hxx, hx, hy, h1, h2, h6, h4, h7, d1, hp', hcc, wbOf, he, e6, ← Nat.add_assoc, hs]
          | false =>
            rw [hp, if_neg (by simp)] at hs
            have hp' : ¬ lev ≤ nth l (y * 12 + x) := by simpa [seeP] using hp
            simp (disch := omega) [b76_1, h8, hxx, hx, hy, h1, h2, h6, h4, h7, d1, hp', e6, ← Nat.add_assoc, hs]
        · rintro e _ _ h8 ⟨rfl, h1, h2, h6, h4, h7⟩
          simp [b76_1, h8, h1, h2, h6, h4, h7, e5, Nat.add_mul]
      · rintro e _ _ h7 ⟨rfl, h1, h2, h6, h4⟩
        have hl2 := whereN_length (p := seeP l lev) (k := 144)
        have hz2 := stc_zr (k := .u16) hl2
        have d3 : rd (G ++ [⟨cs .u16 (whereN (seeP l lev) (12 * 12)), 1, 0, false⟩]) G.length 0 0 12 = some (cs .u16 (whereN (seeP l lev) 144)) := rd_last rfl (by simp [whereN_length])
        simp [b76_2, h7, h2, h6, h4, d3, hl2, agg_cs, hz2, hT2]
    · have hb' : (decide (0 ≤ lev) && decide (lev ≤ 1000)) = false := by simpa using hb
      simp [c76, k76, hl, ← hG, hr, hT, hc, hk, seeR, zs_cs, agg_cs, fill, hz, call304, hb, hb']
def roomN (n : Nat) : Nat := if n % 6 = 5 then 0 else if n % 3 = 0 then 1 else n
/-- The i-th of a row of things. -/
def elem (vs : List Value) (esz i : Nat) : List Value := (vs.drop (i * esz)).take esz
theorem mul_next {i n esz : Nat} (h : i < n) : i * esz + esz ≤ n * esz := by
  have := Nat.mul_le_mul_right esz (show i + 1 ≤ n from h)
  rwa [Nat.succ_mul] at this
/-- A slice that can be read. -/
structure SlR (H : Heap) (x : Value) (esz n : Nat) (vs : List Value) : Prop where
  size : vs.length = n * esz
  is : (x = .slice none 0 0 ∧ n = 0) ∨ ∃ b off ver cap, x = slc b off ver n cap ∧ n ≤ cap ∧ rd H b off ver (n * esz) = some vs ∧ ∃ k, H[b]? = some k ∧ ver = k.ver ∧ k.esz = esz
theorem SlR.lenV {H : Heap} {x : Value} {esz n : Nat} {vs : List Value} (h : SlR H x esz n vs) : lenV x = some (.int .i64 n) := by
  rcases h.is with ⟨rfl, rfl⟩ | ⟨b, off, ver, cap, rfl, _⟩ <;> rfl
theorem SlR.app {H L : Heap} {x : Value} {esz n : Nat} {vs : List Value} (h : SlR H x esz n vs) : SlR (H ++ L) x esz n vs :=
  ⟨h.size, h.is.imp id fun ⟨b, off, ver, cap, h1, h2, h3, k, h4, h5⟩ => ⟨b, off, ver, cap, h1, h2, rd_app h3, k, by rw [List.getElem?_append_left (List.getElem?_eq_some_iff.1 h4).1]; exact h4, h5⟩⟩
theorem SlR.get {H : Heap} {x : Value} {esz n : Nat} {vs : List Value} (h : SlR H x esz n vs) {i : Nat} (hi : i < n) : ∃ a, idxAV esz x (.int .i64 (i : Int)) = some a ∧ ldH H esz true a = some (agg (elem vs esz i)) := by
  rcases h.is with ⟨rfl, rfl⟩ | ⟨b, off, ver, cap, rfl, h2, h3, _⟩
  · omega
  · refine ⟨adr b (off + i * esz) ver, by rw [idxAV_slc, at_nat hi]; rfl, ?_⟩
    rw [ldH_adr, rd_part h3 (mul_next hi)]; rfl
theorem SlR.of {H : Heap} {x : Value} {esz n : Nat} {vs : List Value} (h1 : vs.length = n * esz) (h : (x = .slice none 0 0 ∧ n = 0) ∨ ∃ b cap, x = slc b 0 0 n cap ∧ n ≤ cap ∧ rd H b 0 0 (n * esz) = some vs ∧ ∃ k, H[b]? = some k ∧ 0 = k.ver ∧ k.esz = esz) : SlR H x esz n vs :=
  ⟨h1, h.imp id fun ⟨b, cap, h1, h2, h3⟩ => ⟨b, 0, 0, cap, h1, h2, h3⟩⟩
/-- What leads nowhere. -/
def NoRef (vs : List Value) : Prop := ∀ v ∈ vs, ∀ n, old0 n v = true
theorem NoRef.all {vs : List Value} (h : NoRef vs) {n : Nat} : vs.all (old0 n) = true := List.all_eq_true.2 fun v hv => h v hv n
theorem NoRef.app {vs ws : List Value} (h : NoRef vs) (h' : NoRef ws) : NoRef (vs ++ ws) := fun v hv n => (List.mem_append.1 hv).elim (fun h1 => h v h1 n) (fun h1 => h' v h1 n)
theorem finish_slc {H G : Heap} {b ver len cap : Nat} {k : Blk} (hp : Pre H G) (hb : H.length ≤ b) (hk : G[b]? = some k) (hv : ver = k.ver) (hr : k.ro = false) (ho : k.cells.all (old0 H.length) = true) :
    finish H.length G [slc b 0 ver len cap] = (slc H.length 0 0 len cap, H ++ [{ k with ver := 0 }]) := by
  have hne : old1 H.length (slc b 0 ver len cap) = false := by
    show (true && decide (b < H.length)) = false
    simp; omega
  have : pack H.length G [slc b 0 ver len cap] [] [] = some ([slc H.length 0 0 len cap], [{ k with ver := 0 }]) := by
    rw [pack, if_neg (by rw [hne]; decide)]
    show (match G[b]? with
      | some k => if ([] : List Nat).contains b = false ∧ ver = k.ver ∧ k.ro = false ∧ k.cells.all (old0 H.length) = true then _ else none
      | none => none) = _
    rw [hk]
    simp only []
    rw [if_pos ⟨by simp, hv, hr, ho⟩]
    rfl
  rw [finish_some this, hp.take]; rfl
/-- The cells of a copy: with room behind. -/
def room (vs : List Value) (n : Nat) (fc : List Value) : List Value := vs ++ rep (roomN n) fc
/-- What a copy looks like. -/
def IsCp (H : Heap) (x : Value) (esz n : Nat) (vs fc : List Value) : Prop := ∃ b ver, x = slc b 0 ver n (n + roomN n) ∧ H[b]? = some ⟨room vs n fc, esz, ver, false⟩
theorem IsCp.app {H L : Heap} {x : Value} {esz n : Nat} {vs fc : List Value} (h : IsCp H x esz n vs fc) : IsCp (H ++ L) x esz n vs fc := by
  obtain ⟨b, ver, rfl, h⟩ := h
  exact ⟨b, ver, rfl, by rw [List.getElem?_append_left (List.getElem?_eq_some_iff.1 h).1]; exact h⟩
theorem IsCp.mk {H : Heap} {esz n : Nat} {vs fc : List Value} : IsCp (H ++ [⟨room vs n fc, esz, 0, false⟩]) (slc H.length 0 0 n (n + roomN n)) esz n vs fc := ⟨_, _, rfl, get_last⟩
theorem SlR.pre {H G : Heap} {x : Value} {esz n : Nat} {vs : List Value} (p : Pre H G) (h : SlR H x esz n vs) : SlR G x esz n vs := by obtain ⟨L, rfl⟩ := p; exact h.app
theorem IsCp.pre {H G : Heap} {x : Value} {esz n : Nat} {vs fc : List Value} (p : Pre H G) (h : IsCp H x esz n vs fc) : IsCp G x esz n vs fc := by obtain ⟨L, rfl⟩ := p; exact h.app
/-- Things of a kind, one behind the other. -/
def rowsC {α : Type} (f : α → List Value) : List α → List Value
  | [] => []
  | a :: r => f a ++ rowsC f r
def at0 {α : Type} [Inhabited α] (l : List α) (i : Nat) : α := l.getD i default
theorem at0_mem {α : Type} [Inhabited α] {l : List α} {i : Nat} (h : i < l.length) : at0 l i ∈ l := by
  rw [at0, List.getD_eq_getElem?_getD, List.getElem?_eq_getElem h]; exact List.getElem_mem h
theorem at0_get {α : Type} [Inhabited α] {l : List α} {i : Nat} (h : i < l.length) : l[i]? = some (at0 l i) := by
  rw [at0, List.getD_eq_getElem?_getD, List.getElem?_eq_getElem h]; rfl
theorem rows_length {α : Type} {f : α → List Value} {esz : Nat} {l : List α} (hf : ∀ a ∈ l, (f a).length = esz) : (rowsC f l).length = l.length * esz := by
  induction l with
  | nil => simp [rowsC]
  | cons a r ih =>
    have h1 := ih fun b hb => hf b (by simp [hb])
    have h2 := hf a (by simp)
    simp [rowsC, h1, h2, Nat.succ_mul]; omega
theorem rows_elem {α : Type} [Inhabited α] {f : α → List Value} {esz : Nat} {l : List α} (hf : ∀ a ∈ l, (f a).length = esz) {i : Nat} (hi : i < l.length) : elem (rowsC f l) esz i = f (at0 l i) := by
  induction l generalizing i with
  | nil => simp at hi
  | cons a r ih =>
    have h2 := hf a (by simp)
    cases i with
    | zero => simp [elem, rowsC, at0, ← h2]
    | succ i =>
      have h1 := ih (fun b hb => hf b (by simp [hb])) (i := i) (by simpa using hi)
      rw [show at0 (a :: r) (i + 1) = at0 r i by simp [at0], ← h1]
      unfold elem
      rw [Nat.succ_mul, Nat.add_comm, ← List.drop_drop, rowsC, ← h2, List.drop_left]
theorem rows_flat {α : Type} {f : α → List Value} {l : List α} (hf : ∀ a ∈ l, NoRef (f a)) : NoRef (rowsC f l) := by
  induction l with
  | nil => intro v hv; simp [rowsC] at hv
  | cons a r ih => exact (hf a (by simp)).app (ih fun b hb => hf b (by simp [hb]))
theorem flat2 {k k' : IntKind} {a b : Int} : NoRef [.int k a, .int k' b] := by
  intro v hv n
  simp only [List.mem_cons, List.not_mem_nil, or_false] at hv
  rcases hv with rfl | rfl <;> exact old0_int
theorem flat_cs {k : IntKind} {l : List Int} : NoRef (cs k l) := by
  intro v hv n
  obtain ⟨a, _, rfl⟩ := List.mem_map.1 hv
  exact old0_int
theorem SlR.lo {H : Heap} {x : Value} {esz n : Nat} {vs : List Value} (h : SlR H x esz n vs) {lo : Nat} (h2 : lo ≤ n) {k' : IntKind} :
    ∃ y, slcAV H esz x (some (.int k' (lo : Int))) none none = some y ∧ SlR H y esz (n - lo) (vs.drop (lo * esz)) := by
  have hsz := h.size
  have e1 : lo * esz ≤ n * esz := Nat.mul_le_mul_right _ h2
  have hlen : (vs.drop (lo * esz)).length = (n - lo) * esz := by rw [Nat.sub_mul]; simp; omega
  rcases h.is with ⟨rfl, rfl⟩ | ⟨b, off, ver, cap, rfl, g2, g3, kk, g4, g5, g6⟩
  · obtain rfl : lo = 0 := by omega
    exact ⟨.slice none 0 0, by simp [slcAV, mxOf, bnds, bnd], hlen, .inl ⟨rfl, rfl⟩⟩
  · refine ⟨slc b (off + lo * esz) ver (n - lo) (cap - lo), ?_, hlen, .inr ⟨b, _, ver, _, rfl, by omega, ?_, kk, g4, g5, g6⟩⟩
    · rw [slcAV_get g4 g5 g6]; simp [bnds, bnd_nat h2]
    · have e2 : (n - lo) * esz + lo * esz = n * esz := by rw [← Nat.add_mul]; congr 1; omega
      rw [rd_part g3 (by omega), List.take_of_length_le (by omega)]
abbrev i8 (n : Int) : Prop := -128 ≤ n ∧ n ≤ 127
/-- A move. -/
def mvC (m : Int × Int) : List Value := [.int .i8 m.1, .int .i8 m.2]
def mvsC (l : List (Int × Int)) : List Value := rowsC mvC l
def mv (l : List (Int × Int)) (i : Nat) : Int × Int := at0 l i
theorem mvsC_length {l : List (Int × Int)} : (mvsC l).length = l.length * 2 := rows_length (f := mvC) (esz := 2) fun _ _ => rfl
theorem mvsC_elem {l : List (Int × Int)} {i : Nat} (hi : i < l.length) : elem (mvsC l) 2 i = mvC (mv l i) := rows_elem (f := mvC) (esz := 2) (fun _ _ => rfl) hi
theorem mvsC_flat {l : List (Int × Int)} : NoRef (mvsC l) := rows_flat fun _ _ => flat2
theorem stc2c {v w u x : Value} : stc (agg [v, w]) 0 [u, x] = some (agg [u, x]) := by simp [stc, agg, splice]
theorem ldc2 {v w : Value} : ldc 1 false (agg [v, w]) 0 = some v := by simp [ldc]
theorem ldc2b {v w : Value} : ldc 1 false (agg [v, w]) 1 = some w := by simp [ldc]
theorem SlR.get1 {H : Heap} {x : Value} {esz n : Nat} {vs : List Value} (h : SlR H x esz n vs) {i : Nat} (hi : i < n) : ∃ b off ver, idxAV esz x (.int .i64 (i : Int)) = some (adr b off ver) ∧ rd H b off ver esz = some (elem vs esz i) := by
  rcases h.is with ⟨rfl, rfl⟩ | ⟨b, off, ver, cap, rfl, h2, h3, _⟩
  · omega
  · exact ⟨b, _, ver, by rw [idxAV_slc, at_nat hi]; rfl, rd_part h3 (mul_next hi)⟩
def chC (m : Int × Int) : List Value := [.int .i8 m.1, .int .u16 m.2]
def chsC (l : List (Int × Int)) : List Value := rowsC chC l
theorem chsC_elem {l : List (Int × Int)} {i : Nat} (hi : i < l.length) : elem (chsC l) 2 i = chC (at0 l i) := rows_elem (f := chC) (esz := 2) (fun _ _ => rfl) hi
def chF : List Value := [.int .i8 (-101), .int .u16 60201]
theorem old0_slc {n0 b off ver len cap : Nat} : old0 n0 (slc b off ver len cap) = decide (b < n0) := Bool.true_and _
def ixFB1 (esz : Nat) (g : Bool) : Cd :=
  (.seq
   (.reg [9] [
     ⟨none, (some 9), .bin .lss (.t 8) (.t 7), []⟩])
   (.seq
    (.cond (.t 9)
     .skip
     (.exit 0))
    (.seq
     (.block 1
      (.seq
       (.reg [5] [
         ⟨none, (some 10), .mov (.t 8), []⟩,
         ⟨none, (some 5), .mov (.t 10), []⟩])
       (.seq
        (.reg [16] [
          ⟨none, (some 11), .mov (.t 1), []⟩,
          ⟨none, (some 12), .mov (.t 0), []⟩,
          ⟨none, (some 13), .mov (.t 5), []⟩,
          ⟨none, (some 14), .idxA esz (.t 12) (.t 13), []⟩,
          ⟨none, (some 15), .ld esz g (.t 14), []⟩,
          ⟨none, (some 16), .callv (.t 11) [.t 15], []⟩])
        (.cond (.t 16)
         (.seq
          (.reg [4] [
            ⟨none, (some 17), .mov (.t 5), []⟩,
            ⟨none, (some 4), .mov (.t 17), []⟩])
          .ret)
         .skip))))
     (.reg [8] [
       ⟨none, (some 18), .bin .add (.t 8) (.c (.int .i64 1)), []⟩,
       ⟨none, (some 8), .mov (.t 18), []⟩]))))
def ixFK (esz : Nat) (g : Bool) : Cd :=
  (.seq
   (.reg [4] [
     ⟨none, (some 4), .mov (.c (.int .i64 0)), []⟩])
   (.seq
    (.seq
     (.reg [7, 8] [
       ⟨none, (some 6), .mov (.t 0), []⟩,
       ⟨none, (some 7), .len (.t 6), []⟩,
       ⟨none, (some 8), .mov (.c (.int .i64 0)), []⟩])
     (.block 0
      (.loop (ixFB1 esz g))))
    (.seq
     (.reg [4] [
       ⟨none, (some 4), .mov (.c (.int .i64 (-1))), []⟩])
     .ret)))
def ixFC (esz : Nat) (g : Bool) : Fn := { np := 2, nt := 19, kind := .pure, res := [.t 4], body := ixFK esz g }
def ctFK (ix : Nat) : Cd :=
  (.seq
   (.reg [4] [
     ⟨none, (some 4), .mov (.c (.bool false)), []⟩])
   (.seq
    (.reg [4] [
      ⟨none, (some 5), .mov (.t 0), []⟩,
      ⟨none, (some 6), .mov (.t 1), []⟩,
      ⟨none, (some 7), .call true ix [.t 5, .t 6], []⟩,
      ⟨none, (some 8), .bin .geq (.t 7) (.c (.int .i64 0)), []⟩,
      ⟨none, (some 4), .mov (.t 8), []⟩])
    .ret))
def ctFC (ix : Nat) : Fn := { np := 2, nt := 9, kind := .pure, res := [.t 4], body := ctFK ix }
/-- The first place with p below n, or -1. -/
def findN (p : Nat → Bool) (n : Nat) : Int := match (List.range n).find? p with
  | some i => i
  | none => -1
def anyN (p : Nat → Bool) (n : Nat) : Bool := (List.range n).any p
theorem findN_some {p : Nat → Bool} {n i : Nat} (hi : i < n) (hn : ∀ j, j < i → p j = false) (hp : p i = true) : findN p n = i := by
  unfold findN
  have : (List.range n).find? p = some i := by
    rw [List.find?_range_eq_some]
    exact ⟨hp, by simpa using hi, fun j hj => by simpa using hn j hj⟩
  rw [this]
theorem findN_none {p : Nat → Bool} {n : Nat} (hn : ∀ j, j < n → p j = false) : findN p n = -1 := by
  unfold findN
  have : (List.range n).find? p = none := by
    rw [List.find?_eq_none]
    intro x hx
    simp [hn x (by simpa using hx)]
  rw [this]
theorem findN_ge {p : Nat → Bool} {n : Nat} : decide (0 ≤ findN p n) = anyN p n := by
  unfold findN anyN
  cases h : (List.range n).find? p with
  | none =>
    rw [List.find?_eq_none] at h
    have : (List.range n).any p = false := by rw [List.any_eq_false]; exact h
    rw [this]; decide
  | some i =>
    have h1 := List.find?_some h
    have : (List.range n).any p = true := List.any_eq_true.2 ⟨i, List.mem_of_find?_eq_some h, h1⟩
    rw [this]; simp
theorem ixF_call {f esz : Nat} {g : Bool} (hf : tab f = some (.fn (ixFC esz g))) {pu : Bool} {H : Heap} {x F : Value} {n : Nat} {vs : List Value} (hx : SlR H x esz n vs) (hn : n ≤ 9223372036854775806) {p : Nat → Bool}
    (hF : ∀ i, i < n → ∃ v, ldv g (elem vs esz i) = some v ∧ callV (Call tab) H F [v] = some (.bool (p i), H)) : Call tab pu f [x, F] H = some (.int .i64 (findN p n), H) := by
  refine Call_wp hf (.inr rfl) rfl ?_
  simp [ixFC, ixFK, hx.lenV]
  refine WP_forH 8 n n rfl (by omega) (fun i e => e 0 = x ∧ e 1 = F ∧ e 7 = .int .i64 n ∧ ∀ j, j < i → p j = false) ?_ ?_ (by simp) (by simp)
  · rintro i e hi hlt e4 h8 ⟨h0, h1, h7, hnp⟩
    obtain ⟨b, off, ver, ha, hr⟩ := hx.get1 hi
    obtain ⟨v, hv, hc⟩ := hF i hi
    cases hp : p i with
    | true =>
      rw [hp] at hc
      simp [ixFB1, h8, h0, h1, h7, hlt, ha, hr, hv, hc, findN_some hi hnp hp]
    | false =>
      rw [hp] at hc
      simp [ixFB1, h8, h0, h1, h7, hlt, ha, hr, hv, hc, e4]
      exact upto_succ hnp hp
  · rintro e h8 ⟨h0, h1, h7, hnp⟩
    simp [ixFB1, h8, h7, findN_none hnp]
theorem ctF_call {f ix esz : Nat} {g : Bool} (hf : tab f = some (.fn (ctFC ix))) (hf2 : tab ix = some (.fn (ixFC esz g))) {pu : Bool} {H : Heap} {x F : Value} {n : Nat} {vs : List Value} (hx : SlR H x esz n vs) (hn : n ≤ 9223372036854775806) {p : Nat → Bool}
    (hF : ∀ i, i < n → ∃ v, ldv g (elem vs esz i) = some v ∧ callV (Call tab) H F [v] = some (.bool (p i), H)) : Call tab pu f [x, F] H = some (.bool (anyN p n), H) := by
  refine Call_wp hf (.inr rfl) rfl ?_
  simp [ctFC, ctFK, ixF_call hf2 hx hn hF, findN_ge]
theorem s547 : tab 547 = some (.fn (ixFC 1 false)) := t547
theorem s445 : tab 445 = some (.fn (ctFC 547)) := t445
theorem s474 : tab 474 = some (.fn (ixFC 12 true)) := t474
theorem s505 : tab 505 = some (.fn (ctFC 474)) := t505
abbrev u16' (n : Int) : Prop := 0 ≤ n ∧ n ≤ 65535
/-- A frame's form. -/
structure FrW (f : List Int) : Prop where
  len : f.length = 12
  ok : ∀ n ∈ f, u16' n
theorem FrW.nth {f : List Int} (h : FrW f) {i : Nat} (hi : i < 12) : u16' (nth f i) := h.ok _ (nth_mem (by rw [h.len]; exact hi))
def okRow (n : Int) : Bool := decide (n ≤ 4095)
def okF (f : List Int) : Bool := f.all okRow
theorem okF_true {f : List Int} (hl : f.length = 12) (h : ∀ i, i < 12 → okRow (nth f i) = true) : okF f = true := all_nth fun j hj => h j (by omega)
theorem okF_false {f : List Int} (hl : f.length = 12) {i : Nat} (hi : i < 12) (h : okRow (nth f i) = false) : okF f = false := all_false (nth_mem (by omega)) h
theorem call359 {pu : Bool} {H : Heap} {b off ver : Nat} {f : List Int} (hl : f.length = 12) (hr : rd H b off ver 12 = some (cs .u16 f)) : Call tab pu 359 [adr b off ver] H = some (.bool (okF f), H) := by
  refine Call_wp t359 (.inr rfl) rfl ?_
  simp [c359, k359]
  refine WP_forH 3 12 12 rfl (by omega) (fun i e => e 0 = adr b off ver ∧ ∀ j, j < i → okRow (nth f j) = true) ?_ ?_ (by simp) (by simp)
  · rintro i e hi hlt e4 h3 ⟨h0, hn⟩
    have d1 := rd_one hr hi
    cases hk : okRow (nth f i) with
    | true =>
      have : ¬ (4095 < nth f i) := by simp [okRow] at hk; omega
      simp [b359_1, h3, h0, hlt, hi, d1, this, e4]
      exact upto_succ hn hk
    | false =>
      have : 4095 < nth f i := by simp [okRow] at hk; omega
      simp [b359_1, h3, h0, hlt, hi, d1, this, okF_false hl hi hk]
  · rintro e h3 ⟨h0, hn⟩
    simp [b359_1, h3, okF_true hl hn]
theorem call446 {pu : Bool} {H : Heap} {n : Int} : Call tab pu 446 [.int .u16 n] H = some (.bool (!okRow n), H) := by
  refine Call_wp t446 (.inr rfl) rfl ?_
  have : decide (4095 < n) = !okRow n := by unfold okRow; by_cases h : n ≤ 4095 <;> simp [h] <;> omega
  simp [c446, k446, this]
theorem anyN_okF {f : List Int} (hl : f.length = 12) : anyN (fun i => !okRow (nth f i)) 12 = !okF f := by
  cases hk : okF f with
  | true =>
    have : anyN (fun i => !okRow (nth f i)) 12 = false := by
      unfold anyN
      rw [List.any_eq_false]
      intro i hi
      have := List.all_eq_true.1 (show f.all okRow = true from hk) _ (nth_mem (i := i) (by rw [hl]; simpa using hi))
      simp [this]
    rw [this]; rfl
  | false =>
    obtain ⟨x, hx, hp⟩ := List.all_eq_false.1 (show f.all okRow = false from hk)
    obtain ⟨i, hi, rfl⟩ := mem_nth hx
    have : anyN (fun i => !okRow (nth f i)) 12 = true := List.any_eq_true.2 ⟨i, by simp; omega, by simpa using hp⟩
    rw [this]; rfl
theorem call234 {pu : Bool} {H : Heap} {f : List Int} (hl : f.length = 12) : Call tab pu 234 [iv .u16 f] H = some (.bool (okF f), H) := by
  refine Call_wp t234 (.inr rfl) rfl ?_
  obtain ⟨G, hG⟩ : ∃ G, G = H ++ [⟨cs .u16 f, 1, 0, false⟩] := ⟨_, rfl⟩
  have hT : G.take H.length = H := by rw [hG]; simp
  have hs : slcPV G 12 1 (adr H.length 0 0) = some (slc H.length 0 0 12 12) := by rw [hG]; exact slcP_last rfl rfl (by simp [hl])
  have hr : SlR G (slc H.length 0 0 12 12) 1 12 (cs .u16 f) := ⟨by simp [hl], .inr ⟨_, 0, 0, 12, rfl, Nat.le_refl _, by rw [hG]; exact rd_last rfl (by simp [hl]), _, by rw [hG]; exact get_last, rfl, rfl⟩⟩
  have hc := ctF_call s445 s547 (pu := true) (F := .func (.func 446) #[] #[]) (p := fun i => !okRow (nth f i)) hr (by omega) fun i hi => ⟨.int .u16 (nth f i), by
    unfold elem; rw [Nat.mul_one, cs_one (by omega)]; rfl, by simp [call446]⟩
  rw [anyN_okF hl] at hc
  simp [c234, k234, hl, ← hG, hT, hs, hc]
theorem call506 {pu : Bool} {H : Heap} {f : List Int} (hl : f.length = 12) : Call tab pu 506 [iv .u16 f] H = some (.bool (!okF f), H) := by
  refine Call_wp t506 (.inr rfl) rfl ?_
  simp [c506, k506, hl, call234 hl]
def frC (f : List Int) : List Value := cs .u16 f
def bkC (b : List (List Int)) : List Value := rowsC frC b
/-- A book's form. -/
def BkW (b : List (List Int)) : Prop := ∀ f ∈ b, FrW f
def fr (b : List (List Int)) (i : Nat) : List Int := at0 b i
theorem BkW.fr {b : List (List Int)} (h : BkW b) {i : Nat} (hi : i < b.length) : FrW (fr b i) := h _ (at0_mem hi)
theorem bkC_length {b : List (List Int)} (h : BkW b) : (bkC b).length = b.length * 12 := rows_length (f := frC) (esz := 12) fun f hf => by simp [frC, (h f hf).len]
theorem bkC_elem {b : List (List Int)} (h : BkW b) {i : Nat} (hi : i < b.length) : elem (bkC b) 12 i = cs .u16 (fr b i) := rows_elem (f := frC) (esz := 12) (fun f hf => by simp [frC, (h f hf).len]) hi
theorem bkC_flat {b : List (List Int)} : NoRef (bkC b) := rows_flat fun _ _ => flat_cs
/-- A book in memory. -/
abbrev Bk (H : Heap) (x : Value) (b : List (List Int)) : Prop := SlR H x 12 b.length (bkC b)
theorem Bk.get {H : Heap} {x : Value} {b : List (List Int)} (h : Bk H x b) (hw : BkW b) {i : Nat} (hi : i < b.length) : ∃ q off ver, idxAV 12 x (.int .i64 (i : Int)) = some (adr q off ver) ∧ rd H q off ver 12 = some (cs .u16 (fr b i)) := by
  obtain ⟨q, off, ver, h1, h2⟩ := SlR.get1 h hi
  rw [bkC_elem hw hi] at h2
  exact ⟨q, off, ver, h1, h2⟩
def okFs (b : List (List Int)) : Bool := b.all okF
def okB (b : List (List Int)) : Bool := okFs b && decide (b.length ≤ 40)
theorem okFs_true {b : List (List Int)} (h : ∀ i, i < b.length → okF (fr b i) = true) : okFs b = true := by
  rw [okFs, List.all_eq_true]
  intro f hf
  obtain ⟨i, hi, rfl⟩ := List.getElem_of_mem hf
  have := h i hi
  rwa [show fr b i = b[i] from Option.some.inj ((at0_get hi).symm.trans (List.getElem?_eq_getElem hi))] at this
theorem okFs_false {b : List (List Int)} {i : Nat} (hi : i < b.length) (h : okF (fr b i) = false) : okFs b = false := by
  rw [okFs, List.all_eq_false]
  exact ⟨_, at0_mem hi, by rw [show at0 b i = fr b i from rfl, h]; decide⟩
theorem okFs_nth {b : List (List Int)} (h : okFs b = true) {i : Nat} (hi : i < b.length) : okF (fr b i) = true := List.all_eq_true.1 (show b.all okF = true from h) _ (at0_mem hi)
theorem call318 {pu : Bool} {H : Heap} {x : Value} {b : List (List Int)} (h : Bk H x b) (hw : BkW b) (hn : b.length ≤ 9223372036854775806) : Call tab pu 318 [x] H = some (.bool (okB b), H) := by
  refine Call_wp t318 (.inr rfl) rfl ?_
  simp [c318, k318]
  refine WP_forH 3 b.length _ rfl (by omega) (fun i e => e 0 = x ∧ ∀ j, j < i → okF (fr b j) = true) ?_ ?_ (by simp) (by simp)
  · rintro i e hi hlt e4 h3 ⟨h0, hnp⟩
    obtain ⟨q, off, ver, ha, hr⟩ := h.get hw hi
    have hc := call359 (pu := true) (hw.fr hi).len hr
    cases hk : okF (fr b i) with
    | true =>
      rw [hk] at hc
      simp [b318_1, h3, h0, hlt, h.lenV, ha, hc, e4]
      exact upto_succ hnp hk
    | false =>
      rw [hk] at hc
      simp [b318_1, h3, h0, hlt, h.lenV, ha, hc, okB, okFs_false hi hk]
  · rintro e h3 ⟨h0, hnp⟩
    have e1 : decide ((b.length : Int) ≤ 40) = decide (b.length ≤ 40) := by apply decide_eq_decide.2; omega
    simp [b318_1, h3, h0, h.lenV, okB, okFs_true hnp, e1]
theorem anyN_okFs {b : List (List Int)} : anyN (fun i => !okF (fr b i)) b.length = !okFs b := by
  cases hk : okFs b with
  | true =>
    have : anyN (fun i => !okF (fr b i)) b.length = false := by
      unfold anyN
      rw [List.any_eq_false]
      intro i hi
      simp [okFs_nth hk (i := i) (by simpa using hi)]
    rw [this]; rfl
  | false =>
    obtain ⟨f, hf, hp⟩ := List.all_eq_false.1 (show b.all okF = false from hk)
    obtain ⟨i, hi, rfl⟩ := List.getElem_of_mem hf
    have : anyN (fun i => !okF (fr b i)) b.length = true := List.any_eq_true.2 ⟨i, by simpa using hi, by
      rw [show fr b i = b[i] from Option.some.inj ((at0_get hi).symm.trans (List.getElem?_eq_getElem hi))]; simpa using hp⟩
    rw [this]; rfl
theorem call351 {pu : Bool} {H : Heap} {x : Value} {b : List (List Int)} (h : Bk H x b) (hw : BkW b) (hn : b.length ≤ 9223372036854775806) : Call tab pu 351 [x] H = some (.bool (okFs b), H) := by
  refine Call_wp t351 (.inr rfl) rfl ?_
  have hc := ctF_call s505 s474 (pu := true) (F := .func (.func 506) #[] #[]) (p := fun i => !okF (fr b i)) h hn fun i hi => ⟨iv .u16 (fr b i), by rw [bkC_elem hw hi]; rfl, by simp [call506 (hw.fr hi).len]⟩
  rw [anyN_okFs] at hc
  simp [c351, k351, hc]
theorem call316 {pu : Bool} {H : Heap} {x : Value} {b : List (List Int)} (h : Bk H x b) (hw : BkW b) (hn : b.length ≤ 9223372036854775806) : Call tab pu 316 [x] H = some (.bool (okB b), H) := by
  refine Call_wp t316 (.inr rfl) rfl ?_
  by_cases h1 : b.length ≤ 40
  · have h2 : (b.length : Int) ≤ 40 := by omega
    simp [c316, k316, h.lenV, h2, call351 h hw hn, okB, h1]
  · have h2 : ¬ ((b.length : Int) ≤ 40) := by omega
    simp [c316, k316, h.lenV, h2, okB, h1, skip]
/-- A row told place by place. -/
def tabN (n : Nat) (g : Nat → Int) : List Int := (List.range n).map g
theorem tabN_length {n : Nat} {g : Nat → Int} : (tabN n g).length = n := by simp [tabN]
theorem nth_tabN {n : Nat} {g : Nat → Int} {i : Nat} (h : i < n) : nth (tabN n g) i = g i := by
  apply nth_of; simp [tabN, h]
theorem tabN_ext {n : Nat} {g h : Nat → Int} (e : ∀ i, i < n → g i = h i) : tabN n g = tabN n h := by
  apply List.map_congr_left
  intro i hi
  exact e i (by simpa using hi)
theorem tabN_of {n : Nat} {g : Nat → Int} {l : List Int} (hl : l.length = n) (e : ∀ i, i < n → nth l i = g i) : l = tabN n g :=
  ext_nth (by rw [hl, tabN_length]) fun i hi => by rw [e i (by omega), nth_tabN (by omega)]
theorem tabN_set {n : Nat} {g h : Nat → Int} {r : Nat} {v : Int} (hr : r < n) (hv : h r = v) (e : ∀ i, i < n → i ≠ r → g i = h i) : (tabN n g).set r v = tabN n h :=
  tabN_of (by simp [tabN_length]) fun i hi => by
    rw [nth_set (by rw [tabN_length]; exact hr)]
    split
    · rename_i h1; subst h1; exact hv.symm
    · rename_i h1; rw [nth_tabN hi, e i hi (Ne.symm h1)]
theorem zr_tabN {n : Nat} : zr n 0 = tabN n fun _ => 0 := tabN_of (by simp) fun i _ => nth_zr
/-- Two frames, row by row. -/
def mixF (op : Int → Int → Int) (a b : List Int) : List Int := tabN 12 fun j => op (nth a j) (nth b j)
theorem mixF_length {op : Int → Int → Int} {a b : List Int} : (mixF op a b).length = 12 := tabN_length
def mixZ (op : Int → Int → Int) (a b : List Int) (i : Nat) : List Int := tabN 12 fun j => if j < i then op (nth a j) (nth b j) else 0
theorem mixZ_length {op : Int → Int → Int} {a b : List Int} {i : Nat} : (mixZ op a b i).length = 12 := tabN_length
theorem mixZ_zero {op : Int → Int → Int} {a b : List Int} : mixZ op a b 0 = zr 12 0 := by rw [zr_tabN]; exact tabN_ext fun i _ => by simp
theorem mixZ_all {op : Int → Int → Int} {a b : List Int} : mixZ op a b 12 = mixF op a b := tabN_ext fun i hi => by rw [if_pos hi]
theorem mixZ_set {op : Int → Int → Int} {a b : List Int} {i : Nat} (h : i < 12) : (mixZ op a b i).set i (op (nth a i) (nth b i)) = mixZ op a b (i + 1) :=
  tabN_set h (by rw [if_pos (by omega)]) fun j _ hj => by
    by_cases h1 : j < i
    · rw [if_pos h1, if_pos (by omega)]
    · rw [if_neg h1, if_neg (by omega)]
def orI (a b : Int) : Int := bitsOf .or .u16 a b
def lessI (a b : Int) : Int := bitsOf .andNot .u16 a b
theorem lessI_eq {a b : Int} : bitsOf .andNot .u16 a b = lessI a b := rfl
def bkF : List Int := [60201, 0, 0, 0, 0, 0, 0, 0, 0, 0, 0, 0]
theorem eqCells_cs {k : IntKind} {n : Nat} {f g : List Int} (hf : f.length = n) (hg : g.length = n) : eqCells (rb n (some k)) (cs k f) (cs k g) = some (decide (f = g)) := by
  induction n generalizing f g with
  | zero =>
    obtain rfl := List.length_eq_zero_iff.1 hf
    obtain rfl := List.length_eq_zero_iff.1 hg
    simp [rb, cs, eqCells]
  | succ n ih =>
    obtain _ | ⟨a, f⟩ := f
    · cases hf
    obtain _ | ⟨b, g⟩ := g
    · cases hg
    have := ih (f := f) (g := g) (by simpa using hf) (by simpa using hg)
    simp only [rb, cs, List.replicate_succ, List.map_cons, eqCells, and_self, if_true] at this ⊢
    by_cases h : a = b
    · rw [if_pos h, this]; simp [h]
    · rw [if_neg h]; simp [h]
theorem eqV_iv {k : IntKind} {n : Nat} {f g : List Int} (hf : f.length = n) (hg : g.length = n) : eqV (.a (rb n (some k))) (iv k f) (iv k g) = some (decide (f = g)) := by
  show (if (cs k f).toArray.size = (rb n (some k)).length ∧ (cs k g).toArray.size = (rb n (some k)).length then eqCells (rb n (some k)) (cs k f).toArray.toList (cs k g).toArray.toList else none) = _
  rw [if_pos ⟨by simp [rb, hf], by simp [rb, hg]⟩]
  exact eqCells_cs hf hg
def allN (p : Nat → Bool) (n : Nat) : Bool := (List.range n).all p
theorem allN_get {p : Nat → Bool} {n : Nat} (h : allN p n = true) {i : Nat} (hi : i < n) : p i = true := List.all_eq_true.1 h i (by simpa using hi)
def okP (a b : Int) : Bool := decide (0 ≤ a ∧ a ≤ 11) && decide (0 ≤ b ∧ b ≤ 11)
theorem placeS {pu : Bool} {H : Heap} {a b : Int} : Call tab pu 342 [.int .i64 a, .int .i64 b] H = some (.bool (okP a b), H) := by
  refine Call_wp t342 (.inr rfl) rfl ?_
  have e1 : ∀ x : Int, (decide (0 ≤ x) && decide (x ≤ 11)) = decide (0 ≤ x ∧ x ≤ 11) := fun x => by simp
  cases h : decide (0 ≤ a ∧ a ≤ 11) <;> simp [c342, k342, call304, e1, h, okP, skip, -Bool.decide_and, -decide_eq_true_eq, -decide_eq_false_iff_not]
theorem placeI {pu : Bool} {H : Heap} {a b : Int} : Call tab pu 345 [.int .i64 a, .int .i64 b] H = some (.bool (okP a b), H) := by
  refine Call_wp t345 (.inr rfl) rfl ?_
  have e1 : ∀ x : Int, (decide (0 ≤ x) && decide (x ≤ 11)) = decide (0 ≤ x ∧ x ≤ 11) := fun x => by simp
  cases h : decide (0 ≤ a ∧ a ≤ 11) <;> simp [c345, k345, call295, e1, h, okP, skip, -Bool.decide_and, -decide_eq_true_eq, -decide_eq_false_iff_not]
theorem okP_get {a b : Int} (h : okP a b = true) : ∃ x y : Nat, a = x ∧ b = y ∧ x < 12 ∧ y < 12 := by
  simp [okP] at h
  exact ⟨a.toNat, b.toNat, by omega, by omega, by omega, by omega⟩
theorem Pre.set {H G : Heap} {b : Nat} {k : Blk} (p : Pre H G) (hb : H.length ≤ b) : Pre H (G.set b k) := by
  obtain ⟨L, rfl⟩ := p
  exact ⟨L.set (b - H.length) k, by rw [List.set_append_right _ _ hb]⟩
/-- A list of a call's own that grows. -/
def Gr (H G : Heap) (x : Value) (esz n : Nat) (vs : List Value) : Prop := ∃ b ver, x = slc b 0 ver n n ∧ G[b]? = some ⟨vs, esz, ver, false⟩ ∧ H.length ≤ b ∧ vs.length = n * esz ∧ Pre H G
theorem Gr.new {H G : Heap} {esz : Nat} (p : Pre H G) : Gr H (G ++ [⟨[], esz, 0, false⟩]) (slc G.length 0 0 0 0) esz 0 [] := ⟨_, _, rfl, get_last, p.len, by simp, p.app⟩
theorem Gr.pre {H G : Heap} {x : Value} {esz n : Nat} {vs : List Value} (g : Gr H G x esz n vs) : Pre H G := by obtain ⟨b, ver, _, _, _, _, p⟩ := g; exact p
theorem Gr.app {H G L : Heap} {x : Value} {esz n : Nat} {vs : List Value} (g : Gr H G x esz n vs) : Gr H (G ++ L) x esz n vs := by
  obtain ⟨b, ver, rfl, h1, h2, h3, h4⟩ := g
  exact ⟨b, ver, rfl, by rw [List.getElem?_append_left (List.getElem?_eq_some_iff.1 h1).1]; exact h1, h2, h3, h4.app⟩
theorem appendTo_grow {n0 : Nat} {wb : Bool} {G : Heap} {esz bytes b ver len n : Nat} {cs : List Value} {k : Blk} (h : G[b]? = some k) (hv : ver = k.ver) (hr : k.ro = false) (hm : may n0 wb b cs = true) (he : k.esz = esz) (hl : len * esz = k.cells.length) (hn : 0 < n)
    (hb : (len + n) * bytes ≤ roomMax) : appendTo n0 wb esz bytes G (slc b 0 ver len len) n cs = some (slc b 0 (ver + 1) (len + n) (len + n), G.set b { k with cells := k.cells ++ cs, ver := ver + 1 }) := by
  unfold appendTo slc
  simp only []
  rw [if_neg (by omega), h]
  simp only []
  exact if_pos ⟨hv, hr, hm, he, trivial, hl, hb⟩
theorem Gr.push {H G : Heap} {x : Value} {esz n bytes : Nat} {vs c : List Value} (g : Gr H G x esz n vs) (hc : c.length = esz) (hb : (n + 1) * bytes ≤ roomMax) {wb : Bool} :
    ∃ x' G', ((srcOf esz (G ++ [⟨c, esz, 0, false⟩]) (slc G.length 0 0 1 1)).bind fun q => appendTo H.length wb esz bytes (G ++ [⟨c, esz, 0, false⟩]) x q.1 q.2) = some (x', G') ∧ Gr H G' x' esz (n + 1) (vs ++ c) := by
  obtain ⟨b, ver, rfl, h1, h2, h3, h4⟩ := g
  have h1' : (G ++ [(⟨c, esz, 0, false⟩ : Blk)])[b]? = some ⟨vs, esz, ver, false⟩ := by rw [List.getElem?_append_left (List.getElem?_eq_some_iff.1 h1).1]; exact h1
  have e1 : srcOf esz (G ++ [⟨c, esz, 0, false⟩]) (slc G.length 0 0 1 1) = some (1, c) := by
    show (rd (G ++ [⟨c, esz, 0, false⟩]) G.length 0 0 (1 * esz)).map (fun cs => (1, cs)) = _
    rw [Nat.one_mul, rd_last rfl (by simpa using hc)]; rfl
  refine ⟨slc b 0 (ver + 1) (n + 1) (n + 1), (G ++ [(⟨c, esz, 0, false⟩ : Blk)]).set b ⟨vs ++ c, esz, ver + 1, false⟩, ?_, b, ver + 1, rfl, get_set h1', h2, by simp [h3, hc, Nat.succ_mul], (h4.app).set h2⟩
  rw [e1, Option.bind_some]
  exact appendTo_grow h1' rfl rfl (by simp [may, h2]) rfl h3.symm (by omega) hb
theorem fill_one {z : List Value} {v : Value} {esz : Nat} (hv : (cellsOf v).length = esz) (hz : z.length = esz) : fill (rep 1 z) [(0, esz, v)] = some (cellsOf v) := by
  have e1 : rep 1 z = z := by simp [rep]
  rw [e1]
  show (if (cellsOf v).length = esz ∧ 0 + esz ≤ z.length then fill (splice z 0 (cellsOf v)) [] else none) = _
  rw [if_pos ⟨hv, by omega⟩]
  have : splice z 0 (cellsOf v) = cellsOf v := by simp [splice, hv, ← hz]
  rw [this]; rfl
theorem Gr.fin {H G : Heap} {x : Value} {esz n : Nat} {vs : List Value} (g : Gr H G x esz n vs) (hn : NoRef vs) : finish H.length G [x] = (slc H.length 0 0 n n, H ++ [⟨vs, esz, 0, false⟩]) := by
  obtain ⟨b, ver, rfl, h1, h2, h3, h4⟩ := g
  exact finish_slc h4 h2 h1 rfl rfl hn.all
/- Has a frame a dot there? -/
def dotB (row : Int) (x : Nat) : Bool := decide ((row / bit x) % 2 = 1)
theorem shr_bit {row : Int} {x : Nat} (h : x < 12) : shiftOf .shr .u16 row (x : Int) = some (.int .u16 (row / bit x)) := by
  have hb := bit_ok h
  unfold shiftOf
  rw [if_neg (by omega)]
  have e1 : min ((x : Int).toNat) (IntKind.bits .u16) = x := by
    have : IntKind.bits .u16 = 16 := rfl
    omega
  simp only [e1]
  show some (Value.int .u16 (row.fdiv (bit x))) = _
  rw [Int.fdiv_eq_ediv_of_nonneg _ (by omega)]
theorem and_one {v : Int} (h : 0 ≤ v ∧ v ≤ 65535) : bitsOf .and .u16 v 1 = v % 2 := by
  obtain ⟨n, rfl⟩ := Int.eq_ofNat_of_zero_le h.1
  have e0 : IntKind.bits .u16 = 16 := rfl
  unfold bitsOf
  simp only []
  have e1 : (BitVec.ofInt (IntKind.bits .u16) (n : Int) &&& BitVec.ofInt (IntKind.bits .u16) 1).toNat = n % 2 := by
    have e2 : n % 2 ^ 16 = n := Nat.mod_eq_of_lt (by omega)
    rw [BitVec.toNat_and, e0, BitVec.ofInt_natCast, BitVec.toNat_ofNat, show (BitVec.ofInt 16 1).toNat = 1 from rfl, Nat.and_one_is_mod, e2]
  rw [e1, wrapu16 (by omega)]; omega
theorem row_div {row : Int} {x : Nat} (h : u16' row) (hx : x < 12) : 0 ≤ row / bit x ∧ row / bit x ≤ 65535 := by
  have hb := bit_ok hx
  have h1 : 0 ≤ row / bit x := Int.ediv_nonneg h.1 (by omega)
  have h2 : row / bit x ≤ row := Int.ediv_le_self _ h.1
  omega
theorem tmod_two {v : Int} (h : 0 ≤ v) : v.tmod 2 = v % 2 := Int.tmod_eq_emod_of_nonneg h
def hasF (f : List Int) (x y : Nat) : Bool := dotB (nth f y) x
theorem okP_nat {x y : Nat} (hx : x < 12) (hy : y < 12) : okP (x : Int) (y : Int) = true := by simp [okP]; omega
theorem call395 {pu : Bool} {H : Heap} {f : List Int} {x y : Nat} (hw : FrW f) (hx : x < 12) (hy : y < 12) : Call tab pu 395 [iv .u16 f, .int .i64 x, .int .i64 y] H = some (.bool (hasF f x y), H) := by
  refine Call_wp t395 (.inr rfl) rfl ?_
  have hl := hw.len
  have hd := row_div (hw.nth hy) hx
  have e1 : ((nth f y / bit x) % 2 == 1) = hasF f x y := rfl
  simp (disch := omega) [c395, k395, placeI, okP_nat hx hy, hy, hx, hl, shr_bit, and_one hd, e1]
theorem call456 {pu : Bool} {H : Heap} {q off ver : Nat} {f : List Int} {x y : Nat} (hw : FrW f) (hr : rd H q off ver 12 = some (cs .u16 f)) (hx : x < 12) (hy : y < 12) : Call tab pu 456 [adr q off ver, .int .i64 x, .int .i64 y] H = some (.bool (hasF f x y), H) := by
  refine Call_wp t456 (.inr rfl) rfl ?_
  have hd := row_div (hw.nth hy) hx
  have e1 : ((nth f y / bit x) % 2 == 1) = hasF f x y := rfl
  simp (disch := omega) [c456, k456, placeS, okP_nat hx hy, hy, hx, rd_one hr hy, shr_bit, tmod_two hd.1, e1]
/- The dots, one behind the other. -/
def hasK (f : List Int) (k : Nat) : Bool := hasF f (k % 12) (k / 12)
def dotL (f : List Int) (k : Nat) : List Nat := (List.range k).filter (hasK f)
def dotM (k : Nat) : Int × Int := (((k % 12 : Nat) : Int), ((k / 12 : Nat) : Int))
def dotC (f : List Int) (k : Nat) : List Value := mvsC ((dotL f k).map dotM)
theorem dotL_succ {f : List Int} {k : Nat} : dotL f (k + 1) = dotL f k ++ if hasK f k = true then [k] else [] := by
  rw [dotL, List.range_succ, List.filter_append, ← dotL]
  congr 1
  cases h : hasK f k <;> simp [h]
theorem hasK_yx {f : List Int} {x y : Nat} (hx : x < 12) : hasK f (y * 12 + x) = hasF f x y := by
  rw [hasK, show (y * 12 + x) % 12 = x by omega, show (y * 12 + x) / 12 = y by omega]
theorem dotM_yx {x y : Nat} (hx : x < 12) : dotM (y * 12 + x) = ((x : Int), (y : Int)) := by
  rw [dotM, show (y * 12 + x) % 12 = x by omega, show (y * 12 + x) / 12 = y by omega]
theorem mvsC_app {a b : List (Int × Int)} : mvsC (a ++ b) = mvsC a ++ mvsC b := by
  induction a with
  | nil => rfl
  | cons m r ih => simp only [mvsC, List.cons_append, rowsC, List.append_assoc] at ih ⊢; rw [ih]
theorem dotC_succ {f : List Int} {x y : Nat} (hx : x < 12) : dotC f (y * 12 + x + 1) = if hasF f x y = true then dotC f (y * 12 + x) ++ mvC ((x : Int), (y : Int)) else dotC f (y * 12 + x) := by
  unfold dotC
  rw [dotL_succ, hasK_yx hx]
  split
  · rw [List.map_append, mvsC_app]
    simp [mvsC, rowsC, dotM_yx hx]
  · simp
theorem dotL_len {f : List Int} {k : Nat} : (dotL f k).length ≤ k := by
  have := List.length_filter_le (hasK f) (List.range k)
  simpa [dotL] using this
theorem dotL_succ_len {f : List Int} {x y : Nat} (hx : x < 12) : (dotL f (y * 12 + x + 1)).length = if hasF f x y = true then (dotL f (y * 12 + x)).length + 1 else (dotL f (y * 12 + x)).length := by
  rw [dotL_succ, hasK_yx hx]
  split <;> simp
theorem call449 {pu : Bool} {H : Heap} {f : List Int} (hw : FrW f) : Call tab pu 449 [iv .u16 f] H = some (slc H.length 0 0 (dotL f 144).length (dotL f 144).length, H ++ [⟨dotC f 144, 2, 0, false⟩]) := by
  refine Call_wp t449 (.inr rfl) rfl ?_
  have hl := hw.len
  simp [c449, k449, fill, rep]
  refine WP_count 7 12 12 rfl (fun y e G => e 1 = iv .u16 f ∧ ∃ g, e 3 = g ∧ Gr H G g 2 (dotL f (y * 12)).length (dotC f (y * 12))) (by omega) ?_ ?_ (by simp) (by simp; exact Gr.new .refl)
  · rintro y e G _ hy hyy e4 h7 ⟨h1, g, h3, hg⟩
    simp [b449_2, h7, hyy]
    refine WP_count 10 12 12 rfl (fun x e G => e 1 = iv .u16 f ∧ e 4 = .int .i64 y ∧ e 7 = .int .i64 y ∧ ∃ g, e 3 = g ∧ Gr H G g 2 (dotL f (y * 12 + x)).length (dotC f (y * 12 + x))) (by omega) ?_ ?_ (by simp) (by simp [h1, h7, h3]; exact hg)
    · rintro x e G _ hx hxx e5 h10 ⟨h1, h4, h7, g, h3, hg⟩
      have hc := call395 (pu := true) (H := G) hw hx hy
      have hs := dotC_succ (f := f) (y := y) hx
      have hs2 := dotL_succ_len (f := f) (y := y) hx
      have hle := dotL_len (f := f) (k := y * 12 + x)
      have w1 : IntKind.wrap .i8 (x : Int) = x := wrap8 (by omega)
      have w2 : IntKind.wrap .i8 (y : Int) = y := wrap8 (by omega)
      cases hp : hasF f x y with
      | true =>
        rw [hp] at hc hs hs2
        rw [if_pos rfl] at hs hs2
        obtain ⟨g', G', hpush, hg'⟩ := hg.push (c := mvC ((x : Int), (y : Int))) (bytes := 2) rfl (by have : roomMax = 140737488355328 := rfl; omega) (wb := false)
        have hfa : fill [.int .i8 0, .int .i8 0] [(0, 1, .int .i8 (x : Int)), (1, 1, .int .i8 (y : Int))] = some (mvC ((x : Int), (y : Int))) := rfl
        have hf1 := fill_one (z := [.int .i8 0, .int .i8 0]) (v := agg (mvC ((x : Int), (y : Int)))) (esz := 2) rfl rfl
        simp [b449_1, h10, hxx, h1, h4, h7, h3, hl, hc, w1, w2, hfa, hf1, hpush, wbOf, e5, ← Nat.add_assoc, hs, hs2]
        exact hg'
      | false =>
        rw [hp] at hc hs hs2
        rw [if_neg (by simp)] at hs hs2
        simp [b449_1, h10, hxx, h1, h4, h7, h3, hl, hc, e5, ← Nat.add_assoc, hs, hs2]
        exact hg
    · rintro e G _ h10 ⟨h1, h4, h7, g, h3, hg⟩
      simp [b449_1, h10, h1, h7, h3, e4, Nat.add_mul]
      exact hg
  · rintro e G _ h7 ⟨h1, g, h3, hg⟩
    have := hg.fin mvsC_flat
    simp [b449_2, h7, h3, this]
def lum (v : Int) : Int := if 1000 < v + 64 then 1000 else v + 64
theorem lum_ok {v : Int} (h : 0 ≤ v ∧ v ≤ 1000) : 0 ≤ lum v ∧ lum v ≤ 1000 := by unfold lum; split <;> omega
def litL (l f : List Int) : List Int := tabN 144 fun p => if hasK f p = true then lum (nth l p) else nth l p
def litU (l f : List Int) (k : Nat) : List Int := tabN 144 fun p => if p < k ∧ hasK f p = true then lum (nth l p) else nth l p
theorem litU_zero {l f : List Int} (h : l.length = 144) : litU l f 0 = l := (tabN_of h fun i _ => by simp).symm
theorem litU_all {l f : List Int} : litU l f 144 = litL l f := tabN_ext fun i hi => by simp [hi]
theorem litU_nth {l f : List Int} {k : Nat} (h : k < 144) : nth (litU l f k) k = nth l k := by rw [litU, nth_tabN h, if_neg (by omega)]
theorem litU_set {l f : List Int} {k : Nat} (h : k < 144) (hp : hasK f k = true) : (litU l f k).set k (lum (nth l k)) = litU l f (k + 1) :=
  tabN_set h (by rw [if_pos ⟨by omega, hp⟩]) fun i _ hi => by
    by_cases h1 : i < k ∧ hasK f i = true
    · rw [if_pos h1, if_pos ⟨by omega, h1.2⟩]
    · rw [if_neg h1, if_neg fun h2 => h1 ⟨by omega, h2.2⟩]
theorem litU_skip {l f : List Int} {k : Nat} (hp : hasK f k = false) : litU l f k = litU l f (k + 1) :=
  tabN_ext fun i _ => by
    by_cases h1 : i < k ∧ hasK f i = true
    · rw [if_pos h1, if_pos ⟨by omega, h1.2⟩]
    · have h4 : i ≠ k → ¬ (i < k + 1 ∧ hasK f i = true) := fun hne h2 => h1 ⟨by omega, h2.2⟩
      by_cases h3 : i = k
      · subst h3; rw [if_neg h1, if_neg (by simp [hp])]
      · rw [if_neg h1, if_neg (h4 h3)]
theorem call511 {pu : Bool} {H : Heap} {a b : Int} : Call tab pu 511 [.int .i64 a, .int .i64 b] H = some (.int .i64 (if a < b then a else b), H) := by
  refine Call_wp t511 (.inr rfl) rfl ?_
  by_cases h : a < b <;> simp [c511, k511, h]
theorem okAll_fad {l : List Int} {keep : Int} (h : okAll l = true) (h0 : 0 ≤ keep) (h8 : keep ≤ 8) : okAll (l.map (fad keep)) = true := by
  refine all_nth fun j hj => ?_
  have hj : j < l.length := by simpa using hj
  obtain ⟨f1, f2, _⟩ := fad_ok h0 h8 (okAll_nth h hj)
  rw [nth_map hj]
  simp [okL]; omega
theorem call360 {pu : Bool} {H : Heap} {l f : List Int} {q off ver : Nat} {keep : Int} (hl : l.length = 144) (hk : okAll l = true) (hw : FrW f) (hr : rd H q off ver 12 = some (cs .u16 f)) (h0 : 0 ≤ keep) (h8 : keep ≤ 8) :
    Call tab pu 360 [iv .i16 l, adr q off ver, .int .i64 keep] H = some (iv .i16 (litL (l.map (fad keep)) f), H) := by
  refine Call_wp t360 (.inr rfl) rfl ?_
  have hc := call300 (pu := true) (H := H) hl hk h0 h8
  obtain ⟨m, hm⟩ : ∃ m, m = l.map (fad keep) := ⟨_, rfl⟩
  rw [← hm] at hc
  have hml : m.length = 144 := by rw [hm]; simp [hl]
  have hmk : okAll m = true := by rw [hm]; exact okAll_fad hk h0 h8
  have hst : stc (iv .i16 l) 0 (cs .i16 m) = some (iv .i16 m) := stc_all (by rw [hl, hml])
  simp [c360, k360, zs_cs, agg_cs, hl, hc, ← hm, hml, hst]
  refine WP_forH 7 12 12 rfl (by omega) (fun y e => e 1 = adr q off ver ∧ e 6 = iv .i16 (zr 144 0) ∧ e 3 = iv .i16 (litU m f (y * 12))) ?_ ?_ (by simp) (by simp [litU_zero hml])
  · rintro y e hy hyy e5 h7 ⟨h1, h6, h3⟩
    simp [b360_2, h7, hyy]
    refine WP_forH 8 12 12 rfl (by omega) (fun x e => e 1 = adr q off ver ∧ e 6 = iv .i16 (zr 144 0) ∧ e 7 = .int .i64 y ∧ e 3 = iv .i16 (litU m f (y * 12 + x))) ?_ ?_ (by simp) (by simp [h1, h6, h7, h3])
    · rintro x e hx hxx e9 h8 ⟨h1, h6, h7, h3⟩
      have h77 := step12 hx hy
      have hc := call456 (pu := true) (H := H) hw hr hx hy
      have hn := okAll_nth hmk (i := y * 12 + x) (by omega)
      have hlm := lum_ok hn
      have hK := hasK_yx (f := f) (y := y) hx
      have hul : (litU m f (y * 12 + x)).length = 144 := tabN_length
      have hd : ldc 1 false (iv .i16 (litU m f (y * 12 + x))) (y * 12 + x) = some (.int .i16 (nth m (y * 12 + x))) := by rw [ldc_iv1 (by omega), litU_nth h77]
      cases hp : hasF f x y with
      | true =>
        rw [hp] at hc hK
        have e10 := stc_at (k := .i16) (l := litU m f (y * 12 + x)) (by omega) (litU_set h77 hK)
        have e11 : IntKind.wrap .i16 (lum (nth m (y * 12 + x))) = lum (nth m (y * 12 + x)) := wrap16 (by omega)
        have e12 : (if 1000 < nth m (y * 12 + x) + 64 then 1000 else nth m (y * 12 + x) + 64) = lum (nth m (y * 12 + x)) := rfl
        simp (disch := omega) [b360_1, h8, h1, h6, h7, h3, hxx, hx, hy, hc, hd, call511, e12, e11, e10, e9, ← Nat.add_assoc]
      | false =>
        rw [hp] at hc hK
        simp (disch := omega) [b360_1, h8, h1, h6, h7, h3, hxx, hc, e9, ← Nat.add_assoc, litU_skip hK]
    · rintro e h8 ⟨h1, h6, h7, h3⟩
      simp [b360_1, h8, h1, h6, h7, h3, e5, Nat.add_mul]
  · rintro e h7 ⟨h1, h6, h3⟩
    have hul : (litL m f).length = 144 := tabN_length
    have hz := stc_zr (k := .i16) hul
    simp [b360_2, h7, h6, h3, litU_all, hul, hz, agg_cs]
def litD (l f : List Int) (j : Nat) : List Int := tabN 144 fun p => if p ∈ (dotL f 144).take j then lum (nth l p) else nth l p
theorem dotL_nodup {f : List Int} {k : Nat} : (dotL f k).Nodup := List.nodup_range.sublist List.filter_sublist
theorem dotL_at {f : List Int} {j : Nat} (h : j < (dotL f 144).length) : ∃ y x, at0 (dotL f 144) j = y * 12 + x ∧ y < 12 ∧ x < 12 ∧ y * 12 + x ∉ (dotL f 144).take j ∧ (dotL f 144).take (j + 1) = (dotL f 144).take j ++ [y * 12 + x] := by
  have hm := at0_mem h
  have h1 : at0 (dotL f 144) j < 144 := by
    have := List.mem_filter.1 (show at0 (dotL f 144) j ∈ (List.range 144).filter (hasK f) from hm)
    simpa using this.1
  have hg := at0_get h
  have ht : (dotL f 144).take (j + 1) = (dotL f 144).take j ++ [at0 (dotL f 144) j] := by
    rw [List.take_add_one, hg]; rfl
  have hnd : ((dotL f 144).take (j + 1)).Nodup := dotL_nodup.sublist (List.take_sublist _ _)
  rw [ht] at hnd
  have hni : at0 (dotL f 144) j ∉ (dotL f 144).take j := fun hi => by
    rw [List.nodup_append] at hnd
    exact hnd.2.2 _ hi _ (by simp) rfl
  refine ⟨at0 (dotL f 144) j / 12, at0 (dotL f 144) j % 12, by omega, by omega, by omega, ?_, ?_⟩
  · rw [show at0 (dotL f 144) j / 12 * 12 + at0 (dotL f 144) j % 12 = at0 (dotL f 144) j by omega]; exact hni
  · rw [show at0 (dotL f 144) j / 12 * 12 + at0 (dotL f 144) j % 12 = at0 (dotL f 144) j by omega]; exact ht
theorem mv_map {α : Type} [Inhabited α] {g : α → Int × Int} {l : List α} {i : Nat} (h : i < l.length) : mv (l.map g) i = g (at0 l i) := by
  have h2 := at0_get (l := l.map g) (i := i) (by simpa using h)
  rw [List.getElem?_map, at0_get h] at h2
  exact (Option.some.inj h2).symm
theorem call361 {pu : Bool} {H : Heap} {l f : List Int} (hl : l.length = 144) (hk : okAll l = true) (hw : FrW f) : Call tab pu 361 [iv .i16 l, iv .u16 f] H = some (iv .i16 (litL l f), H) := by
  refine Call_wp t361 (.inr rfl) rfl ?_
  have hc := call449 (pu := true) (H := H) hw
  obtain ⟨G, hG⟩ : ∃ G, G = H ++ [⟨dotC f 144, 2, 0, false⟩] := ⟨_, rfl⟩
  have hT : G.take H.length = H := by rw [hG]; simp
  rw [← hG] at hc
  have hcl : (dotC f 144).length = (dotL f 144).length * 2 := by rw [dotC, mvsC_length]; simp
  have hs : SlR G (slc H.length 0 0 (dotL f 144).length (dotL f 144).length) 2 (dotL f 144).length (dotC f 144) :=
    ⟨hcl, .inr ⟨_, 0, 0, _, rfl, Nat.le_refl _, by rw [hG]; exact rd_last rfl hcl, _, by rw [hG]; exact get_last, rfl, rfl⟩⟩
  have hle := dotL_len (f := f) (k := 144)
  obtain ⟨x0, hx0⟩ : ∃ x0, x0 = slc H.length 0 0 (dotL f 144).length (dotL f 144).length := ⟨_, rfl⟩
  rw [← hx0] at hc hs
  have hzero : litD l f 0 = l := (tabN_of hl fun i _ => by simp).symm
  simp [c361, k361, zs_cs, agg_cs, hw.len, hc, hs.lenV]
  refine WP_forH 10 (dotL f 144).length _ rfl (by omega) (fun j e => e 8 = x0 ∧ e 9 = .int .i64 (dotL f 144).length ∧ e 4 = iv .i16 (zr 144 0) ∧ e 2 = iv .i16 (litD l f j)) ?_ ?_ (by simp) (by simp [hzero])
  · rintro j e hj hjj e5 h10 ⟨h8, h9, h4, h2⟩
    obtain ⟨y, x, hp, hy, hx, hni, htk⟩ := dotL_at hj
    obtain ⟨b, off, ver, ha, hr⟩ := hs.get1 hj
    have hel : elem (dotC f 144) 2 j = mvC ((x : Int), (y : Int)) := by
      rw [dotC, mvsC_elem (by simpa using hj), mv_map hj, hp, dotM_yx hx]
    rw [hel] at hr
    have h77 := step12 hx hy
    have hn := okAll_nth hk (i := y * 12 + x) (by omega)
    have hlm := lum_ok hn
    have hul : (litD l f j).length = 144 := tabN_length
    have hnt : nth (litD l f j) (y * 12 + x) = nth l (y * 12 + x) := by rw [litD, nth_tabN h77, if_neg hni]
    have hset : (litD l f j).set (y * 12 + x) (lum (nth l (y * 12 + x))) = litD l f (j + 1) := tabN_set h77 (by rw [htk]; simp) fun i _ hi => by
      rw [htk]
      by_cases h1 : i ∈ (dotL f 144).take j
      · rw [if_pos h1, if_pos (by simp [h1])]
      · rw [if_neg h1, if_neg (by simp [h1, hi])]
    have e10 := stc_at (k := .i16) (l := litD l f j) (by omega) hset
    have e12 : (if nth l (y * 12 + x) + 64 < 1000 then nth l (y * 12 + x) + 64 else 1000) = lum (nth l (y * 12 + x)) := by unfold lum; split <;> split <;> omega
    have hd : ldc 1 false (iv .i16 (litD l f j)) (y * 12 + x) = some (.int .i16 (nth l (y * 12 + x))) := by rw [ldc_iv1 (by omega), hnt]
    simp (disch := omega) [b361_1, h10, h8, h9, h4, h2, hjj, ha, hr, mvC, stc2c, ldc2, ldc2b, hx, hy, hd, e12, e10, e5]
  · rintro e h10 ⟨h8, h9, h4, h2⟩
    have hall : litD l f (dotL f 144).length = litL l f := tabN_ext fun p hp => by
      rw [List.take_length]
      have : p ∈ dotL f 144 ↔ hasK f p = true := by simp [dotL, hp]
      by_cases h1 : hasK f p = true
      · rw [if_pos h1, if_pos (this.2 h1)]
      · rw [if_neg h1, if_neg fun h2 => h1 (this.1 h2)]
    have hul : (litL l f).length = 144 := tabN_length
    have hz := stc_zr (k := .i16) hul
    simp [b361_1, h10, h9, h4, h2, hall, hul, hz, agg_cs, hT]
def lbyR (l f : List Int) (keep : Int) : Value := if okAll l = true ∧ okF f = true then if 0 ≤ keep ∧ keep ≤ 8 then lightR (litL (l.map (fad keep)) f) 0 else lightR (zr 144 0) 2 else lightR (zr 144 0) 1
theorem zz144 : stc (iv .i16 (zr 144 0)) 0 (cs .i16 (zr 144 0)) = some (iv .i16 (zr 144 0)) := stc_zr (by simp)
theorem call133 {pu : Bool} {H : Heap} {l f : List Int} {keep : Int} (hl : l.length = 144) (hlw : ∀ n ∈ l, i16 n) (hw : FrW f) : Call tab pu 133 [iv .i16 l, iv .u16 f, .int .i64 keep] H = some (lbyR l f keep, H) := by
  refine Call_wp t133 (.inr rfl) rfl ?_
  obtain ⟨G1, hG1⟩ : ∃ G, G = H ++ [⟨cs .i16 l, 1, 0, false⟩] := ⟨_, rfl⟩
  obtain ⟨G, hG⟩ : ∃ G, G = G1 ++ [⟨cs .u16 f, 1, 0, false⟩] := ⟨_, rfl⟩
  have hT : G.take H.length = H := by rw [hG, hG1]; simp
  have hr : rd G H.length 0 0 144 = some (cs .i16 l) := by rw [hG, hG1]; exact rd_app (rd_last rfl (by simp [hl]))
  have hr2 : rd G G1.length 0 0 12 = some (cs .u16 f) := by rw [hG]; exact rd_last rfl (by simp [hw.len])
  have hc := call291 (pu := true) hl hlw hr
  have hc2 := call359 (pu := true) hw.len hr2
  cases hk : okAll l with
  | false => simp [c133, k133, hl, hw.len, ← hG1, ← hG, hT, hc, hk, zs_cs, agg_cs, fill, zz144, lbyR, lightR, skip]
  | true =>
    cases hkf : okF f with
    | false => simp [c133, k133, hl, hw.len, ← hG1, ← hG, hT, hc, hk, hc2, hkf, zs_cs, agg_cs, fill, zz144, lbyR, lightR, skip]
    | true =>
      by_cases hb : 0 ≤ keep ∧ keep ≤ 8
      · have hc3 := call360 (pu := true) hl hk hw hr2 hb.1 hb.2
        have hul : (litL (l.map (fad keep)) f).length = 144 := tabN_length
        have hz := stc_zr (k := .i16) hul
        simp [c133, k133, hl, hw.len, ← hG1, ← hG, hT, hc, hk, hc2, hkf, zs_cs, agg_cs, fill, call299, hb, hr, hc3, hul, hz, lbyR, lightR, skip]
      · have hb' : (decide (0 ≤ keep) && decide (keep ≤ 8)) = false := by simpa using hb
        simp [c133, k133, hl, hw.len, ← hG1, ← hG, hT, hc, hk, hc2, hkf, zs_cs, agg_cs, fill, call299, hb, hb', zz144, lbyR, lightR, skip]
theorem call135 {pu : Bool} {H : Heap} {l f : List Int} {keep : Int} (hl : l.length = 144) (hlw : ∀ n ∈ l, i16 n) (hw : FrW f) : Call tab pu 135 [iv .i16 l, iv .u16 f, .int .i64 keep] H = some (lbyR l f keep, H) := by
  refine Call_wp t135 (.inr rfl) rfl ?_
  have hc := call63 (pu := true) (H := H) hl hlw
  have hc2 := call234 (pu := true) (H := H) hw.len
  cases hk : okAll l with
  | false => simp [c135, k135, hl, hc, hk, zs_cs, agg_cs, fill, zz144, lbyR, lightR, skip]
  | true =>
    cases hkf : okF f with
    | false => simp [c135, k135, hl, hw.len, hc, hk, hc2, hkf, zs_cs, agg_cs, fill, zz144, lbyR, lightR, skip]
    | true =>
      by_cases hb : 0 ≤ keep ∧ keep ≤ 8
      · have hc3 := call302 (pu := true) (H := H) hl hk hb.1 hb.2
        have hc4 := call361 (pu := true) (H := H) (l := l.map (fad keep)) (by simp [hl]) (okAll_fad hk hb.1 hb.2) hw
        have hul : (litL (l.map (fad keep)) f).length = 144 := tabN_length
        have hz := stc_zr (k := .i16) hul
        simp [c135, k135, hl, hw.len, hc, hk, hc2, hkf, zs_cs, agg_cs, fill, call301, hb, hc3, hc4, hul, hz, lbyR, lightR, skip]
      · have hb' : (decide (0 ≤ keep) && decide (keep ≤ 8)) = false := by simpa using hb
        simp [c135, k135, hl, hw.len, hc, hk, hc2, hkf, zs_cs, agg_cs, fill, call301, hb, hb', zz144, lbyR, lightR, skip]
theorem dotB_bit {n x : Nat} : dotB (n : Int) x = n.testBit x := by
  unfold dotB bit
  rw [Nat.testBit_eq_decide_div_mod_eq]
  apply decide_eq_decide.2
  have : ((n : Int) / 2 ^ x) = ((n / 2 ^ x : Nat) : Int) := by rw [Int.natCast_ediv]; simp
  rw [this]; omega
theorem okF_row {f : List Int} (h : okF f = true) (hw : FrW f) {y : Nat} (hy : y < 12) : ∃ n : Nat, nth f y = n ∧ n < 4096 := by
  have h1 := hw.nth hy
  have h2 := List.all_eq_true.1 (show f.all okRow = true from h) _ (nth_mem (i := y) (by rw [hw.len]; exact hy))
  simp [okRow] at h2
  exact ⟨(nth f y).toNat, by omega, by omega⟩
end Fb
