/- What each function computes. -/
import Derived.Test.YtjfmgpnkippbpaaTab
import Derived.Test.YtjfmgpnkippbpaaPl
set_option linter.unusedVariables false
set_option linter.unusedSimpArgs false
namespace Fb
open Go
theorem call304 {pu : Bool} {a b c : Int} {H : Heap} : Call tab pu 304 [.int .i64 a, .int .i64 b, .int .i64 c] H = some (.bool (decide (b ≤ a ∧ a ≤ c)), H) := by
  refine Call_wp t304 (.inr rfl) rfl ?_
  by_cases h : b ≤ a <;> simp [c304, k304, h, skip]
theorem call295 {pu : Bool} {a b c : Int} {H : Heap} : Call tab pu 295 [.int .i64 a, .int .i64 b, .int .i64 c] H = some (.bool (decide (b ≤ a ∧ a ≤ c)), H) := by
  refine Call_wp t295 (.inr rfl) rfl ?_
  by_cases h : b ≤ a <;> simp [c295, k295, h, skip]
/-- A number that fits. -/
abbrev i16 (n : Int) : Prop := -32768 ≤ n ∧ n ≤ 32767
def okL (n : Int) : Bool := decide (0 ≤ n ∧ n ≤ 1000)
def okAll (l : List Int) : Bool := l.all okL
theorem call294 {pu : Bool} {n : Int} {H : Heap} (h : i16 n) : Call tab pu 294 [.int .i16 n] H = some (.bool (!okL n), H) := by
  refine Call_wp t294 (.inr rfl) rfl ?_
  simp (disch := omega) [c294, k294, okL, call295]
theorem call292 {pu : Bool} {H : Heap} {l : List Int} (hl : l.length = 12) : Call tab pu 292 [iv .i16 l] H = some (iv .i16 l, H) := by
  refine Call_wp t292 (.inr rfl) rfl ?_
  simp [c292, k292, zs_cs, agg_cs]
  refine WP_count 4 12 12 rfl (fun i e H' => H' = H ∧ e 1 = iv .i16 l ∧ e 3 = iv .i16 (cp l i) ∧ e 2 = iv .i16 (zr 12 0)) (by decide) ?_ ?_ (by simp) (by simp [cp_zero hl])
  · rintro i e' H' hf hi hx e4 h4 ⟨rfl, h1, h3, h2⟩
    have e5 : stc (iv .i16 (cp l i)) i [.int .i16 (nth l i)] = some (iv .i16 (cp l (i + 1))) := by rw [stc_one (by rw [cp_length] <;> omega) rfl, cp_set (by omega)]
    simp (disch := first | omega | assumption) [b292_1, h4, h1, h3, h2, hx, hi, e4, hl, e5]
  · rintro e' H' hf h4 ⟨rfl, h1, h3, h2⟩
    have e5 : stc (iv .i16 (zr 12 0)) 0 (cs .i16 l) = some (iv .i16 l) := stc_all (by simp [hl])
    simp (disch := first | omega | assumption) [b292_1, h4, h3, h2, hl, e5, agg_cs, cp_all hl]
theorem call62 {pu : Bool} {H : Heap} {l : List Int} (hl : l.length = 144) : Call tab pu 62 [iv .i16 l] H = some (iv .i16 l, H) := by
  refine Call_wp t62 (.inr rfl) rfl ?_
  simp [c62, k62, zs_cs, agg_cs]
  refine WP_count 4 12 12 rfl (fun i e H' => H' = H ∧ e 1 = iv .i16 l ∧ e 3 = iv .i16 (cp l (i * 12)) ∧ e 2 = iv .i16 (zr 144 0)) (by decide) ?_ ?_ (by simp) (by simp [cp_zero hl])
  · rintro i e' H' hf hi hx e4 h4 ⟨rfl, h1, h3, h2⟩
    have hs := sub_length (l := l) (o := i * 12) (n := 12) (by omega)
    have e5 : stc (iv .i16 (cp l (i * 12))) (i * 12) (cs .i16 (sub l (i * 12) 12)) = some (iv .i16 (cp l ((i + 1) * 12))) := by
      rw [stc_cs (by rw [cp_length] <;> omega), cp_wrt (by omega), Nat.succ_mul]
    simp (disch := first | omega | assumption) [b62_1, h4, h1, h3, h2, hx, hi, e4, hl, e5, ldc_sub, call292, hs]
  · rintro e' H' hf h4 ⟨rfl, h1, h3, h2⟩
    have e5 : stc (iv .i16 (zr 144 0)) 0 (cs .i16 l) = some (iv .i16 l) := stc_all (by simp [hl])
    simp (disch := first | omega | assumption) [b62_1, h4, h3, h2, hl, e5, agg_cs, cp_all hl]
/-- The first place of a number with p, or -1. -/
def findI (p : Int → Bool) (l : List Int) : Int := match l.findIdx? p with
  | some i => i
  | none => -1
theorem findI_spec {p : Int → Bool} {l : List Int} {i : Nat} (hi : i < l.length) (hn : ∀ j, j < i → p (nth l j) = false) (hp : p (nth l i) = true) : findI p l = i := by
  have e : ∀ j (h : j < l.length), nth l j = l[j] := fun j h => nth_of (List.getElem?_eq_getElem h)
  have : l.findIdx? p = some i := by
    rw [List.findIdx?_eq_some_iff_getElem]
    refine ⟨hi, by rw [← e]; exact hp, fun j hj => ?_⟩
    have := hn j hj
    rw [e j (by omega)] at this
    simpa using this
  unfold findI
  rw [this]
theorem findI_none {p : Int → Bool} {l : List Int} (hn : ∀ j, j < l.length → p (nth l j) = false) : findI p l = -1 := by
  have : l.findIdx? p = none := by
    rw [List.findIdx?_eq_none_iff]
    intro x hx
    obtain ⟨j, hj, rfl⟩ := mem_nth hx
    exact hn j hj
  unfold findI
  rw [this]
theorem findI_ge {p : Int → Bool} {l : List Int} : decide (0 ≤ findI p l) = l.any p := by
  unfold findI
  cases h : l.findIdx? p with
  | none =>
    rw [List.findIdx?_eq_none_iff] at h
    have : l.any p = false := by rw [List.any_eq_false]; intro x hx; simp [h x hx]
    rw [this]; decide
  | some i =>
    rw [List.findIdx?_eq_some_iff_getElem] at h
    obtain ⟨hi, hp, _⟩ := h
    have : l.any p = true := List.any_eq_true.2 ⟨_, List.getElem_mem hi, hp⟩
    rw [this]; simp
theorem upto_succ {p : Nat → Prop} {i : Nat} (h : ∀ j, j < i → p j) (hi : p i) : ∀ j, j < i + 1 → p j := by
  intro j hj
  rcases Nat.lt_or_ge j i with h1 | h1
  · exact h j h1
  · obtain rfl : j = i := by omega
    exact hi
theorem call487 {pu : Bool} {H : Heap} {b off ver cap : Nat} {l : List Int} {F : Value} {p : Int → Bool} (hr : rd H b off ver l.length = some (cs .i16 l)) (hlen : l.length ≤ 1152921504606846976)
    (hF : ∀ n ∈ l, callV (Call tab) H F [.int .i16 n] = some (.bool (p n), H)) : Call tab pu 487 [slc b off ver l.length cap, F] H = some (.int .i64 (findI p l), H) := by
  refine Call_wp t487 (.inr rfl) rfl ?_
  simp [c487, k487]
  refine WP_count 8 l.length _ rfl (fun i e H' => H' = H ∧ e 7 = .int .i64 (l.length : Int) ∧ e 0 = slc b off ver l.length cap ∧ e 1 = F ∧ ∀ j, j < i → p (nth l j) = false) (by omega) ?_ ?_ (by simp) (by simp)
  · rintro i e' _ hf hi hx e4 h8 ⟨rfl, h7, h0, h1, hn⟩
    have hm := hF _ (nth_mem hi)
    cases hp : p (nth l i) with
    | true =>
      rw [hp] at hm
      simp (disch := first | omega | assumption) [b487_1, h8, h7, h0, h1, hx, rd_one hr, hi, hm, findI_spec hi hn hp]
    | false =>
      rw [hp] at hm
      simp (disch := first | omega | assumption) [b487_1, h8, h7, h0, h1, hx, rd_one hr, hi, hm]
      exact upto_succ hn hp
  · rintro e' _ hf h8 ⟨rfl, h7, h0, h1, hn⟩
    simp [b487_1, h8, h7, findI_none hn]
theorem call293 {pu : Bool} {H : Heap} {b off ver cap : Nat} {l : List Int} {F : Value} {p : Int → Bool} (hr : rd H b off ver l.length = some (cs .i16 l)) (hlen : l.length ≤ 1152921504606846976)
    (hF : ∀ n ∈ l, callV (Call tab) H F [.int .i16 n] = some (.bool (p n), H)) : Call tab pu 293 [slc b off ver l.length cap, F] H = some (.bool (l.any p), H) := by
  refine Call_wp t293 (.inr rfl) rfl ?_
  simp [c293, k293, call487 hr hlen hF, findI_ge]
/-- Rows of 12. -/
theorem rows_all {l : List Int} (hl : l.length = 144) {p : Int → Bool} (h : ∀ r, r < 12 → (sub l (r * 12) 12).all p = true) : l.all p = true := by
  refine all_nth fun j hj => ?_
  have h1 := h (j / 12) (by omega)
  rw [List.all_eq_true] at h1
  have := h1 (nth (sub l (j / 12 * 12) 12) (j % 12)) (nth_mem (by rw [sub_length] <;> omega))
  rwa [nth_sub (by omega), show j / 12 * 12 + j % 12 = j by omega] at this
theorem any_not {l : List Int} {p : Int → Bool} : (l.any fun n => !p n) = !l.all p := by induction l <;> simp_all
theorem all_false {l : List Int} {p : Int → Bool} {x : Int} (h : x ∈ l) (hp : p x = false) : l.all p = false := by
  rw [List.all_eq_false]; exact ⟨x, h, by simp [hp]⟩
theorem okAll_rows {l : List Int} (hl : l.length = 144) (h : ∀ r, r < 12 → okAll (sub l (r * 12) 12) = true) : okAll l = true := rows_all hl h
theorem call63 {pu : Bool} {H : Heap} {l : List Int} (hl : l.length = 144) (hw : ∀ n ∈ l, i16 n) : Call tab pu 63 [iv .i16 l] H = some (.bool (okAll l), H) := by
  refine Call_wp t63 (.inr rfl) rfl ?_
  simp [c63, k63, hl]
  refine WP_count 6 12 12 rfl (fun i e H' => e 5 = iv .i16 l ∧ Pre H H' ∧ ∀ j, j < i → okAll (sub l (j * 12) 12) = true) (by omega) ?_ ?_ (by simp) (by simp)
  · rintro i e' H' hf hi hx e4 h6 ⟨h5, hpre, hn⟩
    have hs := sub_length (l := l) (o := i * 12) (n := 12) (by omega)
    have hc := call293 (pu := true) (H := H' ++ [⟨cs .i16 (sub l (i * 12) 12), 1, 0, false⟩]) (b := H'.length) (off := 0) (ver := 0) (cap := 12) (l := sub l (i * 12) 12) (F := .func (.func 294) #[] #[]) (p := fun n => !okL n) (by
      rw [rd_last rfl]; simp) (by omega) (fun n hn => by simp [call294 (hw n (sub_mem hn))])
    rw [hs, any_not, ← okAll] at hc
    have e2 := wr_last (n0 := H.length) (wb := false) (H := H') (b := ⟨zs 12 (.int .i16 0), 1, 0, false⟩) (vs := cs .i16 (sub l (i * 12) 12)) rfl rfl hpre.len (by simp [hs])
    have e3 := slcP_last (H := H') (b := ⟨cs .i16 (sub l (i * 12) 12), 1, 0, false⟩) (n := 12) (esz := 1) rfl rfl (by simp [hs])
    cases hany : okAll (sub l (i * 12) 12) with
    | true =>
      rw [hany] at hc
      simp (disch := omega) [b63_1, h6, h5, hx, hl, idxV_sub, hs, e2, e3, hc, wbOf, e4, hi, hpre.app]
      simpa using upto_succ hn hany
    | false =>
      rw [hany] at hc
      have : okAll l = false := by
        obtain ⟨x, hx, hp⟩ := List.all_eq_false.1 (show (sub l (i * 12) 12).all okL = false from hany)
        exact all_false (sub_mem hx) (by simpa using hp)
      simp (disch := omega) [b63_1, h6, h5, hx, hl, idxV_sub, hs, e2, e3, hc, wbOf, this, hpre.app.take]
  · rintro e' H' hf h6 ⟨h5, hpre, hn⟩
    simp [b63_1, h6, hpre.take, okAll_rows hl hn]
theorem inner291 {H : Heap} {b ver n0 : Nat} {wb : Bool} {l : List Int} (hl : l.length = 144) (hw : ∀ n ∈ l, i16 n) (hr : rd H b 0 ver 144 = some (cs .i16 l)) {y : Nat} (hy : y < 12) {e : Env} {fs : List Fr} {Q : Ex → Env → Heap → Prop}
    (h0 : e 0 = adr b 0 ver) (h3 : e 3 = .int .i64 (y : Int)) (h4 : e 4 = .int .i64 0)
    (q1 : ∀ e', e' 0 = e 0 → e' 3 = e 3 → okAll (sub l (y * 12) 12) = true → KK tab n0 wb (.exit 2) fs e' H Q) (q2 : ∀ e', e' 2 = .bool false → okAll l = false → KK tab n0 wb .ret fs e' H Q) :
    WK tab n0 wb (.loop b291_1) fs e H Q := by
  refine WP_count 4 12 12 rfl (fun i e' H' => H' = H ∧ ∀ j, j < i → okL (nth l (y * 12 + j)) = true) (by omega) ?_ ?_ h4 ⟨rfl, fun j hj => by omega⟩
  · rintro i e' H' hf hi hx e4 h4 ⟨rfl, hn⟩
    have h0 := (hf 0 (by decide)).trans h0
    have h3 := (hf 3 (by decide)).trans h3
    have hd := rd_one hr (o := y * 12 + i) (by omega)
    have hj : y * 12 + i < l.length := by omega
    have hm := hw _ (nth_mem hj)
    rw [Nat.zero_add] at hd
    have hok : okL (nth l (y * 12 + i)) = decide (0 ≤ nth l (y * 12 + i) ∧ nth l (y * 12 + i) ≤ 1000) := rfl
    cases hk : okL (nth l (y * 12 + i)) with
    | true =>
      rw [hk] at hok
      simp (disch := omega) [b291_1, h4, h0, h3, hx, hi, hy, hd, call304, ← hok, e4, -Bool.decide_and]
      exact upto_succ hn hk
    | false =>
      rw [hk] at hok
      simp (disch := omega) [b291_1, h4, h0, h3, hx, hi, hy, hd, call304, ← hok, e4, -Bool.decide_and]
      exact q2 _ (by simp) (all_false (nth_mem hj) hk)
  · rintro e' H' hf h4 ⟨rfl, hn⟩
    simp [b291_1, h4]
    refine q1 _ (by simp [hf 0 (by decide)]) (by simp [hf 3 (by decide)]) (all_nth fun j hj => ?_)
    rw [sub_length (by omega)] at hj
    rw [nth_sub hj]; exact hn j hj
theorem call291 {pu : Bool} {H : Heap} {b ver : Nat} {l : List Int} (hl : l.length = 144) (hw : ∀ n ∈ l, i16 n) (hr : rd H b 0 ver 144 = some (cs .i16 l)) : Call tab pu 291 [adr b 0 ver] H = some (.bool (okAll l), H) := by
  refine Call_wp t291 (.inr rfl) rfl ?_
  simp [c291, k291]
  refine WP_count 3 12 12 rfl (fun i e H' => H' = H ∧ e 0 = adr b 0 ver ∧ ∀ j, j < i → okAll (sub l (j * 12) 12) = true) (by omega) ?_ ?_ (by simp) (by simp)
  · rintro i e' H' hf hi hx e4 h3 ⟨rfl, h0, hn⟩
    simp [b291_2, h3, hx]
    refine inner291 hl hw hr hi (by simp [h0]) (by simp [h3]) (by simp) (fun e1 g0 g3 h => ?_) (fun e1 g2 h => ?_)
    · simp [h0, h3] at g0 g3
      simp [g0, g3, e4]
      simpa using upto_succ hn h
    · simp [g2, h]
  · rintro e' H' hf h3 ⟨rfl, h0, hn⟩
    simp [b291_2, h3, okAll_rows hl hn]
theorem okAll_nth {l : List Int} (h : okAll l = true) {i : Nat} (hi : i < l.length) : 0 ≤ nth l i ∧ nth l i ≤ 1000 := by
  have := List.all_eq_true.1 h _ (nth_mem hi)
  simpa [okL] using this
theorem step12 {x y : Nat} (hx : x < 12) (hy : y < 12) : y * 12 + x < 144 := by omega
/-- The first brightest one of the first k numbers. -/
def brS (l : List Int) (k q : Nat) : Nat := if nth l q < nth l k then k else q
def brN (l : List Int) (k : Nat) : Nat := itN (brS l) 0 k
theorem brN_zero {l : List Int} : brN l 0 = 0 := itN_zero
theorem brN_succ {l : List Int} {k : Nat} : brN l (k + 1) = if nth l (brN l k) < nth l k then k else brN l k := itN_succ
def brC (l : List Int) : Int := ((brN l 144 % 12 : Nat) : Int)
def brR (l : List Int) : Int := ((brN l 144 / 12 : Nat) : Int)
def brV (l : List Int) : Int := nth l (brN l 144)
def brL (l : List Int) : Value := if okAll l = true then tup [.int .i64 (brC l), .int .i64 (brR l), .int .i64 (brV l), .int .i64 0]
  else tup [.int .i64 0, .int .i64 0, .int .i64 0, .int .i64 1]
def bAt (e : Env) (r c : Nat) (q : Nat) : Prop := ∃ a b : Nat, q = a * 12 + b ∧ a < 12 ∧ b < 12 ∧ e r = .int .i64 a ∧ e c = .int .i64 b
theorem call66 {pu : Bool} {H : Heap} {l : List Int} (hl : l.length = 144) (hw : ∀ n ∈ l, i16 n) : Call tab pu 66 [iv .i16 l] H = some (brL l, H) := by
  refine Call_wp t66 (.inr rfl) rfl ?_
  obtain ⟨G, hG⟩ : ∃ G, G = H ++ [⟨cs .i16 l, 1, 0, false⟩] := ⟨_, rfl⟩
  have hr : rd G H.length 0 0 144 = some (cs .i16 l) := by rw [hG]; exact rd_last rfl (by simp [hl])
  have hT : G.take H.length = H := by rw [hG]; simp
  have hc := call291 (pu := true) hl hw hr
  cases hk : okAll l with
  | false => simp [c66, k66, hl, hc, hk, ← hG, hT, brL]
  | true =>
    simp [c66, k66, hl, hc, hk, ← hG, hT, brL]
    refine WP_forH 8 12 12 rfl (by omega) (fun y e => e 1 = adr H.length 0 0 ∧ bAt e 7 6 (brN l (y * 12))) ?_ ?_ (by simp) (by simp [bAt, brN_zero]; exact ⟨0, 0, by simp⟩)
    · rintro y e hy hyy e5 h5 ⟨h1, h4⟩
      simp [b66_2, h5, hyy]
      refine WP_forH 9 12 12 rfl (by omega) (fun x e => e 1 = adr H.length 0 0 ∧ e 8 = .int .i64 y ∧ bAt e 7 6 (brN l (y * 12 + x))) ?_ ?_ (by simp) (by simpa [bAt, h1, h5] using h4)
      · rintro x e hx hxx e6 h6 ⟨h1, h5, a, b, hq, ha, hb, h7, h8⟩
        have d1 := rd_one hr (step12 hx hy)
        have d2 := rd_one hr (step12 hb ha)
        rw [Nat.zero_add] at d1 d2
        by_cases hlt : nth l (brN l (y * 12 + x)) < nth l (y * 12 + x)
        · have hlt' := hlt
          have hn : brN l (y * 12 + x + 1) = if nth l (brN l (y * 12 + x)) < nth l (y * 12 + x) then y * 12 + x else brN l (y * 12 + x) := brN_succ
          rw [if_pos hlt] at hn
          rw [hq] at hlt'
          simp (disch := omega) [b66_1, h6, hxx, hx, hy, h1, h5, h7, h8, d1, d2, ha, hb, hlt', e6, ← Nat.add_assoc, hn, bAt]
          exact ⟨y, x, by omega, hy, hx, rfl, rfl⟩
        · have hlt' := hlt
          have hn : brN l (y * 12 + x + 1) = if nth l (brN l (y * 12 + x)) < nth l (y * 12 + x) then y * 12 + x else brN l (y * 12 + x) := brN_succ
          rw [if_neg hlt] at hn
          rw [hq] at hlt'
          simp (disch := omega) [b66_1, h6, hxx, hx, hy, h1, h5, h7, h8, d1, d2, ha, hb, hlt', e6, ← Nat.add_assoc, hn, bAt]
          exact ⟨a, b, by omega, ha, hb, rfl, rfl⟩
      · rintro e h6 ⟨h1, h5, h4⟩
        simp [b66_1, h6, h1, h5, e5, Nat.add_mul]
        simpa [bAt] using h4
    · rintro e h5 ⟨h1, h4⟩
      obtain ⟨a, b, hq, ha, hb, h7, h8⟩ := h4
      have hq : brN l 144 = a * 12 + b := hq
      have hk1 := okAll_nth hk (i := a * 12 + b) (by omega)
      have d2 := rd_one hr (step12 hb ha)
      have e2 := okAll_nth hk (i := a * 12 + b) (by omega)
      rw [Nat.zero_add] at d2
      have hC : brC l = b := by unfold brC; rw [hq]; omega
      have hR : brR l = a := by unfold brR; rw [hq]; omega
      have hV : brV l = nth l (a * 12 + b) := by unfold brV; rw [hq]
      simp (disch := omega) [b66_2, h5, h1, h7, h8, hT, d2, ha, hb, hC, hR, hV]
theorem call67 {pu : Bool} {H : Heap} {l : List Int} (hl : l.length = 144) (hw : ∀ n ∈ l, i16 n) : Call tab pu 67 [iv .i16 l] H = some (brL l, H) := by
  refine Call_wp t67 (.inr rfl) rfl ?_
  have hc := call63 (pu := true) (H := H) hl hw
  cases hk : okAll l with
  | false => simp [c67, k67, hl, hc, hk, brL]
  | true =>
    simp [c67, k67, hl, hc, hk, brL]
    refine WP_forH 14 12 12 rfl (by omega) (fun y e => e 1 = iv .i16 l ∧ bAt e 7 6 (brN l (y * 12))) ?_ ?_ (by simp) (by simp [bAt, brN_zero]; exact ⟨0, 0, by simp⟩)
    · rintro y e hy hyy e5 h5 ⟨h1, h4⟩
      have hs := sub_length (l := l) (o := y * 12) (n := 12) (by omega)
      simp (disch := omega) [b67_2, h5, hyy, h1, hy, ldc_sub]
      refine WP_forH 20 12 12 rfl (by omega) (fun x e => e 1 = iv .i16 l ∧ e 19 = iv .i16 (sub l (y * 12) 12) ∧ e 14 = .int .i64 y ∧ e 8 = .int .i64 y ∧ bAt e 7 6 (brN l (y * 12 + x))) ?_ ?_ (by simp) (by simpa [bAt, h1, h5] using h4)
      · rintro x e hx hxx e6 h6 ⟨h1, h2, h5, h3, a, b, hq, ha, hb, h7, h8⟩
        have d1 := step12 hx hy
        have d2 := step12 hb ha
        by_cases hlt : nth l (brN l (y * 12 + x)) < nth l (y * 12 + x)
        · have hlt' := hlt
          have hn : brN l (y * 12 + x + 1) = if nth l (brN l (y * 12 + x)) < nth l (y * 12 + x) then y * 12 + x else brN l (y * 12 + x) := brN_succ
          rw [if_pos hlt] at hn
          rw [hq] at hlt'
          simp (disch := omega) [b67_1, h6, hxx, hx, hy, h1, h2, h3, h5, h7, h8, hs, nth_sub, ha, hb, hlt', e6, ← Nat.add_assoc, hn, bAt]
          exact ⟨y, x, by omega, hy, hx, rfl, rfl⟩
        · have hlt' := hlt
          have hn : brN l (y * 12 + x + 1) = if nth l (brN l (y * 12 + x)) < nth l (y * 12 + x) then y * 12 + x else brN l (y * 12 + x) := brN_succ
          rw [if_neg hlt] at hn
          rw [hq] at hlt'
          simp (disch := omega) [b67_1, h6, hxx, hx, hy, h1, h2, h3, h5, h7, h8, hs, nth_sub, ha, hb, hlt', e6, ← Nat.add_assoc, hn, bAt]
          exact ⟨a, b, by omega, ha, hb, rfl, rfl⟩
      · rintro e h6 ⟨h1, h2, h5, h3, h4⟩
        simp [b67_1, h6, h1, h5, e5, Nat.add_mul]
        simpa [bAt] using h4
    · rintro e h5 ⟨h1, h4⟩
      obtain ⟨a, b, hq, ha, hb, h7, h8⟩ := h4
      have hq : brN l 144 = a * 12 + b := hq
      have hk1 := okAll_nth hk (i := a * 12 + b) (by omega)
      have e2 := okAll_nth hk (i := a * 12 + b) (by omega)
      have hC : brC l = b := by unfold brC; rw [hq]; omega
      have hR : brR l = a := by unfold brR; rw [hq]; omega
      have hV : brV l = nth l (a * 12 + b) := by unfold brV; rw [hq]
      simp (disch := omega) [b67_2, h5, h1, h7, h8, ha, hb, hC, hR, hV]
theorem call5 {H : Heap} {l : List Int} (hl : l.length = 144) (hw : ∀ n ∈ l, i16 n) : Call tab false 5 [iv .i16 l] H = some (.bool true, H) := by
  refine Call_wp t5 (.inl rfl) rfl ?_
  obtain ⟨a, b, c, d, h⟩ : ∃ a b c d, brL l = tup [.int .i64 a, .int .i64 b, .int .i64 c, .int .i64 d] := by unfold brL; split <;> exact ⟨_, _, _, _, rfl⟩
  simp [c5, k5, hl, call62 hl, call66 hl hw, call67 hl hw, h, skip]
end Fb
