/- What each function computes. -/
import Derived.Test.YtjfmgpnkippbpaaTab
import Derived.Test.YtjfmgpnkippbpaaPl
set_option linter.unusedVariables false
set_option linter.unusedSimpArgs false
namespace Fb
open Go
theorem call304 {pu : Bool} {a b c : Int} {H : Heap} : Call tab pu 304 [.int .i64 a, .int .i64 b, .int .i64 c] H = some (.bool (decide (b ≤ a ∧ a ≤ c)), H) := by
  refine Call_wp t304 (.inr rfl) rfl ?_
  by_cases h : b ≤ a <;> simp [c304, k304, h, skip]
theorem call295 {pu : Bool} {a b c : Int} {H : Heap} : Call tab pu 295 [.int .i64 a, .int .i64 b, .int .i64 c] H = some (.bool (decide (b ≤ a ∧ a ≤ c)), H) := by
  refine Call_wp t295 (.inr rfl) rfl ?_
  by_cases h : b ≤ a <;> simp [c295, k295, h, skip]
/-- A number that fits. -/
abbrev i16 (n : Int) : Prop := -32768 ≤ n ∧ n ≤ 32767
def okL (n : Int) : Bool := decide (0 ≤ n ∧ n ≤ 1000)
def okAll (l : List Int) : Bool := l.all okL
theorem call294 {pu : Bool} {n : Int} {H : Heap} (h : i16 n) : Call tab pu 294 [.int .i16 n] H = some (.bool (!okL n), H) := by
  refine Call_wp t294 (.inr rfl) rfl ?_
  simp (disch := omega) [c294, k294, okL, call295]
theorem call292 {pu : Bool} {H : Heap} {l : List Int} (hl : l.length = 12) : Call tab pu 292 [iv .i16 l] H = some (iv .i16 l, H) := by
  refine Call_wp t292 (.inr rfl) rfl ?_
  simp [c292, k292, zs_cs, agg_cs]
  refine WP_count 4 12 12 rfl (fun i e H' => H' = H ∧ e 1 = iv .i16 l ∧ e 3 = iv .i16 (cp l i) ∧ e 2 = iv .i16 (zr 12 0)) (by decide) ?_ ?_ (by simp) (by simp [cp_zero hl])
  · rintro i e' H' hf hi hx e4 h4 ⟨rfl, h1, h3, h2⟩
    have e5 : stc (iv .i16 (cp l i)) i [.int .i16 (nth l i)] = some (iv .i16 (cp l (i + 1))) := by rw [stc_one (by rw [cp_length] <;> omega) rfl, cp_set (by omega)]
    simp (disch := first | omega | assumption) [b292_1, h4, h1, h3, h2, hx, hi, e4, hl, e5]
  · rintro e' H' hf h4 ⟨rfl, h1, h3, h2⟩
    have e5 : stc (iv .i16 (zr 12 0)) 0 (cs .i16 l) = some (iv .i16 l) := stc_all (by simp [hl])
    simp (disch := first | omega | assumption) [b292_1, h4, h3, h2, hl, e5, agg_cs, cp_all hl]
theorem call62 {pu : Bool} {H : Heap} {l : List Int} (hl : l.length = 144) : Call tab pu 62 [iv .i16 l] H = some (iv .i16 l, H) := by
  refine Call_wp t62 (.inr rfl) rfl ?_
  simp [c62, k62, zs_cs, agg_cs]
  refine WP_count 4 12 12 rfl (fun i e H' => H' = H ∧ e 1 = iv .i16 l ∧ e 3 = iv .i16 (cp l (i * 12)) ∧ e 2 = iv .i16 (zr 144 0)) (by decide) ?_ ?_ (by simp) (by simp [cp_zero hl])
  · rintro i e' H' hf hi hx e4 h4 ⟨rfl, h1, h3, h2⟩
    have hs := sub_length (l := l) (o := i * 12) (n := 12) (by omega)
    have e5 : stc (iv .i16 (cp l (i * 12))) (i * 12) (cs .i16 (sub l (i * 12) 12)) = some (iv .i16 (cp l ((i + 1) * 12))) := by
      rw [stc_cs (by rw [cp_length] <;> omega), cp_wrt (by omega), Nat.succ_mul]
    simp (disch := first | omega | assumption) [b62_1, h4, h1, h3, h2, hx, hi, e4, hl, e5, ldc_sub, call292, hs]
  · rintro e' H' hf h4 ⟨rfl, h1, h3, h2⟩
    have e5 : stc (iv .i16 (zr 144 0)) 0 (cs .i16 l) = some (iv .i16 l) := stc_all (by simp [hl])
    simp (disch := first | omega | assumption) [b62_1, h4, h3, h2, hl, e5, agg_cs, cp_all hl]
/-- The first place of a number with p, or -1. -/
def findI (p : Int → Bool) (l : List Int) : Int := match l.findIdx? p with
  | some i => i
  | none => -1
theorem findI_spec {p : Int → Bool} {l : List Int} {i : Nat} (hi : i < l.length) (hn : ∀ j, j < i → p (nth l j) = false) (hp : p (nth l i) = true) : findI p l = i := by
  have e : ∀ j (h : j < l.length), nth l j = l[j] := fun j h => nth_of (List.getElem?_eq_getElem h)
  have : l.findIdx? p = some i := by
    rw [List.findIdx?_eq_some_iff_getElem]
    refine ⟨hi, by rw [← e]; exact hp, fun j hj => ?_⟩
    have := hn j hj
    rw [e j (by omega)] at this
    simpa using this
  unfold findI
  rw [this]
theorem findI_none {p : Int → Bool} {l : List Int} (hn : ∀ j, j < l.length → p (nth l j) = false) : findI p l = -1 := by
  have : l.findIdx? p = none := by
    rw [List.findIdx?_eq_none_iff]
    intro x hx
    obtain ⟨j, hj, rfl⟩ := mem_nth hx
    exact hn j hj
  unfold findI
  rw [this]
theorem findI_ge {p : Int → Bool} {l : List Int} : decide (0 ≤ findI p l) = l.any p := by
  unfold findI
  cases h : l.findIdx? p with
  | none =>
    rw [List.findIdx?_eq_none_iff] at h
    have : l.any p = false := by rw [List.any_eq_false]; intro x hx; simp [h x hx]
    rw [this]; decide
  | some i =>
    rw [List.findIdx?_eq_some_iff_getElem] at h
    obtain ⟨hi, hp, _⟩ := h
    have : l.any p = true := List.any_eq_true.2 ⟨_, List.getElem_mem hi, hp⟩
    rw [this]; simp
theorem upto_succ {p : Nat → Prop} {i : Nat} (h : ∀ j, j < i → p j) (hi : p i) : ∀ j, j < i + 1 → p j := by
  intro j hj
  rcases Nat.lt_or_ge j i with h1 | h1
  · exact h j h1
  · obtain rfl : j = i := by omega
    exact hi
theorem call487 {pu : Bool} {H : Heap} {b off ver cap : Nat} {l : List Int} {F : Value} {p : Int → Bool} (hr : rd H b off ver l.length = some (cs .i16 l)) (hlen : l.length ≤ 1152921504606846976)
    (hF : ∀ n ∈ l, callV (Call tab) H F [.int .i16 n] = some (.bool (p n), H)) : Call tab pu 487 [slc b off ver l.length cap, F] H = some (.int .i64 (findI p l), H) := by
  refine Call_wp t487 (.inr rfl) rfl ?_
  simp [c487, k487]
  refine WP_count 8 l.length _ rfl (fun i e H' => H' = H ∧ e 7 = .int .i64 (l.length : Int) ∧ e 0 = slc b off ver l.length cap ∧ e 1 = F ∧ ∀ j, j < i → p (nth l j) = false) (by omega) ?_ ?_ (by simp) (by simp)
  · rintro i e' _ hf hi hx e4 h8 ⟨rfl, h7, h0, h1, hn⟩
    have hm := hF _ (nth_mem hi)
    cases hp : p (nth l i) with
    | true =>
      rw [hp] at hm
      simp (disch := first | omega | assumption) [b487_1, h8, h7, h0, h1, hx, rd_one hr, hi, hm, findI_spec hi hn hp]
    | false =>
      rw [hp] at hm
      simp (disch := first | omega | assumption) [b487_1, h8, h7, h0, h1, hx, rd_one hr, hi, hm]
      exact upto_succ hn hp
  · rintro e' _ hf h8 ⟨rfl, h7, h0, h1, hn⟩
    simp [b487_1, h8, h7, findI_none hn]
theorem call293 {pu : Bool} {H : Heap} {b off ver cap : Nat} {l : List Int} {F : Value} {p : Int → Bool} (hr : rd H b off ver l.length = some (cs .i16 l)) (hlen : l.length ≤ 1152921504606846976)
    (hF : ∀ n ∈ l, callV (Call tab) H F [.int .i16 n] = some (.bool (p n), H)) : Call tab pu 293 [slc b off ver l.length cap, F] H = some (.bool (l.any p), H) := by
  refine Call_wp t293 (.inr rfl) rfl ?_
  simp [c293, k293, call487 hr hlen hF, findI_ge]
/-- Rows of 12. -/
theorem rows_all {l : List Int} (hl : l.length = 144) {p : Int → Bool} (h : ∀ r, r < 12 → (sub l (r * 12) 12).all p = true) : l.all p = true := by
  refine all_nth fun j hj => ?_
  have h1 := h (j / 12) (by omega)
  rw [List.all_eq_true] at h1
  have := h1 (nth (sub l (j / 12 * 12) 12) (j % 12)) (nth_mem (by rw [sub_length] <;> omega))
  rwa [nth_sub (by omega), show j / 12 * 12 + j % 12 = j by omega] at this
theorem any_not {l : List Int} {p : Int → Bool} : (l.any fun n => !p n) = !l.all p := by induction l <;> simp_all
theorem all_false {l : List Int} {p : Int → Bool} {x : Int} (h : x ∈ l) (hp : p x = false) : l.all p = false := by
  rw [List.all_eq_false]; exact ⟨x, h, by simp [hp]⟩
theorem okAll_rows {l : List Int} (hl : l.length = 144) (h : ∀ r, r < 12 → okAll (sub l (r * 12) 12) = true) : okAll l = true := rows_all hl h
theorem call63 {pu : Bool} {H : Heap} {l : List Int} (hl : l.length = 144) (hw : ∀ n ∈ l, i16 n) : Call tab pu 63 [iv .i16 l] H = some (.bool (okAll l), H) := by
  refine Call_wp t63 (.inr rfl) rfl ?_
  simp [c63, k63, hl]
  refine WP_count 6 12 12 rfl (fun i e H' => e 5 = iv .i16 l ∧ Pre H H' ∧ ∀ j, j < i → okAll (sub l (j * 12) 12) = true) (by omega) ?_ ?_ (by simp) (by simp)
  · rintro i e' H' hf hi hx e4 h6 ⟨h5, hpre, hn⟩
    have hs := sub_length (l := l) (o := i * 12) (n := 12) (by omega)
    have hc := call293 (pu := true) (H := H' ++ [⟨cs .i16 (sub l (i * 12) 12), 1, 0, false⟩]) (b := H'.length) (off := 0) (ver := 0) (cap := 12) (l := sub l (i * 12) 12) (F := .func (.func 294) #[] #[]) (p := fun n => !okL n) (by
      rw [rd_last rfl]; simp) (by omega) (fun n hn => by simp [call294 (hw n (sub_mem hn))])
    rw [hs, any_not, ← okAll] at hc
    have e2 := wr_last (n0 := H.length) (wb := false) (H := H') (b := ⟨zs 12 (.int .i16 0), 1, 0, false⟩) (vs := cs .i16 (sub l (i * 12) 12)) rfl rfl hpre.len (by simp [hs])
    have e3 := slcP_last (H := H') (b := ⟨cs .i16 (sub l (i * 12) 12), 1, 0, false⟩) (n := 12) (esz := 1) rfl rfl (by simp [hs])
    cases hany : okAll (sub l (i * 12) 12) with
    | true =>
      rw [hany] at hc
      simp (disch := omega) [b63_1, h6, h5, hx, hl, idxV_sub, hs, e2, e3, hc, wbOf, e4, hi, hpre.app]
      simpa using upto_succ hn hany
    | false =>
      rw [hany] at hc
      have : okAll l = false := by
        obtain ⟨x, hx, hp⟩ := List.all_eq_false.1 (show (sub l (i * 12) 12).all okL = false from hany)
        exact all_false (sub_mem hx) (by simpa using hp)
      simp (disch := omega) [b63_1, h6, h5, hx, hl, idxV_sub, hs, e2, e3, hc, wbOf, this, hpre.app.take]
  · rintro e' H' hf h6 ⟨h5, hpre, hn⟩
    simp [b63_1, h6, hpre.take, okAll_rows hl hn]
theorem inner291 {H : Heap} {b ver n0 : Nat} {wb : Bool} {l : List Int} (hl : l.length = 144) (hw : ∀ n ∈ l, i16 n) (hr : rd H b 0 ver 144 = some (cs .i16 l)) {y : Nat} (hy : y < 12) {e : Env} {fs : List Fr} {Q : Ex → Env → Heap → Prop}
    (h0 : e 0 = adr b 0 ver) (h3 : e 3 = .int .i64 (y : Int)) (h4 : e 4 = .int .i64 0)
    (q1 : ∀ e', e' 0 = e 0 → e' 3 = e 3 → okAll (sub l (y * 12) 12) = true → KK tab n0 wb (.exit 2) fs e' H Q) (q2 : ∀ e', e' 2 = .bool false → okAll l = false → KK tab n0 wb .ret fs e' H Q) :
    WK tab n0 wb (.loop b291_1) fs e H Q := by
  refine WP_count 4 12 12 rfl (fun i e' H' => H' = H ∧ ∀ j, j < i → okL (nth l (y * 12 + j)) = true) (by omega) ?_ ?_ h4 ⟨rfl, fun j hj => by omega⟩
  · rintro i e' H' hf hi hx e4 h4 ⟨rfl, hn⟩
    have h0 := (hf 0 (by decide)).trans h0
    have h3 := (hf 3 (by decide)).trans h3
    have hd := rd_one hr (o := y * 12 + i) (by omega)
    have hj : y * 12 + i < l.length := by omega
    have hm := hw _ (nth_mem hj)
    rw [Nat.zero_add] at hd
    have hok : okL (nth l (y * 12 + i)) = decide (0 ≤ nth l (y * 12 + i) ∧ nth l (y * 12 + i) ≤ 1000) := rfl
    cases hk : okL (nth l (y * 12 + i)) with
    | true =>
      rw [hk] at hok
      simp (disch := omega) [b291_1, h4, h0, h3, hx, hi, hy, hd, call304, ← hok, e4, -Bool.decide_and]
      exact upto_succ hn hk
    | false =>
      rw [hk] at hok
      simp (disch := omega) [b291_1, h4, h0, h3, hx, hi, hy, hd, call304, ← hok, e4, -Bool.decide_and]
      exact q2 _ (by simp) (all_false (nth_mem hj) hk)
  · rintro e' H' hf h4 ⟨rfl, hn⟩
    simp [b291_1, h4]
    refine q1 _ (by simp [hf 0 (by decide)]) (by simp [hf 3 (by decide)]) (all_nth fun j hj => ?_)
    rw [sub_length (by omega)] at hj
    rw [nth_sub hj]; exact hn j hj
theorem call291 {pu : Bool} {H : Heap} {b ver : Nat} {l : List Int} (hl : l.length = 144) (hw : ∀ n ∈ l, i16 n) (hr : rd H b 0 ver 144 = some (cs .i16 l)) : Call tab pu 291 [adr b 0 ver] H = some (.bool (okAll l), H) := by
  refine Call_wp t291 (.inr rfl) rfl ?_
  simp [c291, k291]
  refine WP_count 3 12 12 rfl (fun i e H' => H' = H ∧ e 0 = adr b 0 ver ∧ ∀ j, j < i → okAll (sub l (j * 12) 12) = true) (by omega) ?_ ?_ (by simp) (by simp)
  · rintro i e' H' hf hi hx e4 h3 ⟨rfl, h0, hn⟩
    simp [b291_2, h3, hx]
    refine inner291 hl hw hr hi (by simp [h0]) (by simp [h3]) (by simp) (fun e1 g0 g3 h => ?_) (fun e1 g2 h => ?_)
    · simp [h0, h3] at g0 g3
      simp [g0, g3, e4]
      simpa using upto_succ hn h
    · simp [g2, h]
  · rintro e' H' hf h3 ⟨rfl, h0, hn⟩
    simp [b291_2, h3, okAll_rows hl hn]
theorem okAll_nth {l : List Int} (h : okAll l = true) {i : Nat} (hi : i < l.length) : 0 ≤ nth l i ∧ nth l i ≤ 1000 := by
  have := List.all_eq_true.1 h _ (nth_mem hi)
  simpa [okL] using this
theorem step12 {x y : Nat} (hx : x < 12) (hy : y < 12) : y * 12 + x < 144 := by omega
/-- The first m numbers of a row are turned. -/
def part (f : Int → Int) (m : Nat) (l : List Int) : List Int := (l.take m).map f ++ l.drop m
theorem part_length {f : Int → Int} {m : Nat} {l : List Int} : (part f m l).length = l.length := by simp [part]; omega
theorem part_zero {f : Int → Int} {l : List Int} : part f 0 l = l := by simp [part]
theorem part_all {f : Int → Int} {m : Nat} {l : List Int} (h : l.length ≤ m) : part f m l = l.map f := by simp [part, List.take_of_length_le h, List.drop_eq_nil_of_le h]
theorem nth_part {f : Int → Int} {m i : Nat} {l : List Int} (h : i < l.length) : nth (part f m l) i = if i < m then f (nth l i) else nth l i := by
  apply nth_of
  simp only [part, List.getElem?_append, List.length_map, List.length_take]
  split
  · rw [if_pos (by omega), List.getElem?_map, List.getElem?_take, if_pos (by omega), nth_get h]; rfl
  · rw [if_neg (by omega), List.getElem?_drop, show m + (i - min m l.length) = i by omega, nth_get h]
theorem part_set {f : Int → Int} {m : Nat} {l : List Int} (h : m < l.length) : (part f m l).set m (f (nth l m)) = part f (m + 1) l := by
  refine ext_nth (by simp [part_length]) fun i hi => ?_
  have hi : i < l.length := by simpa [part_length] using hi
  rw [nth_set (by rw [part_length]; exact h), nth_part hi, nth_part hi]
  split
  · rename_i h1; subst h1; rw [if_pos (by omega)]
  · split
    · rw [if_pos (by omega)]
    · rw [if_neg (by omega)]
def fad (keep n : Int) : Int := (n * keep).tdiv 8
theorem fad_ok {keep n : Int} (h0 : 0 ≤ keep) (h8 : keep ≤ 8) (hn : 0 ≤ n ∧ n ≤ 1000) : 0 ≤ fad keep n ∧ fad keep n ≤ 1000 ∧ 0 ≤ n * keep ∧ n * keep ≤ 8000 := by
  have h1 : 0 ≤ n * keep := Int.mul_nonneg hn.1 h0
  have h2 : n * keep ≤ 1000 * 8 := Int.mul_le_mul hn.2 h8 h0 (by omega)
  unfold fad
  rw [Int.tdiv_eq_ediv_of_nonneg h1]
  omega
theorem stc_at {k : IntKind} {l l' : List Int} {i : Nat} {n : Int} (h : i < l.length) (hl : l.set i n = l') : stc (iv k l) i [.int k n] = some (iv k l') := by rw [stc_one h rfl, hl]
theorem call300 {pu : Bool} {H : Heap} {l : List Int} {keep : Int} (hl : l.length = 144) (hk : okAll l = true) (h0 : 0 ≤ keep) (h8 : keep ≤ 8) : Call tab pu 300 [iv .i16 l, .int .i64 keep] H = some (iv .i16 (l.map (fad keep)), H) := by
  refine Call_wp t300 (.inr rfl) rfl ?_
  simp [c300, k300, zs_cs, agg_cs]
  refine WP_forH 5 12 12 rfl (by omega) (fun y e => e 1 = .int .i64 keep ∧ e 2 = iv .i16 (part (fad keep) (y * 12) l) ∧ e 4 = iv .i16 (zr 144 0)) ?_ ?_ (by simp) (by simp [part_zero])
  · rintro y e hy hyy e5 h5 ⟨h1, h2, h4⟩
    simp [b300_2, h5, hyy]
    refine WP_forH 6 12 12 rfl (by omega) (fun x e => e 1 = .int .i64 keep ∧ e 5 = .int .i64 y ∧ e 2 = iv .i16 (part (fad keep) (y * 12 + x) l) ∧ e 4 = iv .i16 (zr 144 0)) ?_ ?_ (by simp) (by simp [h1, h2, h4, h5])
    · rintro x e hx hxx e6 h6 ⟨h1, h5, h2, h4⟩
      have h7 := step12 hx hy
      have hn := okAll_nth hk (i := y * 12 + x) (by omega)
      obtain ⟨f1, f2, f3, f4⟩ := fad_ok h0 h8 hn
      have hp : ldc 1 false (iv .i16 (part (fad keep) (y * 12 + x) l)) (y * 12 + x) = some (.int .i16 (nth l (y * 12 + x))) := by rw [ldc_iv1 (by rw [part_length]; omega), nth_part (by omega), if_neg (by omega)]
      have e9 := stc_at (k := .i16) (by rw [part_length]; omega) (part_set (f := fad keep) (m := y * 12 + x) (l := l) (by omega))
      have e10 : IntKind.wrap .i16 (fad keep (nth l (y * 12 + x))) = fad keep (nth l (y * 12 + x)) := wrap16 (by omega)
      have e11 : IntKind.wrap .i64 ((nth l (y * 12 + x) * keep).tdiv 8) = fad keep (nth l (y * 12 + x)) := wrap64 (by unfold fad at f1 f2; omega)
      simp (disch := omega) [b300_1, h6, hxx, hx, hy, h1, h5, h2, h4, e6, ← Nat.add_assoc, hp, e9, e10, e11]
    · rintro e h6 ⟨h1, h5, h2, h4⟩
      simp [b300_1, h6, h1, h2, h4, h5, e5, Nat.add_mul]
  · rintro e h5 ⟨h1, h2, h4⟩
    have e9 : stc (iv .i16 (zr 144 0)) 0 (cs .i16 (l.map (fad keep))) = some (iv .i16 (l.map (fad keep))) := stc_all (by simp [hl])
    simp [b300_2, h5, h2, h4, part_all (f := fad keep) (m := 144) (Nat.le_of_eq hl), hl, e9, agg_cs]
theorem call302 {pu : Bool} {H : Heap} {l : List Int} {keep : Int} (hl : l.length = 144) (hk : okAll l = true) (h0 : 0 ≤ keep) (h8 : keep ≤ 8) : Call tab pu 302 [iv .i16 l, .int .i64 keep] H = some (iv .i16 (l.map (fad keep)), H) := by
  refine Call_wp t302 (.inr rfl) rfl ?_
  simp [c302, k302, zs_cs, agg_cs]
  refine WP_forH 8 12 12 rfl (by omega) (fun y e => e 1 = .int .i64 keep ∧ e 2 = iv .i16 (part (fad keep) (y * 12) l) ∧ e 4 = iv .i16 (zr 144 0)) ?_ ?_ (by simp) (by simp [part_zero])
  · rintro y e hy hyy e5 h5 ⟨h1, h2, h4⟩
    have hs := sub_length (l := part (fad keep) (y * 12) l) (o := y * 12) (n := 12) (by rw [part_length]; omega)
    have hq : ldc 12 true (iv .i16 (part (fad keep) (y * 12) l)) (y * 12) = some (iv .i16 (sub (part (fad keep) (y * 12) l) (y * 12) 12)) := ldc_sub (by rw [part_length]; omega)
    simp (disch := omega) [b302_2, h5, hyy, h2, hy, hq]
    refine WP_forH 14 12 12 rfl (by omega) (fun x e => e 1 = .int .i64 keep ∧ e 5 = .int .i64 y ∧ e 8 = .int .i64 y ∧ e 13 = iv .i16 (sub (part (fad keep) (y * 12) l) (y * 12) 12) ∧ e 2 = iv .i16 (part (fad keep) (y * 12 + x) l) ∧ e 4 = iv .i16 (zr 144 0)) ?_ ?_ (by simp) (by simp [h1, h2, h4, h5])
    · rintro x e hx hxx e6 h6 ⟨h1, h5, h3, h7, h2, h4⟩
      have h7' := step12 hx hy
      have hn := okAll_nth hk (i := y * 12 + x) (by omega)
      obtain ⟨f1, f2, f3, f4⟩ := fad_ok h0 h8 hn
      have hp : nth (sub (part (fad keep) (y * 12) l) (y * 12) 12) x = nth l (y * 12 + x) := by rw [nth_sub hx, nth_part (by omega), if_neg (by omega)]
      have e9 := stc_at (k := .i16) (by rw [part_length]; omega) (part_set (f := fad keep) (m := y * 12 + x) (l := l) (by omega))
      have e10 : IntKind.wrap .i16 (fad keep (nth l (y * 12 + x))) = fad keep (nth l (y * 12 + x)) := wrap16 (by omega)
      have e11 : IntKind.wrap .i64 ((nth l (y * 12 + x) * keep).tdiv 8) = fad keep (nth l (y * 12 + x)) := wrap64 (by unfold fad at f1 f2; omega)
      simp (disch := omega) [b302_1, h6, hxx, hx, hy, h1, h5, h3, h7, h2, h4, hs, e6, ← Nat.add_assoc, hp, e9, e10, e11]
    · rintro e h6 ⟨h1, h5, h3, h7, h2, h4⟩
      simp [b302_1, h6, h1, h2, h3, h4, h5, e5, Nat.add_mul]
  · rintro e h5 ⟨h1, h2, h4⟩
    have e9 : stc (iv .i16 (zr 144 0)) 0 (cs .i16 (l.map (fad keep))) = some (iv .i16 (l.map (fad keep))) := stc_all (by simp [hl])
    simp [b302_2, h5, h2, h4, part_all (f := fad keep) (m := 144) (Nat.le_of_eq hl), hl, e9, agg_cs]
theorem call299 {pu : Bool} {a : Int} {H : Heap} : Call tab pu 299 [.int .i64 a] H = some (.bool (decide (0 ≤ a ∧ a ≤ 8)), H) := by
  refine Call_wp t299 (.inr rfl) rfl ?_
  simp [c299, k299, call304]
theorem call301 {pu : Bool} {a : Int} {H : Heap} : Call tab pu 301 [.int .i64 a] H = some (.bool (decide (0 ≤ a ∧ a ≤ 8)), H) := by
  refine Call_wp t301 (.inr rfl) rfl ?_
  simp [c301, k301, call295]
def lightR (l : List Int) (c : Int) : Value := tup [iv .i16 l, .int .i64 c]
def fadR (l : List Int) (keep : Int) : Value := if okAll l = true then if 0 ≤ keep ∧ keep ≤ 8 then lightR (l.map (fad keep)) 0 else lightR (zr 144 0) 2 else lightR (zr 144 0) 1
theorem stc_zr {k : IntKind} {n : Nat} {l : List Int} (h : l.length = n) : stc (iv k (zr n 0)) 0 (cs k l) = some (iv k l) := stc_all (by simp [h])
theorem call73 {pu : Bool} {H : Heap} {l : List Int} {keep : Int} (hl : l.length = 144) (hw : ∀ n ∈ l, i16 n) : Call tab pu 73 [iv .i16 l, .int .i64 keep] H = some (fadR l keep, H) := by
  refine Call_wp t73 (.inr rfl) rfl ?_
  obtain ⟨G, hG⟩ : ∃ G, G = H ++ [⟨cs .i16 l, 1, 0, false⟩] := ⟨_, rfl⟩
  have hr : rd G H.length 0 0 144 = some (cs .i16 l) := by rw [hG]; exact rd_last rfl (by simp [hl])
  have hT : G.take H.length = H := by rw [hG]; simp
  have hc := call291 (pu := true) hl hw hr
  have hz : stc (iv .i16 (zr 144 0)) 0 (cs .i16 (zr 144 0)) = some (iv .i16 (zr 144 0)) := stc_zr (by simp)
  cases hk : okAll l with
  | false => simp [c73, k73, hl, hc, hk, ← hG, hT, fadR, zs_cs, agg_cs, fill, hz, lightR]
  | true =>
    by_cases hb : 0 ≤ keep ∧ keep ≤ 8
    · have hc2 := call300 (pu := true) (H := G) hl hk hb.1 hb.2
      have hz2 := stc_zr (k := .i16) (l := l.map (fad keep)) (n := 144) (by simp [hl])
      simp [c73, k73, hl, hc, hk, ← hG, hT, fadR, zs_cs, agg_cs, fill, hz2, lightR, call299, hb, hc2, hr]
    · have hb' : (decide (0 ≤ keep) && decide (keep ≤ 8)) = false := by simpa using hb
      simp [c73, k73, hl, hc, hk, ← hG, hT, fadR, zs_cs, agg_cs, fill, hz, lightR, call299, hb, hb', hr]
theorem call74 {pu : Bool} {H : Heap} {l : List Int} {keep : Int} (hl : l.length = 144) (hw : ∀ n ∈ l, i16 n) : Call tab pu 74 [iv .i16 l, .int .i64 keep] H = some (fadR l keep, H) := by
  refine Call_wp t74 (.inr rfl) rfl ?_
  have hc := call63 (pu := true) (H := H) hl hw
  have hz : stc (iv .i16 (zr 144 0)) 0 (cs .i16 (zr 144 0)) = some (iv .i16 (zr 144 0)) := stc_zr (by simp)
  cases hk : okAll l with
  | false => simp [c74, k74, hl, hc, hk, fadR, zs_cs, agg_cs, fill, hz, lightR]
  | true =>
    by_cases hb : 0 ≤ keep ∧ keep ≤ 8
    · have hc2 := call302 (pu := true) (H := H) hl hk hb.1 hb.2
      have hz2 := stc_zr (k := .i16) (l := l.map (fad keep)) (n := 144) (by simp [hl])
      simp [c74, k74, hl, hc, hk, fadR, zs_cs, agg_cs, fill, hz2, lightR, call301, hb, hc2]
    · have hb' : (decide (0 ≤ keep) && decide (keep ≤ 8)) = false := by simpa using hb
      simp [c74, k74, hl, hc, hk, fadR, zs_cs, agg_cs, fill, hz, lightR, call301, hb, hb']
theorem call303 {pu : Bool} {H : Heap} {l : List Int} (hl : l.length = 12) : Call tab pu 303 [iv .i16 l, iv .i16 l] H = some (.bool true, H) := by
  refine Call_wp t303 (.inr rfl) rfl ?_
  simp [c303, k303]
  refine WP_forH 5 12 12 rfl (by omega) (fun i e => e 2 = iv .i16 l ∧ e 3 = iv .i16 l) ?_ ?_ (by simp) (by simp)
  · rintro i e hi hx e4 h5 ⟨h2, h3⟩
    simp (disch := omega) [b303_1, h5, hx, hi, h2, h3, e4, hl]
  · rintro e h5 ⟨h2, h3⟩
    simp [b303_1, h5]
theorem call75 {pu : Bool} {H : Heap} {l : List Int} (hl : l.length = 144) : Call tab pu 75 [iv .i16 l, iv .i16 l] H = some (.bool true, H) := by
  refine Call_wp t75 (.inr rfl) rfl ?_
  simp [c75, k75]
  refine WP_forH 5 12 12 rfl (by omega) (fun i e => e 2 = iv .i16 l ∧ e 3 = iv .i16 l) ?_ ?_ (by simp) (by simp)
  · rintro i e hi hx e4 h5 ⟨h2, h3⟩
    have hs := sub_length (l := l) (o := i * 12) (n := 12) (by omega)
    simp (disch := omega) [b75_1, h5, hx, hi, h2, h3, e4, ldc_sub, call303 hs]
  · rintro e h5 ⟨h2, h3⟩
    simp [b75_1, h5]
theorem call7 {H : Heap} {l : List Int} {keep : Int} (hl : l.length = 144) (hw : ∀ n ∈ l, i16 n) : Call tab false 7 [iv .i16 l, .int .i64 keep] H = some (.bool true, H) := by
  refine Call_wp t7 (.inl rfl) rfl ?_
  obtain ⟨m, c, hm, h⟩ : ∃ m c, m.length = 144 ∧ fadR l keep = tup [iv .i16 m, .int .i64 c] := by
    unfold fadR
    split
    · split
      · exact ⟨_, _, by simp [hl], rfl⟩
      · exact ⟨_, _, by simp, rfl⟩
    · exact ⟨_, _, by simp, rfl⟩
  have hz := stc_zr (k := .i16) hm
  simp [c7, k7, hl, call62 hl, call73 hl hw, call74 hl hw, h, zs_cs, agg_cs, hm, hz, call75 hm, skip]
end Fb
