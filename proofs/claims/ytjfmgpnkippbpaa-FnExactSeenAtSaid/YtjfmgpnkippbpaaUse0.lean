/- What each function computes. -/
import Derived.Test.YtjfmgpnkippbpaaTab
import Derived.Test.YtjfmgpnkippbpaaPl
set_option linter.unusedVariables false
set_option linter.unusedSimpArgs false
namespace Fb
open Go
theorem call304 {pu : Bool} {a b c : Int} {H : Heap} : Call tab pu 304 [.int .i64 a, .int .i64 b, .int .i64 c] H = some (.bool (decide (b ≤ a ∧ a ≤ c)), H) := by
  refine Call_wp t304 (.inr rfl) rfl ?_
  by_cases h : b ≤ a <;> simp [c304, k304, h, skip]
theorem call295 {pu : Bool} {a b c : Int} {H : Heap} : Call tab pu 295 [.int .i64 a, .int .i64 b, .int .i64 c] H = some (.bool (decide (b ≤ a ∧ a ≤ c)), H) := by
  refine Call_wp t295 (.inr rfl) rfl ?_
  by_cases h : b ≤ a <;> simp [c295, k295, h, skip]
/-- A number that fits. -/
abbrev i16 (n : Int) : Prop := -32768 ≤ n ∧ n ≤ 32767
def okL (n : Int) : Bool := decide (0 ≤ n ∧ n ≤ 1000)
def okAll (l : List Int) : Bool := l.all okL
theorem call294 {pu : Bool} {n : Int} {H : Heap} (h : i16 n) : Call tab pu 294 [.int .i16 n] H = some (.bool (!okL n), H) := by
  refine Call_wp t294 (.inr rfl) rfl ?_
  simp (disch := omega) [c294, k294, okL, call295]
theorem call292 {pu : Bool} {H : Heap} {l : List Int} (hl : l.length = 12) : Call tab pu 292 [iv .i16 l] H = some (iv .i16 l, H) := by
  refine Call_wp t292 (.inr rfl) rfl ?_
  simp [c292, k292, zs_cs, agg_cs]
  refine WP_count 4 12 12 rfl (fun i e H' => H' = H ∧ e 1 = iv .i16 l ∧ e 3 = iv .i16 (cp l i) ∧ e 2 = iv .i16 (zr 12 0)) (by decide) ?_ ?_ (by simp) (by simp [cp_zero hl])
  · rintro i e' H' hf hi hx e4 h4 ⟨rfl, h1, h3, h2⟩
    have e5 : stc (iv .i16 (cp l i)) i [.int .i16 (nth l i)] = some (iv .i16 (cp l (i + 1))) := by rw [stc_one (by rw [cp_length] <;> omega) rfl, cp_set (by omega)]
    simp (disch := first | omega | assumption) [b292_1, h4, h1, h3, h2, hx, hi, e4, hl, e5]
  · rintro e' H' hf h4 ⟨rfl, h1, h3, h2⟩
    have e5 : stc (iv .i16 (zr 12 0)) 0 (cs .i16 l) = some (iv .i16 l) := stc_all (by simp [hl])
    simp (disch := first | omega | assumption) [b292_1, h4, h3, h2, hl, e5, agg_cs, cp_all hl]
theorem call62 {pu : Bool} {H : Heap} {l : List Int} (hl : l.length = 144) : Call tab pu 62 [iv .i16 l] H = some (iv .i16 l, H) := by
  refine Call_wp t62 (.inr rfl) rfl ?_
  simp [c62, k62, zs_cs, agg_cs]
  refine WP_count 4 12 12 rfl (fun i e H' => H' = H ∧ e 1 = iv .i16 l ∧ e 3 = iv .i16 (cp l (i * 12)) ∧ e 2 = iv .i16 (zr 144 0)) (by decide) ?_ ?_ (by simp) (by simp [cp_zero hl])
  · rintro i e' H' hf hi hx e4 h4 ⟨rfl, h1, h3, h2⟩
    have hs := sub_length (l := l) (o := i * 12) (n := 12) (by omega)
    have e5 : stc (iv .i16 (cp l (i * 12))) (i * 12) (cs .i16 (sub l (i * 12) 12)) = some (iv .i16 (cp l ((i + 1) * 12))) := by
      rw [stc_cs (by rw [cp_length] <;> omega), cp_wrt (by omega), Nat.succ_mul]
    simp (disch := first | omega | assumption) [b62_1, h4, h1, h3, h2, hx, hi, e4, hl, e5, ldc_sub, call292, hs]
  · rintro e' H' hf h4 ⟨rfl, h1, h3, h2⟩
    have e5 : stc (iv .i16 (zr 144 0)) 0 (cs .i16 l) = some (iv .i16 l) := stc_all (by simp [hl])
    simp (disch := first | omega | assumption) [b62_1, h4, h3, h2, hl, e5, agg_cs, cp_all hl]
/-- The first place of a number with p, or -1. -/
def findI (p : Int → Bool) (l : List Int) : Int := match l.findIdx? p with
  | some i => i
  | none => -1
theorem findI_spec {p : Int → Bool} {l : List Int} {i : Nat} (hi : i < l.length) (hn : ∀ j, j < i → p (nth l j) = false) (hp : p (nth l i) = true) : findI p l = i := by
  have e : ∀ j (h : j < l.length), nth l j = l[j] := fun j h => nth_of (List.getElem?_eq_getElem h)
  have : l.findIdx? p = some i := by
    rw [List.findIdx?_eq_some_iff_getElem]
    refine ⟨hi, by rw [← e]; exact hp, fun j hj => ?_⟩
    have := hn j hj
    rw [e j (by omega)] at this
    simpa using this
  unfold findI
  rw [this]
theorem findI_none {p : Int → Bool} {l : List Int} (hn : ∀ j, j < l.length → p (nth l j) = false) : findI p l = -1 := by
  have : l.findIdx? p = none := by
    rw [List.findIdx?_eq_none_iff]
    intro x hx
    obtain ⟨j, hj, rfl⟩ := mem_nth hx
    exact hn j hj
  unfold findI
  rw [this]
theorem findI_ge {p : Int → Bool} {l : List Int} : decide (0 ≤ findI p l) = l.any p := by
  unfold findI
  cases h : l.findIdx? p with
  | none =>
    rw [List.findIdx?_eq_none_iff] at h
    have : l.any p = false := by rw [List.any_eq_false]; intro x hx; simp [h x hx]
    rw [this]; decide
  | some i =>
    rw [List.findIdx?_eq_some_iff_getElem] at h
    obtain ⟨hi, hp, _⟩ := h
    have : l.any p = true := List.any_eq_true.2 ⟨_, List.getElem_mem hi, hp⟩
    rw [this]; simp
theorem upto_succ {p : Nat → Prop} {i : Nat} (h : ∀ j, j < i → p j) (hi : p i) : ∀ j, j < i + 1 → p j := by
  intro j hj
  rcases Nat.lt_or_ge j i with h1 | h1
  · exact h j h1
  · obtain rfl : j = i := by omega
    exact hi
theorem call487 {pu : Bool} {H : Heap} {b off ver cap : Nat} {l : List Int} {F : Value} {p : Int → Bool} (hr : rd H b off ver l.length = some (cs .i16 l)) (hlen : l.length ≤ 1152921504606846976)
    (hF : ∀ n ∈ l, callV (Call tab) H F [.int .i16 n] = some (.bool (p n), H)) : Call tab pu 487 [slc b off ver l.length cap, F] H = some (.int .i64 (findI p l), H) := by
  refine Call_wp t487 (.inr rfl) rfl ?_
  simp [c487, k487]
  refine WP_count 8 l.length _ rfl (fun i e H' => H' = H ∧ e 7 = .int .i64 (l.length : Int) ∧ e 0 = slc b off ver l.length cap ∧ e 1 = F ∧ ∀ j, j < i → p (nth l j) = false) (by omega) ?_ ?_ (by simp) (by simp)
  · rintro i e' _ hf hi hx e4 h8 ⟨rfl, h7, h0, h1, hn⟩
    have hm := hF _ (nth_mem hi)
    cases hp : p (nth l i) with
    | true =>
      rw [hp] at hm
      simp (disch := first | omega | assumption) [b487_1, h8, h7, h0, h1, hx, rd_one hr, hi, hm, findI_spec hi hn hp]
    | false =>
      rw [hp] at hm
      simp (disch := first | omega | assumption) [b487_1, h8, h7, h0, h1, hx, rd_one hr, hi, hm]
      exact upto_succ hn hp
  · rintro e' _ hf h8 ⟨rfl, h7, h0, h1, hn⟩
    simp [b487_1, h8, h7, findI_none hn]
theorem call293 {pu : Bool} {H : Heap} {b off ver cap : Nat} {l : List Int} {F : Value} {p : Int → Bool} (hr : rd H b off ver l.length = some (cs .i16 l)) (hlen : l.length ≤ 1152921504606846976)
    (hF : ∀ n ∈ l, callV (Call tab) H F [.int .i16 n] = some (.bool (p n), H)) : Call tab pu 293 [slc b off ver l.length cap, F] H = some (.bool (l.any p), H) := by
  refine Call_wp t293 (.inr rfl) rfl ?_
  simp [c293, k293, call487 hr hlen hF, findI_ge]
/-- Rows of 12. -/
theorem rows_all {l : List Int} (hl : l.length = 144) {p : Int → Bool} (h : ∀ r, r < 12 → (sub l (r * 12) 12).all p = true) : l.all p = true := by
  refine all_nth fun j hj => ?_
  have h1 := h (j / 12) (by omega)
  rw [List.all_eq_true] at h1
  have := h1 (nth (sub l (j / 12 * 12) 12) (j % 12)) (nth_mem (by rw [sub_length] <;> omega))
  rwa [nth_sub (by omega), show j / 12 * 12 + j % 12 = j by omega] at this
theorem any_not {l : List Int} {p : Int → Bool} : (l.any fun n => !p n) = !l.all p := by induction l <;> simp_all
theorem all_false {l : List Int} {p : Int → Bool} {x : Int} (h : x ∈ l) (hp : p x = false) : l.all p = false := by
  rw [List.all_eq_false]; exact ⟨x, h, by simp [hp]⟩
theorem okAll_rows {l : List Int} (hl : l.length = 144) (h : ∀ r, r < 12 → okAll (sub l (r * 12) 12) = true) : okAll l = true := rows_all hl h
theorem call63 {pu : Bool} {H : Heap} {l : List Int} (hl : l.length = 144) (hw : ∀ n ∈ l, i16 n) : Call tab pu 63 [iv .i16 l] H = some (.bool (okAll l), H) := by
  refine Call_wp t63 (.inr rfl) rfl ?_
  simp [c63, k63, hl]
  refine WP_count 6 12 12 rfl (fun i e H' => e 5 = iv .i16 l ∧ Pre H H' ∧ ∀ j, j < i → okAll (sub l (j * 12) 12) = true) (by omega) ?_ ?_ (by simp) (by simp)
  · rintro i e' H' hf hi hx e4 h6 ⟨h5, hpre, hn⟩
    have hs := sub_length (l := l) (o := i * 12) (n := 12) (by omega)
    have hc := call293 (pu := true) (H := H' ++ [⟨cs .i16 (sub l (i * 12) 12), 1, 0, false⟩]) (b := H'.length) (off := 0) (ver := 0) (cap := 12) (l := sub l (i * 12) 12) (F := .func (.func 294) #[] #[]) (p := fun n => !okL n) (by
      rw [rd_last rfl]; simp) (by omega) (fun n hn => by simp [call294 (hw n (sub_mem hn))])
    rw [hs, any_not, ← okAll] at hc
    have e2 := wr_last (n0 := H.length) (wb := false) (H := H') (b := ⟨zs 12 (.int .i16 0), 1, 0, false⟩) (vs := cs .i16 (sub l (i * 12) 12)) rfl rfl hpre.len (by simp [hs])
    have e3 := slcP_last (H := H') (b := ⟨cs .i16 (sub l (i * 12) 12), 1, 0, false⟩) (n := 12) (esz := 1) rfl rfl (by simp [hs])
    cases hany : okAll (sub l (i * 12) 12) with
    | true =>
      rw [hany] at hc
      simp (disch := omega) [b63_1, h6, h5, hx, hl, idxV_sub, hs, e2, e3, hc, wbOf, e4, hi, hpre.app]
      simpa using upto_succ hn hany
    | false =>
      rw [hany] at hc
      have : okAll l = false := by
        obtain ⟨x, hx, hp⟩ := List.all_eq_false.1 (show (sub l (i * 12) 12).all okL = false from hany)
        exact all_false (sub_mem hx) (by simpa using hp)
      simp (disch := omega) [b63_1, h6, h5, hx, hl, idxV_sub, hs, e2, e3, hc, wbOf, this, hpre.app.take]
  · rintro e' H' hf h6 ⟨h5, hpre, hn⟩
    simp [b63_1, h6, hpre.take, okAll_rows hl hn]
theorem inner291 {H : Heap} {b ver n0 : Nat} {wb : Bool} {l : List Int} (hl : l.length = 144) (hw : ∀ n ∈ l, i16 n) (hr : rd H b 0 ver 144 = some (cs .i16 l)) {y : Nat} (hy : y < 12) {e : Env} {fs : List Fr} {Q : Ex → Env → Heap → Prop}
    (h0 : e 0 = adr b 0 ver) (h3 : e 3 = .int .i64 (y : Int)) (h4 : e 4 = .int .i64 0)
    (q1 : ∀ e', e' 0 = e 0 → e' 3 = e 3 → okAll (sub l (y * 12) 12) = true → KK tab n0 wb (.exit 2) fs e' H Q) (q2 : ∀ e', e' 2 = .bool false → okAll l = false → KK tab n0 wb .ret fs e' H Q) :
    WK tab n0 wb (.loop b291_1) fs e H Q := by
  refine WP_count 4 12 12 rfl (fun i e' H' => H' = H ∧ ∀ j, j < i → okL (nth l (y * 12 + j)) = true) (by omega) ?_ ?_ h4 ⟨rfl, fun j hj => by omega⟩
  · rintro i e' H' hf hi hx e4 h4 ⟨rfl, hn⟩
    have h0 := (hf 0 (by decide)).trans h0
    have h3 := (hf 3 (by decide)).trans h3
    have hd := rd_one hr (o := y * 12 + i) (by omega)
    have hj : y * 12 + i < l.length := by omega
    have hm := hw _ (nth_mem hj)
    rw [Nat.zero_add] at hd
    have hok : okL (nth l (y * 12 + i)) = decide (0 ≤ nth l (y * 12 + i) ∧ nth l (y * 12 + i) ≤ 1000) := rfl
    cases hk : okL (nth l (y * 12 + i)) with
    | true =>
      rw [hk] at hok
      simp (disch := omega) [b291_1, h4, h0, h3, hx, hi, hy, hd, call304, ← hok, e4, -Bool.decide_and]
      exact upto_succ hn hk
    | false =>
      rw [hk] at hok
      simp (disch := omega) [b291_1, h4, h0, h3, hx, hi, hy, hd, call304, ← hok, e4, -Bool.decide_and]
      exact q2 _ (by simp) (all_false (nth_mem hj) hk)
  · rintro e' H' hf h4 ⟨rfl, hn⟩
    simp [b291_1, h4]
    refine q1 _ (by simp [hf 0 (by decide)]) (by simp [hf 3 (by decide)]) (all_nth fun j hj => ?_)
    rw [sub_length (by omega)] at hj
    rw [nth_sub hj]; exact hn j hj
theorem call291 {pu : Bool} {H : Heap} {b ver : Nat} {l : List Int} (hl : l.length = 144) (hw : ∀ n ∈ l, i16 n) (hr : rd H b 0 ver 144 = some (cs .i16 l)) : Call tab pu 291 [adr b 0 ver] H = some (.bool (okAll l), H) := by
  refine Call_wp t291 (.inr rfl) rfl ?_
  simp [c291, k291]
  refine WP_count 3 12 12 rfl (fun i e H' => H' = H ∧ e 0 = adr b 0 ver ∧ ∀ j, j < i → okAll (sub l (j * 12) 12) = true) (by omega) ?_ ?_ (by simp) (by simp)
  · rintro i e' H' hf hi hx e4 h3 ⟨rfl, h0, hn⟩
    simp [b291_2, h3, hx]
    refine inner291 hl hw hr hi (by simp [h0]) (by simp [h3]) (by simp) (fun e1 g0 g3 h => ?_) (fun e1 g2 h => ?_)
    · simp [h0, h3] at g0 g3
      simp [g0, g3, e4]
      simpa using upto_succ hn h
    · simp [g2, h]
  · rintro e' H' hf h3 ⟨rfl, h0, hn⟩
    simp [b291_2, h3, okAll_rows hl hn]
theorem step12 {x y : Nat} (hx : x < 12) (hy : y < 12) : y * 12 + x < 144 := by omega
theorem stc_at {k : IntKind} {l l' : List Int} {i : Nat} {n : Int} (h : i < l.length) (hl : l.set i n = l') : stc (iv k l) i [.int k n] = some (iv k l') := by rw [stc_one h rfl, hl]
theorem stc_zr {k : IntKind} {n : Nat} {l : List Int} (h : l.length = n) : stc (iv k (zr n 0)) 0 (cs k l) = some (iv k l) := stc_all (by simp [h])
def bit (x : Nat) : Int := 2 ^ x
theorem bit_ok {x : Nat} (h : x < 12) : 0 < bit x ∧ bit x ≤ 2048 := by
  have : x = 0 ∨ x = 1 ∨ x = 2 ∨ x = 3 ∨ x = 4 ∨ x = 5 ∨ x = 6 ∨ x = 7 ∨ x = 8 ∨ x = 9 ∨ x = 10 ∨ x = 11 := by omega
  rcases this with rfl | rfl | rfl | rfl | rfl | rfl | rfl | rfl | rfl | rfl | rfl | rfl <;> decide
theorem shl_bit {x : Nat} (h : x < 12) : shiftOf .shl .u16 1 (x : Int) = some (.int .u16 (bit x)) := by
  have hb := bit_ok h
  unfold shiftOf
  rw [if_neg (by omega)]
  have e1 : min ((x : Int).toNat) (IntKind.bits .u16) = x := by
    have : IntKind.bits .u16 = 16 := rfl
    omega
  simp only [e1]
  show some (Value.int .u16 (IntKind.wrap .u16 (1 * bit x))) = _
  rw [Int.one_mul, wrapu16 (by omega)]
def putR (row : Int) (x : Nat) : Int := bitsOf .or .u16 row (bit x)
def putF (l : List Int) (x y : Nat) : List Int := l.set y (putR (nth l y) x)
theorem putR_eq {a : Int} {x : Nat} : bitsOf .or .u16 a (bit x) = putR a x := rfl
theorem putF_eq {l : List Int} {x y : Nat} : l.set y (putR (nth l y) x) = putF l x y := rfl
theorem putF_length {l : List Int} {x y : Nat} : (putF l x y).length = l.length := by simp [putF]
theorem call342 {pu : Bool} {H : Heap} {x y : Nat} (hx : x < 12) (hy : y < 12) : Call tab pu 342 [.int .i64 x, .int .i64 y] H = some (.bool true, H) := by
  refine Call_wp t342 (.inr rfl) rfl ?_
  have e1 : (x : Int) ≤ 11 := by omega
  have e2 : (y : Int) ≤ 11 := by omega
  simp [c342, k342, call304, e1, e2]
theorem call346 {pu : Bool} {H : Heap} {l : List Int} {x y : Nat} (hl : l.length = 12) (hx : x < 12) (hy : y < 12) : Call tab pu 346 [iv .u16 l, .int .i64 x, .int .i64 y] H = some (iv .u16 (putF l x y), H) := by
  refine Call_wp t346 (.inr rfl) rfl ?_
  have e9 := stc_at (k := .u16) (l := l) (i := y) (n := putR (nth l y) x) (l' := putF l x y) (by omega) rfl
  have hlp : (putF l x y).length = 12 := by rw [putF_length, hl]
  have hz := stc_zr (k := .u16) hlp
  simp (disch := omega) [c346, k346, zs_cs, agg_cs, hy, hx, hl, shl_bit, putR_eq, e9, hlp, hz]
theorem call305 {H : Heap} {b ver esz : Nat} {l : List Int} (hg : H[b]? = some ⟨cs .u16 l, esz, ver, false⟩) {x y : Nat} (hl : l.length = 12) (hx : x < 12) (hy : y < 12) :
    Call tab false 305 [adr b 0 ver, .int .i64 x, .int .i64 y] H = some (tup [], H.set b ⟨cs .u16 (putF l x y), esz, ver, false⟩) := by
  refine Call_wp t305 (.inl rfl) rfl ?_
  have hr := rd_at (off := 0) (n := 12) (ver := ver) hg rfl (by simp [hl])
  simp [take_all, hl] at hr
  have h1 := rd_one hr hy
  have h2 := fun v => wr_at (n0 := H.length) (wb := true) (off := y) (vs := [.int .u16 v]) (ver := ver) hg rfl rfl (may_ints (l := [v])) (by simp [hl]; omega)
  have h3 : ∀ v, splice (cs .u16 l) y [.int .u16 v] = cs .u16 (l.set y v) := fun v => by rw [splice_one (by simp [hl]; omega)]; simp [cs, List.map_set]
  rw [Nat.zero_add] at h1
  simp (disch := omega) [c305, k305, call342 hx hy, hy, hx, shl_bit, h1, h2, h3, wbOf, take_all, putR_eq, putF_eq, hl]
def whereN (p : Nat → Nat → Bool) (k : Nat) : List Int := itN (fun k f => if p (k % 12) (k / 12) = true then putF f (k % 12) (k / 12) else f) (zr 12 0) k
theorem whereN_zero {p : Nat → Nat → Bool} : whereN p 0 = zr 12 0 := itN_zero
theorem whereN_succ {p : Nat → Nat → Bool} {x y : Nat} (hx : x < 12) : whereN p (y * 12 + x + 1) = if p x y = true then putF (whereN p (y * 12 + x)) x y else whereN p (y * 12 + x) := by
  have := itN_succ (f := fun k f => if p (k % 12) (k / 12) = true then putF f (k % 12) (k / 12) else f) (a := zr 12 0) (k := y * 12 + x)
  simp only [show (y * 12 + x) % 12 = x by omega, show (y * 12 + x) / 12 = y by omega] at this
  exact this
theorem whereN_length {p : Nat → Nat → Bool} {k : Nat} : (whereN p k).length = 12 := by
  induction k with
  | zero => rw [whereN_zero]; simp
  | succ k ih =>
    rw [whereN, itN_succ]
    split
    · rw [putF_length]; exact ih
    · exact ih
theorem call306 {pu : Bool} {H : Heap} {F : Value} {p : Nat → Nat → Bool} (hF : ∀ x y : Nat, x < 12 → y < 12 → callV (Call tab) H F [.int .i64 x, .int .i64 y] = some (.bool (p x y), H)) : Call tab pu 306 [F] H = some (iv .u16 (whereN p 144), H) := by
  refine Call_wp t306 (.inr rfl) rfl ?_
  have hz := stc_zr (k := .u16) (n := 12) (l := zr 12 0) (by simp)
  simp [c306, k306, zs_cs, agg_cs, fill, hz]
  refine WP_forH 7 12 12 rfl (by omega) (fun y e => e 0 = F ∧ e 2 = iv .u16 (zr 12 0) ∧ e 3 = iv .u16 (whereN p (y * 12))) ?_ ?_ (by simp) (by simp [whereN_zero])
  · rintro y e hy hyy e5 h7 ⟨h0, h2, h3⟩
    simp [b306_2, h7, hyy]
    refine WP_forH 10 12 12 rfl (by omega) (fun x e => e 0 = F ∧ e 2 = iv .u16 (zr 12 0) ∧ e 7 = .int .i64 y ∧ e 4 = .int .i64 y ∧ e 3 = iv .u16 (whereN p (y * 12 + x))) ?_ ?_ (by simp) (by simp [h0, h2, h3, h7])
    · rintro x e hx hxx e6 h10 ⟨h0, h2, h7, h4, h3⟩
      have hl := whereN_length (p := p) (k := y * 12 + x)
      have hs := whereN_succ (p := p) (y := y) hx
      have hc := hF x y hx hy
      cases hp : p x y with
      | true =>
        rw [hp] at hs hc
        have hlp : (putF (whereN p (y * 12 + x)) x y).length = 12 := by rw [putF_length, hl]
        have hst : stc (iv .u16 (whereN p (y * 12 + x))) 0 (cs .u16 (putF (whereN p (y * 12 + x)) x y)) = some (iv .u16 (putF (whereN p (y * 12 + x)) x y)) := stc_all (by rw [hlp, hl])
        simp [b306_1, h10, hxx, h0, h2, h7, h4, h3, hc, hl, call346 hl hx hy, hst, hlp, e6, ← Nat.add_assoc, hs]
      | false =>
        rw [hp] at hs hc
        simp [b306_1, h10, hxx, h0, h2, h7, h4, h3, hc, e6, ← Nat.add_assoc, hs]
    · rintro e h10 ⟨h0, h2, h7, h4, h3⟩
      simp [b306_1, h10, h0, h2, h7, h3, e5, Nat.add_mul]
  · rintro e h7 ⟨h0, h2, h3⟩
    have hl := whereN_length (p := p) (k := 144)
    have hz := stc_zr (k := .u16) (n := 12) hl
    simp [b306_2, h7, h2, h3, hl, hz, agg_cs]
def seeP (l : List Int) (lev : Int) (x y : Nat) : Bool := decide (lev ≤ nth l (y * 12 + x))
theorem call307 {H : Heap} {b c : Nat} {l : List Int} {lev : Int} (hl : l.length = 144) (hw : ∀ n ∈ l, i16 n) (hr : rd H b 0 0 144 = some (cs .i16 l)) (hc : rd H c 0 0 1 = some (cs .i64 [lev])) {x y : Nat} (hx : x < 12) (hy : y < 12) :
    callV (Call tab) H (.func (.func 307) #[] #[adr b 0 0, adr c 0 0]) [.int .i64 x, .int .i64 y] = some (.bool (seeP l lev x y), H) := by
  have e1 : (#[adr b 0 0, adr c 0 0] : Array Value) = [adr b 0 0, adr c 0 0].toArray := rfl
  rw [e1, callV_func]
  refine Call_wp t307 (.inr rfl) rfl ?_
  have h1 := rd_one hr (step12 hx hy)
  have h2 := hw _ (nth_mem (l := l) (i := y * 12 + x) (by have := step12 hx hy; omega))
  rw [Nat.zero_add] at h1
  have h3 : nth [lev] 0 = lev := rfl
  have h4 : rd H c 0 0 1 = some [.int .i64 lev] := hc
  simp (disch := omega) [c307, k307, hx, hy, h1, h4, seeP]
def seeR (l : List Int) (lev : Int) : Value := if okAll l = true then if 0 ≤ lev ∧ lev ≤ 1000 then tup [iv .u16 (whereN (seeP l lev) 144), .int .i64 0] else tup [iv .u16 (zr 12 0), .int .i64 2] else tup [iv .u16 (zr 12 0), .int .i64 1]
theorem call77 {pu : Bool} {H : Heap} {l : List Int} {lev : Int} (hl : l.length = 144) (hw : ∀ n ∈ l, i16 n) : Call tab pu 77 [iv .i16 l, .int .i64 lev] H = some (seeR l lev, H) := by
  refine Call_wp t77 (.inr rfl) rfl ?_
  obtain ⟨G1, hG1⟩ : ∃ G, G = H ++ [⟨cs .i16 l, 1, 0, false⟩] := ⟨_, rfl⟩
  obtain ⟨G, hG⟩ : ∃ G, G = G1 ++ [⟨[.int .i64 lev], 1, 0, false⟩] := ⟨_, rfl⟩
  have hT : G.take H.length = H := by rw [hG, hG1]; simp
  have hr : rd G H.length 0 0 144 = some (cs .i16 l) := by rw [hG, hG1]; exact rd_app (rd_last rfl (by simp [hl]))
  have hr2 : rd G G1.length 0 0 1 = some [.int .i64 lev] := by rw [hG]; exact rd_last rfl rfl
  have hc := call63 (pu := true) (H := G) hl hw
  have hz : stc (iv .u16 (zr 12 0)) 0 (cs .u16 (zr 12 0)) = some (iv .u16 (zr 12 0)) := stc_zr (by simp)
  cases hk : okAll l with
  | false => simp [c77, k77, hl, ← hG1, ← hG, hr, hr2, hT, hc, hk, seeR, zs_cs, agg_cs, fill, hz]
  | true =>
    by_cases hb : 0 ≤ lev ∧ lev ≤ 1000
    · have hc2 := call306 (pu := true) (H := G) (p := seeP l lev) fun x y hx hy => call307 hl hw hr hr2 hx hy
      have hl2 := whereN_length (p := seeP l lev) (k := 144)
      have hz2 := stc_zr (k := .u16) hl2
      simp [c77, k77, hl, ← hG1, ← hG, hr, hr2, hT, hc, hk, seeR, zs_cs, agg_cs, fill, hz2, call295, hb, hc2, hl2]
    · have hb' : (decide (0 ≤ lev) && decide (lev ≤ 1000)) = false := by simpa using hb
      simp [c77, k77, hl, ← hG1, ← hG, hr, hr2, hT, hc, hk, seeR, zs_cs, agg_cs, fill, hz, call295, hb, hb']
theorem call76 {pu : Bool} {H : Heap} {l : List Int} {lev : Int} (hl : l.length = 144) (hw : ∀ n ∈ l, i16 n) : Call tab pu 76 [iv .i16 l, .int .i64 lev] H = some (seeR l lev, H) := by
  refine Call_wp t76 (.inr rfl) rfl ?_
  obtain ⟨G, hG⟩ : ∃ G, G = H ++ [⟨cs .i16 l, 1, 0, false⟩] := ⟨_, rfl⟩
  have hn : H.length ≤ G.length := by rw [hG]; simp
  have hT : G.take H.length = H := by rw [hG]; simp
  have hT2 : ∀ b, (G ++ [b]).take H.length = H := fun b => by rw [List.take_append_of_le_length hn, hT]
  have hr : rd G H.length 0 0 144 = some (cs .i16 l) := by rw [hG]; exact rd_last rfl (by simp [hl])
  have hc := call291 (pu := true) hl hw hr
  have hz : stc (iv .u16 (zr 12 0)) 0 (cs .u16 (zr 12 0)) = some (iv .u16 (zr 12 0)) := stc_zr (by simp)
  cases hk : okAll l with
  | false => simp [c76, k76, hl, ← hG, hr, hT, hc, hk, seeR, zs_cs, agg_cs, fill, hz]
  | true =>
    by_cases hb : 0 ≤ lev ∧ lev ≤ 1000
    · have hwr : wr H.length false (G ++ [⟨cs .u16 (zr 12 0), 1, 0, false⟩]) G.length 0 0 (cs .u16 (zr 12 0)) = some (G ++ [⟨cs .u16 (zr 12 0), 1, 0, false⟩]) := wr_last rfl rfl hn (by simp)
      simp [c76, k76, hl, ← hG, hr, hT, hc, hk, seeR, zs_cs, agg_cs, fill, call304, hb, hwr, wbOf]
      refine WP_count 7 12 12 rfl (fun y e H' => H' = G ++ [⟨cs .u16 (whereN (seeP l lev) (y * 12)), 1, 0, false⟩] ∧ e 1 = .int .i64 lev ∧ e 2 = adr H.length 0 0 ∧ e 6 = adr G.length 0 0 ∧ e 4 = iv .u16 (zr 12 0)) (by omega) ?_ ?_ (by simp) (by simp [whereN_zero])
      · rintro y e _ _ hy hyy e5 h7 ⟨rfl, h1, h2, h6, h4⟩
        simp [b76_2, h7, hyy]
        refine WP_count 8 12 12 rfl (fun x e H' => H' = G ++ [⟨cs .u16 (whereN (seeP l lev) (y * 12 + x)), 1, 0, false⟩] ∧ e 1 = .int .i64 lev ∧ e 2 = adr H.length 0 0 ∧ e 6 = adr G.length 0 0 ∧ e 4 = iv .u16 (zr 12 0) ∧ e 7 = .int .i64 y) (by omega) ?_ ?_ (by simp) (by simp [h1, h2, h6, h4, h7])
        · rintro x e _ _ hx hxx e6 h8 ⟨rfl, h1, h2, h6, h4, h7⟩
          have d1 := rd_app (L := [⟨cs .u16 (whereN (seeP l lev) (y * 12 + x)), 1, 0, false⟩]) (rd_one hr (step12 hx hy))
          rw [Nat.zero_add] at d1
          have d2 := hw _ (nth_mem (l := l) (i := y * 12 + x) (by have := step12 hx hy; omega))
          have hl3 := whereN_length (p := seeP l lev) (k := y * 12 + x)
          have hs := whereN_succ (p := seeP l lev) (y := y) hx
          have hcc := call305 (H := G ++ [⟨cs .u16 (whereN (seeP l lev) (y * 12 + x)), 1, 0, false⟩]) (b := G.length) get_last hl3 hx hy
          rw [set_last] at hcc
          cases hp : seeP l lev x y with
          | true =>
            rw [if_pos hp] at hs
            have hp' : lev ≤ nth l (y * 12 + x) := by simpa [seeP] using hp
            have he : elder H.length false (G ++ [⟨cs .u16 (whereN (seeP l lev) (y * 12 + x)), 1, 0, false⟩]) (tup [], G ++ [⟨cs .u16 (putF (whereN (seeP l lev) (y * 12 + x)) x y), 1, 0, false⟩]) = some (tup [], G ++ [⟨cs .u16 (putF (whereN (seeP l lev) (y * 12 + x)) x y), 1, 0, false⟩]) := elder_same (by rw [hT2, hT2])
            simp (disch := omega) [b76_1, h8, hxx, hx, hy, h1, h2, h6, h4, h7, d1, hp', hcc, wbOf, he, e6, ← Nat.add_assoc, hs]
          | false =>
            rw [hp, if_neg (by simp)] at hs
            have hp' : ¬ lev ≤ nth l (y * 12 + x) := by simpa [seeP] using hp
            simp (disch := omega) [b76_1, h8, hxx, hx, hy, h1, h2, h6, h4, h7, d1, hp', e6, ← Nat.add_assoc, hs]
        · rintro e _ _ h8 ⟨rfl, h1, h2, h6, h4, h7⟩
          simp [b76_1, h8, h1, h2, h6, h4, h7, e5, Nat.add_mul]
      · rintro e _ _ h7 ⟨rfl, h1, h2, h6, h4⟩
        have hl2 := whereN_length (p := seeP l lev) (k := 144)
        have hz2 := stc_zr (k := .u16) hl2
        have d3 : rd (G ++ [⟨cs .u16 (whereN (seeP l lev) (12 * 12)), 1, 0, false⟩]) G.length 0 0 12 = some (cs .u16 (whereN (seeP l lev) 144)) := rd_last rfl (by simp [whereN_length])
        simp [b76_2, h7, h2, h6, h4, d3, hl2, agg_cs, hz2, hT2]
    · have hb' : (decide (0 ≤ lev) && decide (lev ≤ 1000)) = false := by simpa using hb
      simp [c76, k76, hl, ← hG, hr, hT, hc, hk, seeR, zs_cs, agg_cs, fill, hz, call304, hb, hb']
theorem call78 {pu : Bool} {H : Heap} {l : List Int} (hl : l.length = 12) : Call tab pu 78 [iv .u16 l, iv .u16 l] H = some (.bool true, H) := by
  refine Call_wp t78 (.inr rfl) rfl ?_
  simp [c78, k78]
  refine WP_forH 5 12 12 rfl (by omega) (fun i e => e 2 = iv .u16 l ∧ e 3 = iv .u16 l) ?_ ?_ (by simp) (by simp)
  · rintro i e hi hx e4 h5 ⟨h2, h3⟩
    simp (disch := omega) [b78_1, h5, hx, hi, h2, h3, e4, hl]
  · rintro e h5 ⟨h2, h3⟩
    simp [b78_1, h5]
theorem call8 {H : Heap} {l : List Int} {lev : Int} (hl : l.length = 144) (hw : ∀ n ∈ l, i16 n) : Call tab false 8 [iv .i16 l, .int .i64 lev] H = some (.bool true, H) := by
  refine Call_wp t8 (.inl rfl) rfl ?_
  obtain ⟨m, c, hm, h⟩ : ∃ m c, m.length = 12 ∧ seeR l lev = tup [iv .u16 m, .int .i64 c] := by
    unfold seeR
    split
    · split
      · exact ⟨_, _, whereN_length, rfl⟩
      · exact ⟨_, _, by simp, rfl⟩
    · exact ⟨_, _, by simp, rfl⟩
  have hz := stc_zr (k := .u16) hm
  simp [c8, k8, hl, call62 hl, call76 hl hw, call77 hl hw, h, zs_cs, agg_cs, hm, hz, call78 hm, skip]
end Fb
