/- What each function computes. -/
import Derived.Test.YtkjlnflhimibdaaUse1
set_option linter.unusedVariables false
set_option linter.unusedSimpArgs false
namespace Fb
open Go
theorem cnt1_not {q : Nat → Bool} {k : Nat} : cnt1 q k + cnt1 (fun i => !q i) k = k := by
  induction k with
  | zero => rfl
  | succ k ih =>
    rw [cnt1_succ, cnt1_succ]
    cases h : q k <;> simp <;> omega
theorem cnt1_shift {q r : Nat → Bool} {s k : Nat} (h : ∀ i, i < k → q i = true → s ≤ i ∧ r (i - s) = true) : cnt1 q k ≤ cnt1 r (k - s) := by
  induction k with
  | zero => exact Nat.zero_le _
  | succ k ih =>
    have ih := ih fun i hi => h i (by omega)
    rw [cnt1_succ]
    split
    · rename_i hq
      obtain ⟨h1, h2⟩ := h k (by omega) hq
      rw [show k + 1 - s = (k - s) + 1 by omega, cnt1_succ, if_pos h2]; omega
    · have : cnt1 r (k - s) ≤ cnt1 r (k + 1 - s) := by
        by_cases hs : s ≤ k
        · rw [show k + 1 - s = (k - s) + 1 by omega, cnt1_succ]; omega
        · rw [show k - s = 0 by omega]; exact Nat.zero_le _
      omega
theorem cnt1_mono {q : Nat → Bool} {k m : Nat} (h : k ≤ m) : cnt1 q k ≤ cnt1 q m := by
  induction m with
  | zero => rw [show k = 0 by omega]; exact Nat.le_refl _
  | succ m ih =>
    by_cases hk : k = m + 1
    · rw [hk]; exact Nat.le_refl _
    · have := ih (by omega)
      rw [cnt1_succ]; omega
theorem cnt1_split {q r : Nat → Bool} {k : Nat} : cnt1 q k = cnt1 (fun i => q i && r i) k + cnt1 (fun i => q i && !r i) k := by
  induction k with
  | zero => rfl
  | succ k ih =>
    rw [cnt1_succ, cnt1_succ, cnt1_succ]
    cases h : q k <;> cases h2 : r k <;> simp <;> omega
/-- At the edge where strokes begin. -/
def edB (d : Bool) (p : Nat) : Bool := if d = true then decide (p / 12 = 0) else decide (p % 12 = 0)
theorem edB_cnt : ∀ d, cnt1 (edB d) 144 = 12 := by decide +kernel
theorem skS_cnt {f : List Int} {d : Bool} : (skS f d 144).length = cnt1 (stB f d) 144 := by
  unfold skS; rw [List.length_map]; rfl
theorem skS_few {f : List Int} {d : Bool} : (skS f d 144).length ≤ 80 := by
  rw [skS_cnt]
  have h1 : cnt1 (stB f d) 144 ≤ cnt1 (hasK f) 144 := cnt1_le fun i _ h => by unfold stB at h; rw [Bool.and_eq_true] at h; exact h.1
  have h2 := cnt1_split (q := stB f d) (r := edB d) (k := 144)
  have h3 : cnt1 (fun i => stB f d i && edB d i) 144 ≤ cnt1 (edB d) 144 := cnt1_le fun i _ h => by rw [Bool.and_eq_true] at h; exact h.2
  have h4 : cnt1 (fun i => stB f d i && !edB d i) 144 ≤ cnt1 (fun i => !hasK f i) (144 - (if d = true then 12 else 1)) := cnt1_shift fun i hi h => by
    rw [Bool.and_eq_true] at h
    obtain ⟨h1, h2⟩ := h
    unfold stB begK begB at h1
    rw [Bool.and_eq_true] at h1
    have hb := h1.2
    cases d with
    | false =>
      have he : i % 12 ≠ 0 := by simpa [edB] using h2
      simp [dX, dY] at hb ⊢
      refine ⟨by omega, ?_⟩
      have e1 : ((i % 12 : Nat) : Int) - 1 = ((i % 12 - 1 : Nat) : Int) := by omega
      have hb' : hasI f (((i % 12 : Nat) : Int) - 1) ((i / 12 : Nat) : Int) = false := hb
      rw [e1, hasI_nat (by omega) (by omega)] at hb'
      unfold hasK
      rw [show (i - 1) % 12 = i % 12 - 1 by omega, show (i - 1) / 12 = i / 12 by omega]
      exact hb'
    | true =>
      have he : i / 12 ≠ 0 := by
        intro h; simp [edB, h] at h2
      simp [dX, dY] at hb ⊢
      refine ⟨by omega, ?_⟩
      have e1 : ((i / 12 : Nat) : Int) - 1 = ((i / 12 - 1 : Nat) : Int) := by omega
      have hb' : hasI f ((i % 12 : Nat) : Int) (((i / 12 : Nat) : Int) - 1) = false := hb
      rw [e1, hasI_nat (by omega) (by omega)] at hb'
      unfold hasK
      rw [show (i - 12) % 12 = i % 12 by omega, show (i - 12) / 12 = i / 12 - 1 by omega]
      exact hb'
  have h5 := cnt1_not (q := hasK f) (k := 144)
  have h6 := cnt1_mono (q := fun i => !hasK f i) (show 144 - (if d = true then 12 else 1) ≤ 144 by omega)
  have h7 := edB_cnt d
  omega
def rsum (g : Nat → Nat) : Nat → Nat
  | 0 => 0
  | n + 1 => rsum g n + g n
theorem rsum_congr {g h : Nat → Nat} : ∀ {n : Nat}, (∀ i, i < n → g i = h i) → rsum g n = rsum h n
  | 0, _ => rfl
  | n + 1, e => by
    show rsum g n + g n = rsum h n + h n
    rw [rsum_congr fun i hi => e i (by omega), e n (by omega)]
theorem rsum_add {g h : Nat → Nat} : ∀ {n : Nat}, rsum (fun i => g i + h i) n = rsum g n + rsum h n
  | 0 => rfl
  | n + 1 => by
    show rsum (fun i => g i + h i) n + (g n + h n) = rsum g n + g n + (rsum h n + h n)
    rw [rsum_add]; omega
theorem rsum_none : ∀ {n : Nat}, rsum (fun _ => 0) n = 0
  | 0 => rfl
  | n + 1 => by show rsum (fun _ => 0) n + 0 = 0; rw [rsum_none]
theorem rsum_swap {h : Nat → Nat → Nat} {n : Nat} : ∀ {m : Nat}, rsum (fun y => rsum (fun x => h x y) n) m = rsum (fun x => rsum (fun y => h x y) m) n
  | 0 => rsum_none.symm
  | m + 1 => by
    show rsum (fun y => rsum (fun x => h x y) n) m + rsum (fun x => h x m) n = rsum (fun x => rsum (fun y => h x y) m + h x m) n
    rw [rsum_swap, rsum_add]
theorem rsum_rev {g : Nat → Nat} : rsum (fun x => g (11 - x)) 12 = rsum g 12 := by
  simp only [rsum]
  simp
  omega
def b01 (b : Bool) : Nat := if b = true then 1 else 0
theorem cnt1_rows {q : Nat → Bool} : ∀ {m : Nat}, cnt1 q (m * 12) = rsum (fun y => rsum (fun x => b01 (q (y * 12 + x))) 12) m
  | 0 => rfl
  | m + 1 => by
    have key : ∀ j, cnt1 q (m * 12 + j) = cnt1 q (m * 12) + rsum (fun x => b01 (q (m * 12 + x))) j := by
      intro j
      induction j with
      | zero => rfl
      | succ j ih =>
        rw [← Nat.add_assoc, cnt1_succ, ih]
        show _ = cnt1 q (m * 12) + (rsum (fun x => b01 (q (m * 12 + x))) j + b01 (q (m * 12 + j)))
        unfold b01
        omega
    rw [Nat.succ_mul, key 12, cnt1_rows]; rfl
/-- A turned frame. -/
def trF (f : List Int) : List Int := whereN (fun x y => hasF f y (11 - x)) 144
theorem trF_V {f : List Int} : VF (trF f) := by unfold trF; rw [whereN_dots]; exact dotsV
theorem trF_has {f : List Int} {x y : Nat} (hx : x < 12) (hy : y < 12) : hasF (trF f) x y = hasF f y (11 - x) := by unfold trF; rw [whereN_dots, hasF_dots hx hy]
theorem stB_turn {f : List Int} {x y : Nat} (hx : x < 12) (hy : y < 12) : stB (trF f) true (y * 12 + x) = stB f false ((11 - x) * 12 + y) := by
  have e1 : (y * 12 + x) % 12 = x := by omega
  have e2 : (y * 12 + x) / 12 = y := by omega
  have e3 : ((11 - x) * 12 + y) % 12 = y := by omega
  have e4 : ((11 - x) * 12 + y) / 12 = 11 - x := by omega
  unfold stB begK begB hasK
  rw [e1, e2, e3, e4, trF_has hx hy]
  congr 2
  show hasI (trF f) ((x : Int) - 0) ((y : Int) - 1) = hasI f ((y : Int) - 1) (((11 - x : Nat) : Int) - 0)
  rw [Int.sub_zero, Int.sub_zero]
  by_cases h0 : y = 0
  · subst h0; simp [hasI, okP]
  · have e5 : (y : Int) - 1 = ((y - 1 : Nat) : Int) := by omega
    rw [e5, hasI_nat hx (by omega), hasI_nat (by omega) (by omega), trF_has hx (by omega)]
theorem turn_cnt {f : List Int} : (skS (trF f) true 144).length = (skS f false 144).length := by
  rw [skS_cnt, skS_cnt, show 144 = 12 * 12 from rfl, cnt1_rows, cnt1_rows]
  have h1 : rsum (fun y => rsum (fun x => b01 (stB (trF f) true (y * 12 + x))) 12) 12 = rsum (fun y => rsum (fun x => b01 (stB f false (x * 12 + y))) 12) 12 :=
    rsum_congr fun y hy => by
      rw [← rsum_rev (g := fun x => b01 (stB f false (x * 12 + y)))]
      exact rsum_congr fun x hx => by rw [stB_turn hx hy]
  rw [h1]
  exact rsum_swap (h := fun x y => b01 (stB f false (x * 12 + y)))
theorem call394 {H : Heap} {b : Nat} {f : List Int} (hw : FrW f) (hr : rd H b 0 0 12 = some (cs .u16 f)) {x y : Nat} (hx : x < 12) (hy : y < 12) :
    callV (Call tab) H (.func (.func 394) #[] #[adr b 0 0]) [.int .i64 x, .int .i64 y] = some (.bool (hasF f y (11 - x)), H) := by
  have e1 : (#[adr b 0 0] : Array Value) = [adr b 0 0].toArray := rfl
  rw [e1, callV_func]
  refine Call_wp t394 (.inr rfl) rfl ?_
  have w1 : IntKind.wrap .i64 (11 - (x : Int)) = ((11 - x : Nat) : Int) := by rw [wrap64 (by omega)]; omega
  have c1 := call395 (pu := true) (H := H) hw (x := y) (y := 11 - x) hy (by omega)
  simp [c394, k394, hr, agg_cs, w1, c1]
theorem call173 {pu : Bool} {H : Heap} {f : List Int} (hf : VF f) : Call tab pu 173 [iv .u16 f] H = some (tup [iv .u16 (trF f), .int .i64 0], H) := by
  refine Call_wp t173 (.inr rfl) rfl ?_
  obtain ⟨H1, hH1⟩ : ∃ H1, H1 = H ++ [(⟨cs .u16 f, 1, 0, false⟩ : Blk)] := ⟨_, rfl⟩
  have p1 : Pre H H1 := by rw [hH1]; exact Pre.one
  have r1 : rd H1 H.length 0 0 12 = some (cs .u16 f) := by rw [hH1]; exact rd_last rfl (by simp [hf.W.len])
  have c1 := call234 (pu := true) (H := H1) hf.W.len
  have c2 := call306 (pu := true) (H := H1) (F := .func (.func 394) #[] #[adr H.length 0 0]) (p := fun x y => hasF f y (11 - x)) fun x y hx hy => call394 hf.W r1 hx hy
  have e1 : whereN (fun x y => hasF f y (11 - x)) 144 = trF f := rfl
  rw [e1] at c2
  have hl := (trF_V (f := f)).W.len
  have s3 := stc_zr (k := .u16) (n := 12) (l := trF f) hl
  simp [c173, k173, hf.W.len, ← hH1, r1, agg_cs, c1, hf.ok, c2, zs_cs, hl, s3, p1.take]
theorem eqSkV {s : Sk} : eqV (.a (rb 3 (some .i8) ++ rb 1 none)) (agg (skC s)) (agg (skC s)) = some true := by
  simp [eqV, agg, skC, rb, eqCells]
theorem call172 {pu : Bool} {G : Heap} {x y : Value} {l : List Sk} (hx : SlR G x 4 l.length (sksC l)) (hy : SlR G y 4 l.length (sksC l)) (hn : l.length ≤ 1000000) : Call tab pu 172 [x, y] G = some (.bool true, G) := by
  refine Call_wp t172 (.inr rfl) rfl ?_
  simp [c172, k172, hx.lenV, hy.lenV]
  refine WP_forH 5 l.length _ rfl (by omega) (fun i e => e 0 = x ∧ e 1 = y) ?_ ?_ (by simp) (by simp)
  · rintro i e hi hii e4 h5 ⟨h0, h1⟩
    obtain ⟨q, off, ver, ha, hr⟩ := hx.get1 hi
    obtain ⟨q', off', ver', ha', hr'⟩ := hy.get1 hi
    rw [sksC_elem hi] at hr hr'
    have q1 := eqSkV (s := at0 l i)
    simp [b172_1, h5, h0, h1, hii, hx.lenV, ha, hr, ha', hr', q1, e4]
  · rintro e h5 ⟨h0, h1⟩
    simp [b172_1, h5, h0, hx.lenV]
theorem skS_mem {f : List Int} {d : Bool} {s : Sk} (h : s ∈ skS f d 144) : ∃ p, p < 144 ∧ stB f d p = true ∧ s = mkSk f d p := by
  unfold skS at h
  obtain ⟨p, hp, rfl⟩ := List.mem_map.1 h
  obtain ⟨h1, h2⟩ := List.mem_filter.1 hp
  exact ⟨p, by simpa using h1, h2, rfl⟩
theorem skS_W {f : List Int} {d : Bool} : ∀ s ∈ skS f d 144, SkW s := fun s hs => by
  obtain ⟨p, hp, h1, rfl⟩ := skS_mem hs
  obtain ⟨n, r1, r2, r3, _⟩ := stB_run hp h1
  have e1 : (mkSk f d p).x = ((p % 12 : Nat) : Int) := rfl
  have e2 : (mkSk f d p).y = ((p / 12 : Nat) : Int) := rfl
  have e3 : (mkSk f d p).n = n := r1
  exact ⟨by rw [e1]; omega, by rw [e2]; omega, by rw [e3]; omega⟩
theorem few_le {f : List Int} {d : Bool} (h : okF f = true) : (fewR f).length ≤ (skS f d 144).length := by
  unfold fewR
  rw [if_pos h]
  split
  · cases d
    · omega
    · exact Nat.le_refl _
  · cases d
    · exact Nat.le_refl _
    · omega
theorem Sk.rds {G : Heap} {r : Value} {l : List Sk} (h : SlR G r 4 l.length (sksC l)) {i : Nat} (hi : i < l.length) : ∃ q off ver, idxAV 4 r (.int .i64 (i : Int)) = some (adr q off ver) ∧
    rd G q off ver 1 = some [.int .i8 (at0 l i).x] ∧ rd G q (off + 1) ver 1 = some [.int .i8 (at0 l i).y] ∧ rd G q (off + 2) ver 1 = some [.int .i8 (at0 l i).n] ∧ rd G q (off + 3) ver 1 = some [.bool (at0 l i).d] := by
  obtain ⟨q, off, ver, ha, hr⟩ := h.get1 hi
  rw [sksC_elem hi] at hr
  have r0 := rd_part hr (o := 0) (m := 1) (by omega)
  have r1 := rd_part hr (o := 1) (m := 1) (by omega)
  have r2 := rd_part hr (o := 2) (m := 1) (by omega)
  have r3 := rd_part hr (o := 3) (m := 1) (by omega)
  rw [Nat.add_zero] at r0
  exact ⟨q, off, ver, ha, r0, r1, r2, r3⟩
theorem has_bit {f : List Int} (hf : VF f) {u v : Nat} (hu : u < 12) (hv : v < 12) (h : hasF f u v = false) : ((nth f v / bit u) % 2 == 1) = false := h
theorem eqB {b : Bool} : eqV .b (.bool b) (.bool b) = some true := by cases b <;> rfl
theorem call28 {H : Heap} {x y : Value} {bs bs' : List Int} (hx : By H x bs) (hy : By H y bs') : ∃ H', Call tab false 28 [x, y] H = some (.bool true, H') := by
  refine ⟨H, Call_wp t28 (.inl rfl) rfl ?_⟩
  have k1 := call169 (pu := true) hx
  have k2 := call169 (pu := true) hy
  by_cases b1 : 4096 < bs.length
  · simp [c28, k28, k1, b1, skip]
  by_cases b2 : 4096 < bs'.length
  · simp [c28, k28, k1, b1, k2, b2]
  obtain ⟨f, c1, V⟩ := call170 (pu := true) hx (by omega)
  have hl := V.W.len
  have hc0 : frCode f = 0 := by rw [frCode, if_pos V.ok]
  obtain ⟨ri, G1, βi, c2, P1, oi⟩ := call142 V.W H
  obtain ⟨rs, G2, βs, c3, P2, os⟩ := call141 V.W G1
  rw [hc0] at c2 c3
  have P12 := P1.trans P2
  have c4 := call171 (pu := true) (H := G2) V
  have s1 := stc_zr (k := .u16) (n := 12) (l := f) hl
  have hfl : (fewR f).length ≤ 1000000 := by
    have := few_le (d := false) V.ok
    have := skS_few (f := f) (d := false)
    omega
  have c5 := call172 (pu := true) (oi.pre P2).sl os.sl hfl
  simp [c28, k28, k1, b1, k2, b2, c1, zs_cs, hl, s1, agg_cs, c2, c3, c4, c5]
  refine WP_count 12 2 2 rfl (fun i e G => e 5 = iv .u16 f ∧ e 8 = rs ∧ e 10 = .int .i64 (cntF f) ∧ Pre G2 G) (by omega) ?_ ?_ (by simp) ⟨by simp, by simp, by simp, .refl⟩
  · rintro i e G _ hi hii e13 h12 ⟨h5, h8, h10, PG⟩
    obtain ⟨d, hd⟩ : ∃ d, ((i : Int) == 1) = d := ⟨_, rfl⟩
    have hsk : ∀ d, skR f d = skS f d 144 := fun d => by rw [skR, if_pos V.ok]
    obtain ⟨li, G3, γi, d1, P3, ui⟩ := call137 (d := d) V.W G
    obtain ⟨ls, G4, γs, d2, P4, us⟩ := call136 (d := d) V.W G3
    rw [hc0] at d1 d2
    rw [hsk] at ui us
    have P34 := P3.trans P4
    have n80 := skS_few (f := f) (d := d)
    have d3 := call172 (pu := true) (ui.pre P4).sl us.sl (by omega)
    obtain ⟨i1, i2⟩ := ink_frame (d := d) V
    have d4 := call115 (pu := true) us.sl (by omega) skS_W
    rw [inkR_some (by omega) i1] at d4
    have q1 := eqV_iv (k := .u16) hl hl
    have lrs : lenV rs = some (.int .i64 (fewR f).length) := os.sl.lenV
    have lls : lenV ls = some (.int .i64 (skS f d 144).length) := us.sl.lenV
    have hfew := few_le (d := d) V.ok
    have hng : ¬ (skS f d 144).length < (fewR f).length := by omega
    simp [b28_2, h12, h5, h8, h10, hii, hl, hd, d1, d2, d3, d4, zs_cs, s1, agg_cs, q1, lrs, lls, hng]
    obtain ⟨L, hL⟩ : ∃ L, L = skS f d 144 := ⟨_, rfl⟩
    rw [← hL] at us lls i2 n80
    refine WP_forH 20 L.length L.length rfl (by omega) (fun j e => e 5 = iv .u16 f ∧ e 8 = rs ∧ e 10 = .int .i64 (cntF f) ∧ e 12 = .int .i64 i ∧ e 15 = ls ∧ e 19 = .int .i64 (sumK L j) ∧ 0 ≤ sumK L j ∧ sumK L j ≤ 12 * j) ?_ ?_ (by simp) ⟨by simp [h5], by simp [h8], by simp [h10], by simp [h12], by simp, by simp [sumK_zero], by rw [sumK_zero]; omega, by rw [sumK_zero]; omega⟩
    · rintro j e hj hjj e21 h20 ⟨h5, h8, h10, h12, h15, h19, hs0, hs1⟩
      obtain ⟨q, off, ver, ha, r0, r1, r2, r3⟩ := Sk.rds us.sl hj
      have hm : at0 L j ∈ skS f d 144 := by rw [← hL]; exact at0_mem hj
      obtain ⟨p, hp, hst, he⟩ := skS_mem hm
      obtain ⟨n, n1, n2, n3, n4, n5⟩ := stB_run hp hst
      have ex : (at0 L j).x = ((p % 12 : Nat) : Int) := by rw [he]; rfl
      have ey : (at0 L j).y = ((p / 12 : Nat) : Int) := by rw [he]; rfl
      have en : (at0 L j).n = (n : Int) := by rw [he]; exact n1
      have ed : (at0 L j).d = d := by rw [he]; rfl
      rw [ex] at r0
      rw [ey] at r1
      rw [en] at r2
      rw [ed] at r3
      have hb : begB f d (p % 12) (p / 12) = true := by
        unfold stB at hst
        rw [Bool.and_eq_true] at hst
        exact hst.2
      have hss : sumK L (j + 1) = sumK L j + n := by rw [sumK_succ, en]
      have hX : p % 12 < 12 := by omega
      have hY : p / 12 < 12 := by omega
      generalize hX' : p % 12 = X at *
      generalize hY' : p / 12 = Y at *
      have w1 : IntKind.wrap .i64 (n : Int) = n := wrap64 (by omega)
      have w2 : IntKind.wrap .i64 (X : Int) = X := wrap64 (by omega)
      have w3 : IntKind.wrap .i64 (Y : Int) = Y := wrap64 (by omega)
      have w4 : IntKind.wrap .i64 (sumK L j + n) = sumK L (j + 1) := by rw [wrap64 (by omega), hss]
      have w5 : IntKind.wrap .i64 ((X : Int) + n) = ((X + n : Nat) : Int) := by rw [wrap64 (by omega)]; omega
      have w6 : IntKind.wrap .i64 ((Y : Int) + n) = ((Y + n : Nat) : Int) := by rw [wrap64 (by omega)]; omega
      have w7 : IntKind.wrap .i64 ((X : Int) - 1) = (X : Int) - 1 := wrap64 (by omega)
      have w8 : IntKind.wrap .i64 ((Y : Int) - 1) = (Y : Int) - 1 := wrap64 (by omega)
      have hn1 : ¬ (n : Int) < 1 := by omega
      have hn0 : ¬ n < 1 := by omega
      have hsb : 0 ≤ sumK L (j + 1) ∧ sumK L (j + 1) ≤ 12 * ((j + 1 : Nat) : Int) := by omega
      have wu : ∀ m : Nat, m < 12 → IntKind.wrap .u64 (m : Int) = m := fun m hm => wrapu64 (by omega)
      have B := eqB (b := d)
      have hXi : decide ((X : Int) < 12) = true := decide_eq_true (by omega)
      have hYi : decide ((Y : Int) < 12) = true := decide_eq_true (by omega)
      have hXj : decide (0 ≤ (X : Int)) = true := decide_eq_true (by omega)
      have hYj : decide (0 ≤ (Y : Int)) = true := decide_eq_true (by omega)
      cases d with
      | false =>
        have hE : X + n < 12 → hasF f (X + n) Y = false := fun hu => by
          cases hh : hasF f (X + n) Y with
          | false => rfl
          | true => rw [(goB_cell (f := f) (d := false) (x := X) (y := Y) (j := n)).2 ⟨hu, hY, hh⟩] at n5; cases n5
        have hB : 0 < X → hasF f (X - 1) Y = false := fun h0 => by
          unfold begB at hb
          rw [show (X : Int) - dX false = ((X - 1 : Nat) : Int) by simp [dX]; omega, show (Y : Int) - dY false = (Y : Int) by simp [dY], hasI_nat (by omega) hY] at hb
          simpa using hb
        by_cases hu : X + n < 12
        · have hui : decide (((X + n : Nat) : Int) < 12) = true := decide_eq_true (by omega)
          by_cases h0 : 0 < X
          · have a1 := shr_bit (row := nth f Y) hu
            have a2 := and_one (row_div (V.W.nth hY) hu)
            have a3 := has_bit V hu hY (hE hu)
            have a4 := wu (X + n) hu
            have c1 : (X : Int) - 1 = ((X - 1 : Nat) : Int) := by omega
            have w7' : IntKind.wrap .i64 ((X : Int) - 1) = ((X - 1 : Nat) : Int) := by rw [w7, c1]
            have hk : decide (0 ≤ ((X - 1 : Nat) : Int)) = true := decide_eq_true (by omega)
            have hlt : X - 1 < 12 := by omega
            have c2 := shr_bit (row := nth f Y) hlt
            have c3 := and_one (row_div (V.W.nth hY) hlt)
            have c4 := has_bit V hlt hY (hB h0)
            have c5 := wu (X - 1) hlt
            simp [b28_1, h20, h5, h8, h10, h12, h15, h19, lls, hjj, hj, ha, r0, r1, r2, r3, w1, w2, w3, w4, hd, B, hn1, hn0, hl, hX, hY, skip, e21, hui, hXi, hYi, hXj, hYj, w5, hu, a1, a2, a3, a4, w7', hk, hlt, c2, c3, c4, c5, -Int.natCast_add]
            exact hsb
          · have a1 := shr_bit (row := nth f Y) hu
            have a2 := and_one (row_div (V.W.nth hY) hu)
            have a3 := has_bit V hu hY (hE hu)
            have a4 := wu (X + n) hu
            have hk : decide (1 ≤ (X : Int)) = false := decide_eq_false (by omega)
            have c6 := w7
            simp [b28_1, h20, h5, h8, h10, h12, h15, h19, lls, hjj, hj, ha, r0, r1, r2, r3, w1, w2, w3, w4, hd, B, hn1, hn0, hl, hX, hY, skip, e21, hui, hXi, hYi, hXj, hYj, w5, hu, a1, a2, a3, a4, c6, hk, -Int.natCast_add]
            exact hsb
        · have hui : decide (((X + n : Nat) : Int) < 12) = false := decide_eq_false (by omega)
          by_cases h0 : 0 < X
          · have c1 : (X : Int) - 1 = ((X - 1 : Nat) : Int) := by omega
            have w7' : IntKind.wrap .i64 ((X : Int) - 1) = ((X - 1 : Nat) : Int) := by rw [w7, c1]
            have hk : decide (0 ≤ ((X - 1 : Nat) : Int)) = true := decide_eq_true (by omega)
            have hlt : X - 1 < 12 := by omega
            have c2 := shr_bit (row := nth f Y) hlt
            have c3 := and_one (row_div (V.W.nth hY) hlt)
            have c4 := has_bit V hlt hY (hB h0)
            have c5 := wu (X - 1) hlt
            simp [b28_1, h20, h5, h8, h10, h12, h15, h19, lls, hjj, hj, ha, r0, r1, r2, r3, w1, w2, w3, w4, hd, B, hn1, hn0, hl, hX, hY, skip, e21, hui, hXi, hYi, hXj, hYj, w5, hu, w7', hk, hlt, c2, c3, c4, c5, -Int.natCast_add]
            exact hsb
          · have hk : decide (1 ≤ (X : Int)) = false := decide_eq_false (by omega)
            have c6 := w7
            simp [b28_1, h20, h5, h8, h10, h12, h15, h19, lls, hjj, hj, ha, r0, r1, r2, r3, w1, w2, w3, w4, hd, B, hn1, hn0, hl, hX, hY, skip, e21, hui, hXi, hYi, hXj, hYj, w5, hu, c6, hk, -Int.natCast_add]
            exact hsb
      | true =>
        have hE : Y + n < 12 → hasF f X (Y + n) = false := fun hu => by
          cases hh : hasF f X (Y + n) with
          | false => rfl
          | true => rw [(goB_cell (f := f) (d := true) (x := X) (y := Y) (j := n)).2 ⟨hX, hu, hh⟩] at n5; cases n5
        have hB : 0 < Y → hasF f X (Y - 1) = false := fun h0 => by
          unfold begB at hb
          rw [show (Y : Int) - dY true = ((Y - 1 : Nat) : Int) by simp [dY]; omega, show (X : Int) - dX true = (X : Int) by simp [dX], hasI_nat hX (by omega)] at hb
          simpa using hb
        by_cases hu : Y + n < 12
        · have hui : decide (((Y + n : Nat) : Int) < 12) = true := decide_eq_true (by omega)
          by_cases h0 : 0 < Y
          · have a1 := shr_bit (row := nth f (Y + n)) hX
            have a2 := and_one (row_div (V.W.nth hu) hX)
            have a3 := has_bit V hX hu (hE hu)
            have a4 := wu X hX
            have c1 : (Y : Int) - 1 = ((Y - 1 : Nat) : Int) := by omega
            have w8' : IntKind.wrap .i64 ((Y : Int) - 1) = ((Y - 1 : Nat) : Int) := by rw [w8, c1]
            have hk : decide (0 ≤ ((Y - 1 : Nat) : Int)) = true := decide_eq_true (by omega)
            have hlt : Y - 1 < 12 := by omega
            have c2 := shr_bit (row := nth f (Y - 1)) hX
            have c3 := and_one (row_div (V.W.nth hlt) hX)
            have c4 := has_bit V hX hlt (hB h0)
            have c5 := wu X hX
            simp [b28_1, h20, h5, h8, h10, h12, h15, h19, lls, hjj, hj, ha, r0, r1, r2, r3, w1, w2, w3, w4, hd, B, hn1, hn0, hl, hX, hY, skip, e21, hui, hXi, hYi, hXj, hYj, w6, hu, a1, a2, a3, a4, w8', hk, hlt, c2, c3, c4, c5, -Int.natCast_add]
            exact hsb
          · have a1 := shr_bit (row := nth f (Y + n)) hX
            have a2 := and_one (row_div (V.W.nth hu) hX)
            have a3 := has_bit V hX hu (hE hu)
            have a4 := wu X hX
            have hk : decide (1 ≤ (Y : Int)) = false := decide_eq_false (by omega)
            have c6 := w8
            simp [b28_1, h20, h5, h8, h10, h12, h15, h19, lls, hjj, hj, ha, r0, r1, r2, r3, w1, w2, w3, w4, hd, B, hn1, hn0, hl, hX, hY, skip, e21, hui, hXi, hYi, hXj, hYj, w6, hu, a1, a2, a3, a4, c6, hk, -Int.natCast_add]
            exact hsb
        · have hui : decide (((Y + n : Nat) : Int) < 12) = false := decide_eq_false (by omega)
          by_cases h0 : 0 < Y
          · have c1 : (Y : Int) - 1 = ((Y - 1 : Nat) : Int) := by omega
            have w8' : IntKind.wrap .i64 ((Y : Int) - 1) = ((Y - 1 : Nat) : Int) := by rw [w8, c1]
            have hk : decide (0 ≤ ((Y - 1 : Nat) : Int)) = true := decide_eq_true (by omega)
            have hlt : Y - 1 < 12 := by omega
            have c2 := shr_bit (row := nth f (Y - 1)) hX
            have c3 := and_one (row_div (V.W.nth hlt) hX)
            have c4 := has_bit V hX hlt (hB h0)
            have c5 := wu X hX
            simp [b28_1, h20, h5, h8, h10, h12, h15, h19, lls, hjj, hj, ha, r0, r1, r2, r3, w1, w2, w3, w4, hd, B, hn1, hn0, hl, hX, hY, skip, e21, hui, hXi, hYi, hXj, hYj, w6, hu, w8', hk, hlt, c2, c3, c4, c5, -Int.natCast_add]
            exact hsb
          · have hk : decide (1 ≤ (Y : Int)) = false := decide_eq_false (by omega)
            have c6 := w8
            simp [b28_1, h20, h5, h8, h10, h12, h15, h19, lls, hjj, hj, ha, r0, r1, r2, r3, w1, w2, w3, w4, hd, B, hn1, hn0, hl, hX, hY, skip, e21, hui, hXi, hYi, hXj, hYj, w6, hu, c6, hk, -Int.natCast_add]
            exact hsb
    · rintro e h20 ⟨h5, h8, h10, h12, h15, h19, hs0, hs1⟩
      have hne : (cntF f != cntF f) = false := by simp
      rw [i2] at h19
      simp [b28_1, h20, h5, h8, h10, h12, h15, h19, lls, hne, e13]
      exact PG.trans P34
  · rintro e G _ h12 ⟨h5, h8, h10, PG⟩
    have t1 := call173 (pu := true) (H := G) V
    have VT := trF_V (f := f)
    have hsk : ∀ d, skR f d = skS f d 144 := fun d => by rw [skR, if_pos V.ok]
    have hskT : ∀ d, skR (trF f) d = skS (trF f) d 144 := fun d => by rw [skR, if_pos VT.ok]
    obtain ⟨a, G5, γa, t2, P5, ua⟩ := call137 (d := false) V.W G
    obtain ⟨b, G6, γb, t3, P6, ub⟩ := call137 (d := true) VT.W G5
    have hc1 : frCode (trF f) = 0 := by rw [frCode, if_pos VT.ok]
    rw [hc0] at t2
    rw [hc1] at t3
    rw [hsk] at ua
    rw [hskT] at ub
    have la : lenV a = some (.int .i64 (skS f false 144).length) := ua.sl.lenV
    have lb : lenV b = some (.int .i64 (skS f false 144).length) := by rw [← turn_cnt]; exact ub.sl.lenV
    have hTl := VT.W.len
    have s2 := stc_zr (k := .u16) (n := 12) (l := trF f) hTl
    have heq : (((skS f false 144).length : Int) == ((skS f false 144).length : Int)) = true := by simp
    have PH := ((P12.trans PG).trans P5).trans P6
    simp [b28_2, h12, h5, hl, t1, zs_cs, hTl, s2, agg_cs, t2, t3, la, lb, heq, PH.take]
end Fb
