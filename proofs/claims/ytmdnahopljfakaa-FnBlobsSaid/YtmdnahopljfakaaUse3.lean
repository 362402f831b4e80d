/- What each function computes. -/
import Derived.Test.YtmdnahopljfakaaUse2
set_option linter.unusedVariables false
set_option linter.unusedSimpArgs false
namespace Fb
open Go
theorem call249 {pu : Bool} {H : Heap} {f : List Int} (hf : VF f) : Call tab pu 249 [iv .u16 f] H = some (tup [iv .u16 (shrF f), .int .i64 0], H) := by
  refine Call_wp t249 (.inr rfl) rfl ?_
  obtain ⟨G, hG⟩ : ∃ G, G = H ++ [(⟨cs .u16 f, 1, 0, false⟩ : Blk)] := ⟨_, rfl⟩
  have hr : rd G H.length 0 0 12 = some (cs .u16 f) := by rw [hG]; exact box12 hf.W.len
  have pG : Pre H G := by rw [hG]; exact Pre.one
  have lG : G.length = H.length + 1 := by rw [hG]; simp
  have c1 := call234 (pu := true) (H := G) hf.W.len
  rw [hf.ok] at c1
  obtain ⟨G1, hG1⟩ : ∃ G1, G1 = G ++ [(⟨[.nilFunc], 1, 0, false⟩ : Blk)] := ⟨_, rfl⟩
  obtain ⟨G2, hG2⟩ : ∃ G2, G2 = G ++ [(⟨[.func (.func 454) #[] #[adr H.length 0 0]], 1, 0, false⟩ : Blk)] := ⟨_, rfl⟩
  have w1 : wr H.length false G1 (H.length + 1) 0 0 [.func (.func 454) #[] #[adr H.length 0 0]] = some G2 := by
    rw [hG1, hG2, ← lG]
    exact wr_last (b := ⟨[.nilFunc], 1, 0, false⟩) rfl rfl (by omega) rfl
  have p2 : Pre G G2 := by rw [hG2]; exact Pre.one
  have hr2 := p2.rd hr
  have hc2 : rd G2 (H.length + 1) 0 0 1 = some [.func (.func 454) #[] #[adr H.length 0 0]] := by rw [hG2, ← lG]; exact rd_last rfl rfl
  have c2 := call306 (pu := true) (H := G2) (F := .func (.func 455) #[] #[adr H.length 0 0, adr (H.length + 1) 0 0]) (p := shrP f) fun x y hx hy => call455 hf.W hr2 hc2 hx hy
  have e1 : whereN (shrP f) 144 = shrF f := whereN_dots
  rw [e1] at c2
  have hl := (shrF_V (f := f)).W.len
  have s3 := stc_zr (k := .u16) (n := 12) (l := shrF f) hl
  have cf : cellsOf (.func (.func 454) #[] #[adr H.length 0 0]) = [.func (.func 454) #[] #[adr H.length 0 0]] := rfl
  simp [c249, k249, hf.W.len, zs_cs, agg_cs, ← hG, hr, c1, ← hG1, lG, cf, w1, wbOf, c2, hl, s3, (pG.trans p2).take]
/-- The spec's way. -/
def shrL (f : List Int) (j : Nat) : List Int := itN (fun j g => if fulP f (at0 (dotL f 144) j % 12) (at0 (dotL f 144) j / 12) = true then putF g (at0 (dotL f 144) j % 12) (at0 (dotL f 144) j / 12) else g) (zr 12 0) j
theorem shrL_zero {f : List Int} : shrL f 0 = zr 12 0 := itN_zero
theorem shrL_succ {f : List Int} {j : Nat} : shrL f (j + 1) = if fulP f (at0 (dotL f 144) j % 12) (at0 (dotL f 144) j / 12) = true then putF (shrL f j) (at0 (dotL f 144) j % 12) (at0 (dotL f 144) j / 12) else shrL f j := itN_succ
theorem shrL_ok {f : List Int} {j : Nat} (hj : j ≤ (dotL f 144).length) : VF (shrL f j) ∧ ∀ u v, Dot (shrL f j) u v ↔ u < 12 ∧ v < 12 ∧ v * 12 + u ∈ (dotL f 144).take j ∧ fulP f u v = true := by
  induction j with
  | zero => rw [shrL_zero]; exact ⟨.zero, fun u v => ⟨fun h => absurd h dot_zero, fun h => by simp at h⟩⟩
  | succ j ih =>
    obtain ⟨V, ih⟩ := ih (by omega)
    have hb := dot_bound (f := f) (j := j) (by omega)
    have ht : (dotL f 144).take (j + 1) = (dotL f 144).take j ++ [at0 (dotL f 144) j] := by
      rw [List.take_add_one, at0_get (by omega)]; rfl
    have hs := shrL_succ (f := f) (j := j)
    generalize at0 (dotL f 144) j = p at *
    rw [hs, ht]
    cases hf : fulP f (p % 12) (p / 12) with
    | false =>
      rw [if_neg (by decide)]
      refine ⟨V, fun u v => ?_⟩
      rw [ih u v]
      constructor
      · rintro ⟨a, b, c, d⟩; exact ⟨a, b, List.mem_append_left _ c, d⟩
      · rintro ⟨a, b, c, d⟩
        refine ⟨a, b, (List.mem_append.1 c).elim id fun c => ?_, d⟩
        have : p = v * 12 + u := (List.mem_singleton.1 c).symm
        rw [this, show (v * 12 + u) % 12 = u by omega, show (v * 12 + u) / 12 = v by omega, d] at hf
        cases hf
    | true =>
      rw [if_pos rfl]
      refine ⟨V.put (by omega) (by omega), fun u v => ?_⟩
      rw [dot_put V (by omega) (by omega), ih u v]
      constructor
      · rintro (⟨a, b, c, d⟩ | ⟨rfl, rfl⟩)
        · exact ⟨a, b, List.mem_append_left _ c, d⟩
        · exact ⟨by omega, by omega, List.mem_append_right _ (by simp; omega), hf⟩
      · rintro ⟨a, b, c, d⟩
        rcases List.mem_append.1 c with c | c
        · exact .inl ⟨a, b, c, d⟩
        · have := List.mem_singleton.1 c
          exact .inr ⟨by omega, by omega⟩
theorem shrL_all {f : List Int} (hf : VF f) : shrL f (dotL f 144).length = shrF f := by
  obtain ⟨V, h⟩ := shrL_ok (f := f) (Nat.le_refl (dotL f 144).length)
  refine dot_ext V shrF_V fun u v => ?_
  rw [h u v, List.take_length]
  constructor
  · rintro ⟨a, b, c, d⟩
    have := (dot_mem a).2 c
    exact ⟨a, b, by unfold shrF; rw [hasF_dots a b, shrP, this.2.2, d]; rfl⟩
  · rintro ⟨a, b, c⟩
    unfold shrF at c
    rw [hasF_dots a b, shrP, Bool.and_eq_true] at c
    exact ⟨a, b, (dot_mem a).1 ⟨a, b, c.1⟩, c.2⟩
/-- The four sides of a place. -/
def sidL (X Y : Int) : List Int := [X - 1, Y, X + 1, Y, X, Y - 1, X, Y + 1]
def sidP (f : List Int) (X Y : Int) (k : Nat) : Bool := filI f (nth (sidL X Y) (k * 2)) (nth (sidL X Y) (k * 2 + 1))
theorem sid_all {f : List Int} {u v : Nat} : allN (sidP f u v) 4 = fulP f u v := by
  simp [allN, sidP, sidL, nth, fulP, List.range_succ]
theorem call250 {pu : Bool} {H : Heap} {f : List Int} (hf : VF f) : Call tab pu 250 [iv .u16 f] H = some (tup [iv .u16 (shrF f), .int .i64 0], H) := by
  refine Call_wp t250 (.inr rfl) rfl ?_
  have hlf := hf.W.len
  obtain ⟨G, hG⟩ : ∃ G, G = H ++ [(⟨cs .u16 f, 1, 0, false⟩ : Blk)] := ⟨_, rfl⟩
  have hr : rd G H.length 0 0 12 = some (cs .u16 f) := by rw [hG]; exact box12 hlf
  have pG : Pre H G := by rw [hG]; exact Pre.one
  have lG : G.length = H.length + 1 := by rw [hG]; simp
  have c1 := call359 (pu := true) hlf hr
  rw [hf.ok] at c1
  obtain ⟨G1, hG1⟩ : ∃ G1, G1 = G ++ [(⟨cs .u16 (zr 12 0), 1, 0, false⟩ : Blk)] := ⟨_, rfl⟩
  have p1 : Pre G G1 := by rw [hG1]; exact Pre.one
  have l1 : G1.length = H.length + 2 := by rw [hG1]; simp [lG]
  have w1 : wr H.length false G1 (H.length + 1) 0 0 (cs .u16 (zr 12 0)) = some G1 := by
    rw [hG1, ← lG]
    exact wr_last (b := ⟨cs .u16 (zr 12 0), 1, 0, false⟩) rfl rfl (by omega) (by simp)
  have b1 : G1[H.length + 1]? = some ⟨cs .u16 (zr 12 0), 1, 0, false⟩ := by rw [hG1, ← lG]; exact get_last
  have hr1 := p1.rd hr
  have c2 := call440 (pu := true) hf.W hr1
  obtain ⟨G2, hG2⟩ : ∃ G2, G2 = G1 ++ [(⟨dotC f 144, 2, 0, false⟩ : Blk)] := ⟨_, rfl⟩
  have p2 : Pre G1 G2 := by rw [hG2]; exact Pre.one
  rw [← hG2, l1] at c2
  have hs : SlR G2 (slc (H.length + 2) 0 0 (dotL f 144).length (dotL f 144).length) 2 (dotL f 144).length (dotC f 144) := by
    rw [hG2, ← l1]; exact (own_new (H := G1) (esz := 2) (n := (dotL f 144).length) (vs := dotC f 144) dotC_len).sl
  have hle := dotL_len (f := f) (k := 144)
  obtain ⟨x5, hx5⟩ : ∃ x5, x5 = slc (H.length + 2) 0 0 (dotL f 144).length (dotL f 144).length := ⟨_, rfl⟩
  rw [← hx5] at c2 hs
  have d2 : G2[H.length + 2]? = some ⟨dotC f 144, 2, 0, false⟩ := by rw [hG2, ← l1]; exact get_last
  have b2 : G2[H.length + 1]? = some ⟨cs .u16 (shrL f 0), 1, 0, false⟩ := by rw [p2.get (by omega), shrL_zero]; exact b1
  have k2 : G2[H.length]? = some ⟨cs .u16 f, 1, 0, false⟩ := by rw [p2.get (by omega), p1.get (by omega), hG]; exact get_last
  simp [c250, k250, zs_cs, agg_cs, fill0, hlf, ← hG, c1, ← hG1, lG, w1, wbOf, c2]
  refine WP_count 6 (dotL f 144).length _ rfl (fun j e G => e 1 = adr H.length 0 0 ∧ e 2 = iv .u16 (zr 12 0) ∧ e 4 = adr (H.length + 1) 0 0 ∧ e 5 = x5 ∧ Pre H G ∧ G[H.length]? = some ⟨cs .u16 f, 1, 0, false⟩ ∧ G[H.length + 1]? = some ⟨cs .u16 (shrL f j), 1, 0, false⟩ ∧ G[H.length + 2]? = some ⟨dotC f 144, 2, 0, false⟩) (by omega) ?_ ?_ (by simp)
    ⟨by simp, by simp, by simp, by simp, pG.trans (p1.trans p2), k2, b2, d2⟩
  · rintro j e G _ hj hjj e6 h6 ⟨h1, h2, h4, h5, pG, k, b, d⟩
    have hs : SlR G x5 2 (dotL f 144).length (dotC f 144) := ⟨dotC_len, .inr ⟨_, 0, 0, _, hx5, Nat.le_refl _, by rw [rd_at d rfl (by simp [dotC_len])]; simp [take_all (Nat.le_of_eq dotC_len)], _, d, rfl, rfl⟩⟩
    obtain ⟨q', o, ver', ha, hrd⟩ := hs.get1 hj
    rw [dotC_at hj] at hrd
    have hb := dot_bound hj
    have hss := shrL_succ (f := f) (j := j)
    have Vs := (shrL_ok (f := f) (j := j) (by omega)).1
    generalize at0 (dotL f 144) j = p at *
    have r1 : rd G q' o ver' 1 = some [.int .i8 ((p % 12 : Nat) : Int)] := rd_part hrd (o := 0) (m := 1) (by omega)
    have r2 : rd G q' (o + 1) ver' 1 = some [.int .i8 ((p / 12 : Nat) : Int)] := rd_part hrd (o := 1) (m := 1) (by omega)
    obtain ⟨X, hX⟩ : ∃ X, X = p % 12 := ⟨_, rfl⟩
    obtain ⟨Y, hY⟩ : ∃ Y, Y = p / 12 := ⟨_, rfl⟩
    rw [← hX] at r1 hss
    rw [← hY] at r2 hss
    have bX : X < 12 := by omega
    have bY : Y < 12 := by omega
    have w1 : IntKind.wrap .i64 (X : Int) = X := wrap64 (by omega)
    have w2 : IntKind.wrap .i64 (Y : Int) = Y := wrap64 (by omega)
    have w3 : IntKind.wrap .i64 ((X : Int) - 1) = (X : Int) - 1 := wrap64 (by omega)
    have w4 : IntKind.wrap .i64 ((X : Int) + 1) = (X : Int) + 1 := wrap64 (by omega)
    have w5 : IntKind.wrap .i64 ((Y : Int) - 1) = (Y : Int) - 1 := wrap64 (by omega)
    have w6 : IntKind.wrap .i64 ((Y : Int) + 1) = (Y : Int) + 1 := wrap64 (by omega)
    have f2 : ∀ a b : Int, fill [.int .i64 0, .int .i64 0] [(0, 1, .int .i64 a), (1, 1, .int .i64 b)] = some [.int .i64 a, .int .i64 b] := fun a b => rfl
    have f8 : fill (cs .i64 (zr 8 0)) [(0, 2, agg [.int .i64 ((X : Int) - 1), .int .i64 Y]), (2, 2, agg [.int .i64 ((X : Int) + 1), .int .i64 Y]), (4, 2, agg [.int .i64 X, .int .i64 ((Y : Int) - 1)]), (6, 2, agg [.int .i64 X, .int .i64 ((Y : Int) + 1)])] = some (cs .i64 (sidL X Y)) := rfl
    have l8 : (sidL X Y).length = 8 := rfl
    have s8 := stc_zr (k := .i64) (n := 8) (l := sidL X Y) l8
    simp [b250_2, h6, h1, h2, h4, h5, hs.lenV, hj, ha, r1, r2, w1, w2, w3, w4, w5, w6, zs_cs, f2, f8, agg_cs, l8, s8]
    have rf := rd12 k hlf
    have a20 : at' 2 (.int .i64 0) = some 0 := rfl
    have a21 : at' 2 (.int .i64 1) = some 1 := rfl
    refine WP_forH 11 4 4 rfl (by omega) (fun i e => e 1 = adr H.length 0 0 ∧ e 2 = iv .u16 (zr 12 0) ∧ e 4 = adr (H.length + 1) 0 0 ∧ e 5 = x5 ∧ e 6 = .int .i64 j ∧ e 7 = .int .i64 X ∧ e 8 = .int .i64 Y ∧ e 9 = .bool (allN (sidP f X Y) i) ∧ e 10 = iv .i64 (sidL X Y)) ?_ ?_ (by simp)
      ⟨by simp [h1], by simp [h2], by simp [h4], by simp [h5], by simp [h6], by simp, by simp, by simp [allN], by simp⟩
    · rintro i e hi hii e12 h11 ⟨h1, h2, h4, h5, h6, h7, h8, h9, h10⟩
      have d0 : ldc 1 false (iv .i64 (sidL X Y)) (i * 2) = some (.int .i64 (nth (sidL X Y) (i * 2))) := ldc_iv1 (by rw [l8]; omega)
      have d1 : ldc 1 false (iv .i64 (sidL X Y)) (i * 2 + 1) = some (.int .i64 (nth (sidL X Y) (i * 2 + 1))) := ldc_iv1 (by rw [l8]; omega)
      have hall : allN (sidP f X Y) (i + 1) = (allN (sidP f X Y) i && sidP f X Y i) := by unfold allN; rw [List.range_succ, List.all_append]; simp
      have hsid : sidP f X Y i = filI f (nth (sidL X Y) (i * 2)) (nth (sidL X Y) (i * 2 + 1)) := rfl
      generalize nth (sidL X Y) (i * 2) = A at *
      generalize nth (sidL X Y) (i * 2 + 1) = B at *
      cases ho : okP A B with
      | false =>
        have : sidP f X Y i = true := by rw [hsid, filI, ho]; rfl
        rw [this, Bool.and_true] at hall
        simp [b250_1, h11, hi, hii, a20, a21, h1, h2, h4, h5, h6, h7, h8, h9, h10, d0, d1, placeS, ho, skip, e12, hall]
      | true =>
        have c3 := has456 (pu := true) (a := A) (b := B) hf.W rf
        cases hI : hasI f A B with
        | false =>
          have : sidP f X Y i = false := by rw [hsid, filI, ho, hI]; rfl
          rw [this, Bool.and_false] at hall
          simp [b250_1, h11, hi, hii, a20, a21, h1, h2, h4, h5, h6, h7, h8, h9, h10, d0, d1, placeS, ho, c3, hI, e12, hall]
        | true =>
          have : sidP f X Y i = true := by rw [hsid, filI, ho, hI]; rfl
          rw [this, Bool.and_true] at hall
          simp [b250_1, h11, hi, hii, a20, a21, h1, h2, h4, h5, h6, h7, h8, h9, h10, d0, d1, placeS, ho, c3, hI, e12, hall]
    · rintro e h11 ⟨h1, h2, h4, h5, h6, h7, h8, h9, h10⟩
      rw [sid_all] at h9
      cases hful : fulP f X Y with
      | false =>
        rw [hful] at h9 hss
        rw [if_neg (by decide)] at hss
        simp [b250_1, h11, h1, h2, h4, h5, h6, h7, h8, h9, e6]
        exact ⟨pG, k, by rw [hss]; exact b, d⟩
      | true =>
        rw [hful] at h9 hss
        rw [if_pos rfl] at hss
        have c4 := call305 (x := X) (y := Y) b Vs.W.len bX bY
        rw [← hss] at c4
        have el : ∀ kk v, elder H.length false G (v, G.set (H.length + 1) kk) = some (v, G.set (H.length + 1) kk) := fun kk v => elder_same (Mv.set.take (by omega))
        simp [b250_1, h11, h1, h2, h4, h5, h6, h7, h8, h9, c4, el, wbOf, e6]
        exact ⟨pG.set (by omega), k, get_set b, d⟩
  · rintro e G _ h6 ⟨h1, h2, h4, h5, pG, k, b, d⟩
    rw [shrL_all hf] at b
    have hs : SlR G x5 2 (dotL f 144).length (dotC f 144) := ⟨dotC_len, .inr ⟨_, 0, 0, _, hx5, Nat.le_refl _, by rw [rd_at d rfl (by simp [dotC_len])]; simp [take_all (Nat.le_of_eq dotC_len)], _, d, rfl, rfl⟩⟩
    have hl := (shrF_V (f := f)).W.len
    have z12 := stc_zr (k := .u16) (n := 12) (l := shrF f) hl
    simp [b250_2, h6, h2, h4, h5, hs.lenV, rd12 b hl, agg_cs, hl, z12, pG.take]
def dotX (f : List Int) (j : Nat) : Int := ((at0 (dotL f 144) j % 12 : Nat) : Int)
def dotZ (f : List Int) (j : Nat) : Int := ((at0 (dotL f 144) j / 12 : Nat) : Int)
def mnX (f : List Int) (j : Nat) : Int := itN (fun j w => if dotX f j < w then dotX f j else w) 12 j
def mxX (f : List Int) (j : Nat) : Int := itN (fun j w => if w < dotX f j then dotX f j else w) 0 j
theorem mnX_zero {f : List Int} : mnX f 0 = 12 := itN_zero
theorem mnX_succ {f : List Int} {j : Nat} : mnX f (j + 1) = if dotX f j < mnX f j then dotX f j else mnX f j := itN_succ
theorem mxX_zero {f : List Int} : mxX f 0 = 0 := itN_zero
theorem mxX_succ {f : List Int} {j : Nat} : mxX f (j + 1) = if mxX f j < dotX f j then dotX f j else mxX f j := itN_succ
theorem dotX_ok {f : List Int} {j : Nat} : 0 ≤ dotX f j ∧ dotX f j < 12 := by unfold dotX; omega
theorem dotZ_ok {f : List Int} {j : Nat} (hj : j < (dotL f 144).length) : 0 ≤ dotZ f j ∧ dotZ f j < 12 := by
  have := dot_bound hj
  unfold dotZ; omega
theorem mnX_ok {f : List Int} {j : Nat} : 0 ≤ mnX f j ∧ mnX f j ≤ 12 ∧ (∀ i, i < j → mnX f j ≤ dotX f i) ∧ (0 < j → mnX f j < 12) := by
  induction j with
  | zero => rw [mnX_zero]; exact ⟨by omega, by omega, fun i hi => by omega, fun h => by omega⟩
  | succ j ih =>
    obtain ⟨h1, h2, h3, h4⟩ := ih
    have := dotX_ok (f := f) (j := j)
    rw [mnX_succ]
    split
    · refine ⟨by omega, by omega, fun i hi => ?_, fun _ => by omega⟩
      by_cases hij : i < j
      · have := h3 i hij; omega
      · rw [show i = j by omega]; omega
    · refine ⟨by omega, by omega, fun i hi => ?_, fun _ => by omega⟩
      by_cases hij : i < j
      · exact h3 i hij
      · rw [show i = j by omega]; omega
theorem mxX_ok {f : List Int} {j : Nat} : 0 ≤ mxX f j ∧ mxX f j < 12 ∧ (∀ i, i < j → dotX f i ≤ mxX f j) ∧ (0 < j → ∃ i, i < j ∧ dotX f i = mxX f j) := by
  induction j with
  | zero => rw [mxX_zero]; exact ⟨by omega, by omega, fun i hi => by omega, fun h => by omega⟩
  | succ j ih =>
    obtain ⟨h1, h2, h3, h4⟩ := ih
    have := dotX_ok (f := f) (j := j)
    rw [mxX_succ]
    split
    · refine ⟨by omega, by omega, fun i hi => ?_, fun _ => ⟨j, by omega, rfl⟩⟩
      by_cases hij : i < j
      · have := h3 i hij; omega
      · rw [show i = j by omega]; omega
    · refine ⟨by omega, by omega, fun i hi => ?_, fun _ => ?_⟩
      · by_cases hij : i < j
        · exact h3 i hij
        · rw [show i = j by omega]; omega
      · by_cases hj0 : 0 < j
        · obtain ⟨i, i1, i2⟩ := h4 hj0
          exact ⟨i, by omega, i2⟩
        · have : j = 0 := by omega
          subst this
          rw [mxX_zero] at *
          exact ⟨0, by omega, by omega⟩
def bxN (f : List Int) : Nat := (dotL f 144).length
def bxL (f : List Int) : List Int := if bxN f = 0 then zr 4 0 else [mnX f (bxN f), dotZ f 0, mxX f (bxN f) - mnX f (bxN f) + 1, dotZ f (bxN f - 1) - dotZ f 0 + 1]
def bxC' (f : List Int) : Int := if bxN f = 0 then 6 else 0
theorem bxL_len {f : List Int} : (bxL f).length = 4 := by unfold bxL; split <;> rfl
theorem dotM_d {f : List Int} {j : Nat} : dotM (at0 (dotL f 144) j) = (dotX f j, dotZ f j) := rfl
theorem dots_get {G : Heap} {x : Value} {f : List Int} (hs : SlR G x 2 (dotL f 144).length (dotC f 144)) {j : Nat} (hj : j < (dotL f 144).length) :
    ∃ q o ver, idxAV 2 x (.int .i64 (j : Int)) = some (adr q o ver) ∧ rd G q o ver 2 = some (mvC (dotX f j, dotZ f j)) ∧ rd G q o ver 1 = some [.int .i8 (dotX f j)] ∧ rd G q (o + 1) ver 1 = some [.int .i8 (dotZ f j)] := by
  obtain ⟨q, o, ver, ha, hr⟩ := hs.get1 hj
  rw [dotC_at hj, dotM_d] at hr
  exact ⟨q, o, ver, ha, hr, rd_part hr (o := 0) (m := 1) (by omega), rd_part hr (o := 1) (m := 1) (by omega)⟩
theorem dots_new {H : Heap} {f : List Int} : SlR (H ++ [(⟨dotC f 144, 2, 0, false⟩ : Blk)]) (slc H.length 0 0 (dotL f 144).length (dotL f 144).length) 2 (dotL f 144).length (dotC f 144) :=
  (own_new (H := H) (esz := 2) (n := (dotL f 144).length) (vs := dotC f 144) dotC_len).sl
theorem call254 {pu : Bool} {H : Heap} {f : List Int} (hf : VF f) : Call tab pu 254 [iv .u16 f] H = some (tup [iv .i8 (bxL f), .int .i64 (bxC' f)], H) := by
  refine Call_wp t254 (.inr rfl) rfl ?_
  have c1 := call234 (pu := true) (H := H) hf.W.len
  rw [hf.ok] at c1
  have c2 := call449 (pu := true) (H := H) hf.W
  obtain ⟨G, hG⟩ : ∃ G, G = H ++ [(⟨dotC f 144, 2, 0, false⟩ : Blk)] := ⟨_, rfl⟩
  have pG : Pre H G := by rw [hG]; exact Pre.one
  have hs : SlR G (slc H.length 0 0 (dotL f 144).length (dotL f 144).length) 2 (dotL f 144).length (dotC f 144) := by rw [hG]; exact dots_new
  rw [← hG] at c2
  obtain ⟨x4, hx4⟩ : ∃ x4, x4 = slc H.length 0 0 (dotL f 144).length (dotL f 144).length := ⟨_, rfl⟩
  rw [← hx4] at c2 hs
  have hle := dotL_len (f := f) (k := 144)
  have hlV := hs.lenV
  by_cases h0 : (dotL f 144).length = 0
  · have e1 : bxL f = zr 4 0 := by unfold bxL; rw [if_pos (show bxN f = 0 from h0)]
    have e2 : bxC' f = 6 := by unfold bxC'; rw [if_pos (show bxN f = 0 from h0)]
    have z4 := stc_zr (k := .i8) (n := 4) (l := zr 4 0) (by simp)
    have hz : (((dotL f 144).length : Int) == 0) = true := by rw [beq_iff_eq]; omega
    simp [c254, k254, hf.W.len, c1, c2, hlV, hz, zs_cs, agg_cs, fill0, z4, e1, e2, pG.take]
  · have hz : (((dotL f 144).length : Int) == 0) = false := by rw [beq_eq_false_iff_ne]; omega
    obtain ⟨q, o, ver, ha, _, r0, r1⟩ := dots_get hs (j := 0) (by omega)
    have ha' : idxAV 2 x4 (.int .i64 0) = some (adr q o ver) := ha
    simp [c254, k254, hf.W.len, c1, c2, hlV, hz, ha', r0, zs_cs, agg_cs]
    refine WP_forH 31 (dotL f 144).length _ rfl (by omega) (fun j e => e 2 = iv .i8 (zr 4 0) ∧ e 4 = x4 ∧ e 29 = x4 ∧ e 30 = .int .i64 (dotL f 144).length ∧ e 5 = .int .i8 (if dotX f 0 < mnX f j then dotX f 0 else mnX f j) ∧ e 6 = .int .i8 (if mxX f j < dotX f 0 then dotX f 0 else mxX f j)) ?_ ?_ (by simp)
      ⟨by simp, by simp, by simp, by simp, ?_, ?_⟩
    · rintro j e hj hjj e32 h31 ⟨h2, h4, h29, h30, h5, h6⟩
      obtain ⟨q', o', ver', ha2, hr2, _⟩ := dots_get hs hj
      have hm : (mvC (dotX f j, dotZ f j)).length = 2 := rfl
      have g1 : (if dotX f j < (if dotX f 0 < mnX f j then dotX f 0 else mnX f j) then dotX f j else (if dotX f 0 < mnX f j then dotX f 0 else mnX f j)) = if dotX f 0 < mnX f (j + 1) then dotX f 0 else mnX f (j + 1) := by
        rw [mnX_succ]
        repeat' split
        all_goals omega
      have g2 : (if (if mxX f j < dotX f 0 then dotX f 0 else mxX f j) < dotX f j then dotX f j else (if mxX f j < dotX f 0 then dotX f 0 else mxX f j)) = if mxX f (j + 1) < dotX f 0 then dotX f 0 else mxX f (j + 1) := by
        rw [mxX_succ]
        repeat' split
        all_goals omega
      simp [b254_1, h31, h2, h4, h29, h30, h5, h6, hjj, ha2, hr2, hm, stM, ldM1, g1, g2, e32]
    · rintro e h31 ⟨h2, h4, h29, h30, h5, h6⟩
      have m1 := mnX_ok (f := f) (j := (dotL f 144).length)
      have m2 := mxX_ok (f := f) (j := (dotL f 144).length)
      have d0 := m1.2.2.1 0 (by omega)
      have d1 := m2.2.2.1 0 (by omega)
      rw [show (if dotX f 0 < mnX f (dotL f 144).length then dotX f 0 else mnX f (dotL f 144).length) = mnX f (dotL f 144).length by split <;> omega] at h5
      rw [show (if mxX f (dotL f 144).length < dotX f 0 then dotX f 0 else mxX f (dotL f 144).length) = mxX f (dotL f 144).length by split <;> omega] at h6
      obtain ⟨q', o', ver', ha2, _, _, r3⟩ := dots_get hs (j := (dotL f 144).length - 1) (by omega)
      have wn : IntKind.wrap .i64 (((dotL f 144).length : Int) - 1) = (((dotL f 144).length - 1 : Nat) : Int) := by rw [wrap64 (by omega)]; omega
      have z0 := dotZ_ok (f := f) (j := 0) (by omega)
      have z1 := dotZ_ok (f := f) (j := (dotL f 144).length - 1) (by omega)
      have e1 : bxL f = [mnX f (dotL f 144).length, dotZ f 0, mxX f (dotL f 144).length - mnX f (dotL f 144).length + 1, dotZ f ((dotL f 144).length - 1) - dotZ f 0 + 1] := by unfold bxL; rw [if_neg (show ¬ bxN f = 0 from h0)]; rfl
      have e2 : bxC' f = 0 := by unfold bxC'; rw [if_neg (show ¬ bxN f = 0 from h0)]
      generalize mnX f (dotL f 144).length = W at *
      generalize mxX f (dotL f 144).length = E at *
      generalize dotZ f ((dotL f 144).length - 1) = S at *
      generalize dotZ f 0 = N at *
      have w1 : IntKind.wrap .i8 (E - W) = E - W := wrap8 (by omega)
      have w2 : IntKind.wrap .i8 (E - W + 1) = E - W + 1 := wrap8 (by omega)
      have w3 : IntKind.wrap .i8 (S - N) = S - N := wrap8 (by omega)
      have w4 : IntKind.wrap .i8 (S - N + 1) = S - N + 1 := wrap8 (by omega)
      have f4 : fill (cs .i8 (zr 4 0)) [(0, 1, .int .i8 W), (1, 1, .int .i8 N), (2, 1, .int .i8 (E - W + 1)), (3, 1, .int .i8 (S - N + 1))] = some (cs .i8 (bxL f)) := by rw [e1]; rfl
      have z4 := stc_zr (k := .i8) (n := 4) (l := bxL f) bxL_len
      simp [b254_1, h31, h2, h4, h29, h30, h5, h6, ha', r1, hlV, wn, ha2, r3, w1, w2, w3, w4, zs_cs, f4, agg_cs, bxL_len, z4, e2, pG.take]
    · have := dotX_ok (f := f) (j := 0)
      rw [mnX_zero, if_pos (by omega)]; simp
    · have := dotX_ok (f := f) (j := 0)
      rw [mxX_zero]
      by_cases h : 0 < dotX f 0
      · rw [if_pos h]; simp
      · rw [if_neg h, show dotX f 0 = 0 by omega]; simp
theorem call457 {pu : Bool} {H : Heap} {q off ver : Nat} {f : List Int} (hf : VF f) (hr : rd H q off ver 12 = some (cs .u16 f)) : Call tab pu 457 [adr q off ver] H = some (tup [iv .i8 (bxL f), .bool (!decide (bxN f = 0))], H) := by
  refine Call_wp t457 (.inr rfl) rfl ?_
  have c2 := call440 (pu := true) hf.W hr
  obtain ⟨G, hG⟩ : ∃ G, G = H ++ [(⟨dotC f 144, 2, 0, false⟩ : Blk)] := ⟨_, rfl⟩
  have pG : Pre H G := by rw [hG]; exact Pre.one
  have hs : SlR G (slc H.length 0 0 (dotL f 144).length (dotL f 144).length) 2 (dotL f 144).length (dotC f 144) := by rw [hG]; exact dots_new
  rw [← hG] at c2
  obtain ⟨x4, hx4⟩ : ∃ x4, x4 = slc H.length 0 0 (dotL f 144).length (dotL f 144).length := ⟨_, rfl⟩
  rw [← hx4] at c2 hs
  have hle := dotL_len (f := f) (k := 144)
  have hlV := hs.lenV
  by_cases h0 : bxN f = 0
  · have e1 : bxL f = zr 4 0 := by unfold bxL; rw [if_pos h0]
    have z4 := stc_zr (k := .i8) (n := 4) (l := zr 4 0) (by simp)
    have hz : (((dotL f 144).length : Int) == 0) = true := by rw [beq_iff_eq]; unfold bxN at h0; omega
    simp [c457, k457, c2, hlV, hz, zs_cs, agg_cs, fill0, z4, e1, h0, pG.take]
  · have hn0 : (dotL f 144).length ≠ 0 := h0
    have hz : (((dotL f 144).length : Int) == 0) = false := by rw [beq_eq_false_iff_ne]; omega
    obtain ⟨q, o, ver, ha, _, r0, r1⟩ := dots_get hs (j := 0) (by omega)
    have ha' : idxAV 2 x4 (.int .i64 0) = some (adr q o ver) := ha
    simp [c457, k457, c2, hlV, hz, zs_cs, agg_cs]
    refine WP_forH 7 (dotL f 144).length _ rfl (by omega) (fun j e => e 2 = iv .i8 (zr 4 0) ∧ e 4 = x4 ∧ e 5 = .int .i64 (mnX f j) ∧ e 6 = .int .i64 (mxX f j)) ?_ ?_ (by simp)
      ⟨by simp, by simp, by simp [mnX_zero], by simp [mxX_zero]⟩
    · rintro j e hj hjj e8 h7 ⟨h2, h4, h5, h6⟩
      obtain ⟨q', o', ver', ha2, _, hr2, _⟩ := dots_get hs hj
      have dk := dotX_ok (f := f) (j := j)
      have g1 : (if mnX f j < dotX f j then mnX f j else dotX f j) = mnX f (j + 1) := by
        rw [mnX_succ]
        repeat' split
        all_goals omega
      have g2 : (if dotX f j < mxX f j then mxX f j else dotX f j) = mxX f (j + 1) := by
        rw [mxX_succ]
        repeat' split
        all_goals omega
      have w1 : IntKind.wrap .i64 (dotX f j) = dotX f j := wrap64 (by omega)
      simp [b457_1, h7, h2, h4, h5, h6, hlV, hj, ha2, hr2, w1, call511, call549, g1, g2, e8]
    · rintro e h7 ⟨h2, h4, h5, h6⟩
      have m1 := mnX_ok (f := f) (j := (dotL f 144).length)
      have m2 := mxX_ok (f := f) (j := (dotL f 144).length)
      have d0 := m1.2.2.1 0 (by omega)
      have d1 := m2.2.2.1 0 (by omega)
      obtain ⟨q', o', ver', ha2, _, _, r3⟩ := dots_get hs (j := (dotL f 144).length - 1) (by omega)
      have wn : IntKind.wrap .i64 (((dotL f 144).length : Int) - 1) = (((dotL f 144).length - 1 : Nat) : Int) := by rw [wrap64 (by omega)]; omega
      have z0 := dotZ_ok (f := f) (j := 0) (by omega)
      have z1 := dotZ_ok (f := f) (j := (dotL f 144).length - 1) (by omega)
      have e1 : bxL f = [mnX f (dotL f 144).length, dotZ f 0, mxX f (dotL f 144).length - mnX f (dotL f 144).length + 1, dotZ f ((dotL f 144).length - 1) - dotZ f 0 + 1] := by unfold bxL; rw [if_neg h0]; rfl
      generalize mnX f (dotL f 144).length = W at *
      generalize mxX f (dotL f 144).length = E at *
      generalize dotZ f ((dotL f 144).length - 1) = S at *
      generalize dotZ f 0 = N at *
      have u0 : IntKind.wrap .i64 N = N := wrap64 (by omega)
      have u1 : IntKind.wrap .i64 S = S := wrap64 (by omega)
      have u2 : IntKind.wrap .i64 (E - W) = E - W := wrap64 (by omega)
      have u3 : IntKind.wrap .i64 (E - W + 1) = E - W + 1 := wrap64 (by omega)
      have u4 : IntKind.wrap .i64 (S - N) = S - N := wrap64 (by omega)
      have u5 : IntKind.wrap .i64 (S - N + 1) = S - N + 1 := wrap64 (by omega)
      have w1 : IntKind.wrap .i8 W = W := wrap8 (by omega)
      have w2 : IntKind.wrap .i8 (E - W + 1) = E - W + 1 := wrap8 (by omega)
      have w3 : IntKind.wrap .i8 N = N := wrap8 (by omega)
      have w4 : IntKind.wrap .i8 (S - N + 1) = S - N + 1 := wrap8 (by omega)
      have f4 : fill (cs .i8 (zr 4 0)) [(0, 1, .int .i8 W), (1, 1, .int .i8 N), (2, 1, .int .i8 (E - W + 1)), (3, 1, .int .i8 (S - N + 1))] = some (cs .i8 (bxL f)) := by rw [e1]; rfl
      have z4 := stc_zr (k := .i8) (n := 4) (l := bxL f) bxL_len
      simp [b457_1, h7, h2, h4, h5, h6, ha', r1, hlV, wn, ha2, r3, u0, u1, u2, u3, u4, u5, w1, w2, w3, w4, zs_cs, f4, agg_cs, bxL_len, z4, h0, pG.take]
theorem call255 {pu : Bool} {H : Heap} {f : List Int} (hf : VF f) : Call tab pu 255 [iv .u16 f] H = some (tup [iv .i8 (bxL f), .int .i64 (bxC' f)], H) := by
  refine Call_wp t255 (.inr rfl) rfl ?_
  obtain ⟨G, hG⟩ : ∃ G, G = H ++ [(⟨cs .u16 f, 1, 0, false⟩ : Blk)] := ⟨_, rfl⟩
  have hr : rd G H.length 0 0 12 = some (cs .u16 f) := by rw [hG]; exact box12 hf.W.len
  have pG : Pre H G := by rw [hG]; exact Pre.one
  have c1 := call359 (pu := true) hf.W.len hr
  rw [hf.ok] at c1
  have c2 := call457 (pu := true) hf hr
  have z4 := stc_zr (k := .i8) (n := 4) (l := bxL f) bxL_len
  by_cases h0 : bxN f = 0
  · have e1 : bxL f = zr 4 0 := by unfold bxL; rw [if_pos h0]
    have e2 : bxC' f = 6 := by unfold bxC'; rw [if_pos h0]
    rw [e1] at c2 z4
    rw [decide_eq_true h0] at c2
    simp [c255, k255, hf.W.len, ← hG, c1, c2, zs_cs, agg_cs, fill0, z4, e1, e2, pG.take]
  · have e2 : bxC' f = 0 := by unfold bxC'; rw [if_neg h0]
    rw [decide_eq_false h0] at c2
    simp [c255, k255, hf.W.len, ← hG, c1, c2, zs_cs, agg_cs, bxL_len, z4, e2, pG.take]
/-- A frame cut to a box. -/
def cutP (f : List Int) (X Y E S : Int) (u v : Nat) : Bool := hasF f u v && (decide (X ≤ u ∧ (u : Int) ≤ E) && decide (Y ≤ v ∧ (v : Int) ≤ S))
def cutF (f : List Int) (X Y E S : Int) : List Int := dotsF (cutP f X Y E S)
theorem cutF_V {f : List Int} {X Y E S : Int} : VF (cutF f X Y E S) := ⟨dotsF_W, dotsF_ok⟩
theorem call458 {H : Heap} {b c1 c2 c3 c4 : Nat} {f : List Int} {X Y E S : Int} (hw : FrW f) (hr : rd H b 0 0 12 = some (cs .u16 f)) (h1 : rd H c1 0 0 1 = some [.int .i64 X]) (h2 : rd H c2 0 0 1 = some [.int .i64 E]) (h3 : rd H c3 0 0 1 = some [.int .i64 Y]) (h4 : rd H c4 0 0 1 = some [.int .i64 S]) {x y : Nat} (hx : x < 12) (hy : y < 12) :
    callV (Call tab) H (.func (.func 458) #[] #[adr b 0 0, adr c1 0 0, adr c2 0 0, adr c3 0 0, adr c4 0 0]) [.int .i64 x, .int .i64 y] = some (.bool (cutP f X Y E S x y), H) := by
  have e1 : (#[adr b 0 0, adr c1 0 0, adr c2 0 0, adr c3 0 0, adr c4 0 0] : Array Value) = [adr b 0 0, adr c1 0 0, adr c2 0 0, adr c3 0 0, adr c4 0 0].toArray := rfl
  rw [e1, callV_func]
  refine Call_wp t458 (.inr rfl) rfl ?_
  have k1 := call395 (pu := true) (H := H) hw hx hy
  cases q0 : hasF f x y with
  | false => simp [c458, k458, hr, agg_cs, k1, q0, skip, cutP]
  | true =>
    cases q1 : decide (X ≤ x ∧ (x : Int) ≤ E) with
    | false => simp [c458, k458, hr, agg_cs, k1, q0, h1, h2, call295, q1, skip, cutP, -Bool.decide_and, -decide_eq_true_eq, -decide_eq_false_iff_not]
    | true =>
      cases q2 : decide (Y ≤ y ∧ (y : Int) ≤ S) with
      | false => simp [c458, k458, hr, agg_cs, k1, q0, h1, h2, h3, h4, call295, q1, q2, skip, cutP, -Bool.decide_and, -decide_eq_true_eq, -decide_eq_false_iff_not]
      | true => simp [c458, k458, hr, agg_cs, k1, q0, h1, h2, h3, h4, call295, q1, q2, cutP, -Bool.decide_and, -decide_eq_true_eq, -decide_eq_false_iff_not]
theorem calls_st {n : Nat} {x y : Opd} : Op1.calls (.st n x y) = false := Eq.trans rfl rfl
theorem rd_1 {K : Heap} {q : Nat} {v : Value} (hb : K[q]? = some ⟨[v], 1, 0, false⟩) : rd K q 0 0 1 = some [v] := rd_at hb rfl (by simp)
theorem wr_1 {K : Heap} {n0 q : Nat} {wb : Bool} {u v : Value} (hb : K[q]? = some ⟨[u], 1, 0, false⟩) (hq : n0 ≤ q) : wr n0 wb K q 0 0 [v] = some (K.set q ⟨[v], 1, 0, false⟩) := by
  rw [wr_at hb rfl rfl (by simp [may, hq]) (by simp)]; rfl
theorem call257 {pu : Bool} {H : Heap} {f : List Int} {X Y W Z : Int} (hf : VF f) (hX : 0 ≤ X ∧ X < 12) (hY : 0 ≤ Y ∧ Y < 12) (hW : 1 ≤ W) (hZ : 1 ≤ Z) (hE : X + W - 1 < 12) (hS : Y + Z - 1 < 12) :
    Call tab pu 257 [iv .u16 f, iv .i8 [X, Y, W, Z]] H = some (tup [iv .u16 (cutF f X Y (X + W - 1) (Y + Z - 1)), .int .i64 0], H) := by
  refine Call_wp t257 (.inr rfl) rfl ?_
  have hlf := hf.W.len
  have hl4 : ([X, Y, W, Z] : List Int).length = 4 := rfl
  have d0 : ldc 1 false (iv .i8 [X, Y, W, Z]) 0 = some (.int .i8 X) := ldc_iv1 (by rw [hl4]; omega)
  have d1 : ldc 1 false (iv .i8 [X, Y, W, Z]) 1 = some (.int .i8 Y) := ldc_iv1 (by rw [hl4]; omega)
  have d2 : ldc 1 false (iv .i8 [X, Y, W, Z]) 2 = some (.int .i8 W) := ldc_iv1 (by rw [hl4]; omega)
  have d3 : ldc 1 false (iv .i8 [X, Y, W, Z]) 3 = some (.int .i8 Z) := ldc_iv1 (by rw [hl4]; omega)
  have w0 : IntKind.wrap .i64 X = X := wrap64 (by omega)
  have w1 : IntKind.wrap .i64 Y = Y := wrap64 (by omega)
  have w2 : IntKind.wrap .i64 W = W := wrap64 (by omega)
  have w3 : IntKind.wrap .i64 Z = Z := wrap64 (by omega)
  have w4 : IntKind.wrap .i64 (X + W) = X + W := wrap64 (by omega)
  have w5 : IntKind.wrap .i64 (X + W - 1) = X + W - 1 := wrap64 (by omega)
  have w6 : IntKind.wrap .i64 (Y + Z) = Y + Z := wrap64 (by omega)
  have w7 : IntKind.wrap .i64 (Y + Z - 1) = Y + Z - 1 := wrap64 (by omega)
  obtain ⟨z0, hz0⟩ : ∃ z0 : Blk, z0 = ⟨[.int .i64 0], 1, 0, false⟩ := ⟨_, rfl⟩
  obtain ⟨G, hG⟩ : ∃ G, G = H ++ [(⟨cs .u16 f, 1, 0, false⟩ : Blk)] := ⟨_, rfl⟩
  have pG : Pre H G := by rw [hG]; exact Pre.one
  have lG : G.length = H.length + 1 := by rw [hG]; simp
  have bf : G[H.length]? = some ⟨cs .u16 f, 1, 0, false⟩ := by rw [hG]; exact get_last
  obtain ⟨G1, hG1⟩ : ∃ G1, G1 = G ++ [(⟨[.int .i64 0], 1, 0, false⟩ : Blk)] := ⟨_, rfl⟩
  have p1 : Pre G G1 := by rw [hG1]; exact Pre.one
  have l1 : G1.length = H.length + 2 := by rw [hG1]; simp [lG]
  obtain ⟨G2, hG2⟩ : ∃ G2, G2 = G1 ++ [(⟨[.int .i64 0], 1, 0, false⟩ : Blk)] := ⟨_, rfl⟩
  have p2 : Pre G1 G2 := by rw [hG2]; exact Pre.one
  have l2 : G2.length = H.length + 3 := by rw [hG2]; simp [l1]
  have b21 : G2[H.length + 1]? = some ⟨[.int .i64 0], 1, 0, false⟩ := by rw [p2.get (by omega), hG1, ← lG]; exact get_last
  have b22 : G2[H.length + 2]? = some ⟨[.int .i64 0], 1, 0, false⟩ := by rw [hG2, ← l1]; exact get_last
  have x3 := wr_1 (n0 := H.length) (wb := false) (v := .int .i64 X) b21 (by omega)
  obtain ⟨G3, hG3⟩ : ∃ G3, G3 = G2.set (H.length + 1) ⟨[.int .i64 X], 1, 0, false⟩ := ⟨_, rfl⟩
  rw [← hG3] at x3
  have b31 : G3[H.length + 1]? = some ⟨[.int .i64 X], 1, 0, false⟩ := by rw [hG3]; exact get_set b21
  have b32 : G3[H.length + 2]? = some ⟨[.int .i64 0], 1, 0, false⟩ := by rw [hG3, List.getElem?_set_ne (by omega)]; exact b22
  have x4 := wr_1 (n0 := H.length) (wb := false) (v := .int .i64 Y) b32 (by omega)
  obtain ⟨G4, hG4⟩ : ∃ G4, G4 = G3.set (H.length + 2) ⟨[.int .i64 Y], 1, 0, false⟩ := ⟨_, rfl⟩
  rw [← hG4] at x4
  have b41 : G4[H.length + 1]? = some ⟨[.int .i64 X], 1, 0, false⟩ := by rw [hG4, List.getElem?_set_ne (by omega)]; exact b31
  have b42 : G4[H.length + 2]? = some ⟨[.int .i64 Y], 1, 0, false⟩ := by rw [hG4]; exact get_set b32
  have b40 : G4[H.length]? = some ⟨cs .u16 f, 1, 0, false⟩ := by rw [hG4, hG3, List.getElem?_set_ne (by omega), List.getElem?_set_ne (by omega), p2.get (by omega), p1.get (by omega)]; exact bf
  have l4 : G4.length = H.length + 3 := by rw [hG4, hG3]; simp [l2]
  have P4 : Pre H G4 := by rw [hG4, hG3]; exact ((pG.trans (p1.trans p2)).set (by omega)).set (by omega)
  obtain ⟨G5, hG5⟩ : ∃ G5, G5 = G4 ++ [(⟨[.int .i64 0], 1, 0, false⟩ : Blk)] := ⟨_, rfl⟩
  have p5 : Pre G4 G5 := by rw [hG5]; exact Pre.one
  have l5 : G5.length = H.length + 4 := by rw [hG5]; simp [l4]
  obtain ⟨G6, hG6⟩ : ∃ G6, G6 = G5 ++ [(⟨[.int .i64 0], 1, 0, false⟩ : Blk)] := ⟨_, rfl⟩
  have p6 : Pre G5 G6 := by rw [hG6]; exact Pre.one
  have b63 : G6[H.length + 3]? = some ⟨[.int .i64 0], 1, 0, false⟩ := by rw [p6.get (by omega), hG5, ← l4]; exact get_last
  have b64 : G6[H.length + 4]? = some ⟨[.int .i64 0], 1, 0, false⟩ := by rw [hG6, ← l5]; exact get_last
  have x7 := wr_1 (n0 := H.length) (wb := false) (v := .int .i64 (X + W - 1)) b63 (by omega)
  obtain ⟨G7, hG7⟩ : ∃ G7, G7 = G6.set (H.length + 3) ⟨[.int .i64 (X + W - 1)], 1, 0, false⟩ := ⟨_, rfl⟩
  rw [← hG7] at x7
  have b73 : G7[H.length + 3]? = some ⟨[.int .i64 (X + W - 1)], 1, 0, false⟩ := by rw [hG7]; exact get_set b63
  have b74 : G7[H.length + 4]? = some ⟨[.int .i64 0], 1, 0, false⟩ := by rw [hG7, List.getElem?_set_ne (by omega)]; exact b64
  have x8 := wr_1 (n0 := H.length) (wb := false) (v := .int .i64 (Y + Z - 1)) b74 (by omega)
  obtain ⟨G8, hG8⟩ : ∃ G8, G8 = G7.set (H.length + 4) ⟨[.int .i64 (Y + Z - 1)], 1, 0, false⟩ := ⟨_, rfl⟩
  rw [← hG8] at x8
  have k8 : ∀ j, j < H.length + 3 → G8[j]? = G4[j]? := fun j hj => by rw [hG8, hG7, List.getElem?_set_ne (by omega), List.getElem?_set_ne (by omega), p6.get (by omega), p5.get (by omega)]
  have b83 : G8[H.length + 3]? = some ⟨[.int .i64 (X + W - 1)], 1, 0, false⟩ := by rw [hG8, List.getElem?_set_ne (by omega)]; exact b73
  have b84 : G8[H.length + 4]? = some ⟨[.int .i64 (Y + Z - 1)], 1, 0, false⟩ := by rw [hG8]; exact get_set b74
  have P8 : Pre H G8 := by rw [hG8, hG7]; exact ((P4.trans (p5.trans p6)).set (by omega)).set (by omega)
  have r0 := rd12 ((k8 H.length (by omega)).trans b40) hlf
  have r1 := rd_1 ((k8 (H.length + 1) (by omega)).trans b41)
  have r2 := rd_1 ((k8 (H.length + 2) (by omega)).trans b42)
  have r3 := rd_1 b83
  have r4 := rd_1 b84
  have q1 := rd_1 b41
  have q2 := rd_1 b42
  have c1 := call234 (pu := true) (H := G8) hlf
  rw [hf.ok] at c1
  have o1 : okP X Y = true := okP_iff.2 ⟨hX, hY⟩
  have o2 : okP (X + W - 1) (Y + Z - 1) = true := okP_iff.2 (by omega)
  have n1 : ¬ W < 1 := by omega
  have n2 : ¬ Z < 1 := by omega
  have c2 := call306 (pu := true) (H := G8) (F := .func (.func 458) #[] #[adr H.length 0 0, adr (H.length + 1) 0 0, adr (H.length + 3) 0 0, adr (H.length + 2) 0 0, adr (H.length + 4) 0 0]) (p := cutP f X Y (X + W - 1) (Y + Z - 1)) fun x y hx hy => call458 hf.W r0 r1 r3 r2 r4 hx hy
  rw [whereN_dots] at c2
  have eC : dotsF (cutP f X Y (X + W - 1) (Y + Z - 1)) = cutF f X Y (X + W - 1) (Y + Z - 1) := rfl
  rw [eC] at c2
  have hl := (cutF_V (f := f) (X := X) (Y := Y) (E := X + W - 1) (S := Y + Z - 1)).W.len
  have z12 := stc_zr (k := .u16) (n := 12) (l := cutF f X Y (X + W - 1) (Y + Z - 1)) hl
  have bo : ∀ b o v, blkOf (adr b o v) = some b := fun _ _ _ => rfl
  simp [c257, k257, hlf, zs_cs, agg_cs, ← hG, hl4, d0, d1, w0, w1, ← hG1, lG, ← hG2, l1, x3, x4, wbOf, q1, q2, d2, d3, w2, w3, w4, w5, w6, w7, ← hG5, l4, ← hG6, l5, app_nochk, calls_st, apart, mods, bo, x7, x8, r0, c1, n1, n2, r1, r2, r3, r4, placeI, o1, o2, c2, hl, z12, P8.take]
theorem grow_shrink {f : List Int} (hf : VF f) : mixF lessI f (shrF (growF f)) = zr 12 0 := by
  refine less_none hf shrF_V fun u v hu hv h => ?_
  have hd : Dot f u v := ⟨hu, hv, h⟩
  have near : ∀ a b : Nat, a < 12 → b < 12 → Adj a b u v → hasF (growF f) a b = true := fun a b ha hb hadj => (growF_iff.2 ⟨ha, hb, .inr ⟨u, v, hadj, hd⟩⟩).2.2
  have fil : ∀ a b : Int, (∀ x y : Nat, a = x → b = y → Adj x y u v) → filI (growF f) a b = true := fun a b hab => by
    unfold filI
    cases ho : okP a b with
    | false => rfl
    | true =>
      have := okP_iff.1 ho
      have hI : hasI (growF f) a b = true := hasI_iff.2 ⟨a.toNat, b.toNat, by omega, by omega, by omega, by omega, near _ _ (by omega) (by omega) (hab _ _ (by omega) (by omega))⟩
      rw [hI]; rfl
  have h0 : hasF (growF f) u v = true := (growF_iff.2 ⟨hu, hv, .inl hd⟩).2.2
  unfold shrF
  rw [hasF_dots hu hv, shrP, fulP, h0, fil _ _ fun x y h1 h2 => by unfold Adj; omega, fil _ _ fun x y h1 h2 => by unfold Adj; omega, fil _ _ fun x y h1 h2 => by unfold Adj; omega, fil _ _ fun x y h1 h2 => by unfold Adj; omega]
  rfl
theorem bbL_V {f : List Int} (hf : VF f) : ∀ g ∈ bbL f, VF g := fun g hg => by
  obtain ⟨j, hj, rfl⟩ := List.getElem_of_mem hg
  obtain ⟨x, y, h1, h2⟩ := (bbK_I hf (k := 144)).bl j hj
  have e : fr (bbL f) j = (bbL f)[j] := Option.some.inj ((at0_get hj).symm.trans (List.getElem?_eq_getElem hj))
  rw [← e]
  show VF (fr (bbK f 144).1 j)
  rw [h2]; exact blobF_V hf h1
theorem bbL_at2 {f : List Int} (hf : VF f) {i : Nat} (hi : i < (bbL f).length) : ∃ x y, Dot f x y ∧ fr (bbL f) i = blobF f x y := (bbK_I hf (k := 144)).bl i hi
theorem unF_V {l : List (List Int)} (h : ∀ g ∈ l, VF g) {k : Nat} (hk : k ≤ l.length) : VF (unF l k) := by
  induction k with
  | zero => rw [unF_zero]; exact .zero
  | succ k ih => rw [unF_succ]; exact or_V (ih (by omega)) (h _ (at0_mem (by omega)))
theorem unF_all {f : List Int} (hf : VF f) : unF (bbL f) (bbL f).length = f := by
  have I := bbK_I hf (k := 144)
  have e : unF (bbL f) (bbL f).length = (bbK f 144).2 := I.un
  rw [e]
  refine dot_ext I.V hf fun u v => ⟨I.cl.1 u v, fun h => ?_⟩
  refine Classical.byContradiction fun hn => ?_
  have hd : Dot (lfF f 144) u v := (dot_less hf I.V).2 ⟨h, hn⟩
  rw [dot_mem hd.1] at hd
  have := List.length_pos_of_mem hd
  have := bbL_left hf
  omega
theorem bb_dis {f : List Int} (hf : VF f) {i : Nat} (hi : i < (bbL f).length) : mixF andI (unF (bbL f) i) (fr (bbL f) i) = zr 12 0 := by
  have I := bbK_I hf (k := 144)
  have V1 := unF_V (bbL_V hf) (k := i) (by omega)
  have V2 : VF (fr (bbL f) i) := bbL_V hf _ (at0_mem hi)
  refine dot_ext (and_V V1 V2) .zero fun u v => ⟨fun h => ?_, fun h => absurd h dot_zero⟩
  have := (dot_and V1 V2).1 h
  exact absurd this.1 (I.dis i hi u v this.2)
theorem bb_beside {f : List Int} (hf : VF f) {i : Nat} (hi : i < (bbL f).length) : mixF andI (growF (fr (bbL f) i)) f = fr (bbL f) i := by
  obtain ⟨x, y, h1, h2⟩ := bbL_at2 hf hi
  rw [h2]; exact blobF_fix hf h1
theorem bb_dots {f : List Int} (hf : VF f) {i : Nat} (hi : i < (bbL f).length) : 0 < (dotL (fr (bbL f) i) 144).length ∧ fr (bbL f) i ≠ zr 12 0 := by
  obtain ⟨x, y, h1, h2⟩ := bbL_at2 hf hi
  have hd : Dot (fr (bbL f) i) x y := by rw [h2]; exact (blobF_iff hf h1).2 (.base h1)
  refine ⟨List.length_pos_of_mem ((dot_mem h1.1).1 hd), fun he => ?_⟩
  rw [he] at hd
  exact dot_zero hd
theorem bb_same {f : List Int} (hf : VF f) {i : Nat} (hi : i < (bbL f).length) {k : Nat} (hk : k < (dotL (fr (bbL f) i) 144).length) :
    Dot f (at0 (dotL (fr (bbL f) i) 144) k % 12) (at0 (dotL (fr (bbL f) i) 144) k / 12) ∧ blobF f (at0 (dotL (fr (bbL f) i) 144) k % 12) (at0 (dotL (fr (bbL f) i) 144) k / 12) = fr (bbL f) i := by
  obtain ⟨x, y, h1, h2⟩ := bbL_at2 hf hi
  have hm := at0_mem hk
  have hb := dot_bound hk
  generalize at0 (dotL (fr (bbL f) i) 144) k = p at *
  have hd : Dot (fr (bbL f) i) (p % 12) (p / 12) := by rw [dot_mem (by omega), show p / 12 * 12 + p % 12 = p by omega]; exact hm
  rw [h2] at hd ⊢
  have hc := (blobF_iff hf h1).1 hd
  exact ⟨hc.dot, blobF_conn hf hc⟩
theorem bb_none {f : List Int} (hf : VF f) : (bbL f).length = 0 ↔ bxN f = 0 := by
  constructor
  · intro h
    have := unF_all hf
    rw [h, unF_zero] at this
    unfold bxN
    rw [← this]
    have : cntF (zr 12 0) = 0 := cntF_zr
    unfold cntF at this
    omega
  · intro h
    have hl := dotL_sub (f := lfF f 0) (g := f) fun u v hd => ((dot_less hf (by rw [bbK_zero]; exact .zero)).1 hd).1
    have := hl.length_le
    unfold bxN at h
    exact bbL_len hf (k := 0) (by omega) (fun j hj => by omega) (by omega)
/- Dots put and taken. -/
theorem set_same {f : List Int} (hf : VF f) {x y : Nat} (hx : x < 12) (hy : y < 12) (h : hasF f x y = true) : putF (clrF f x y) x y = f := by
  have V := clrF_V hf hx hy
  refine (V.put hx hy).ext hf fun u v hu hv => ?_
  rw [hasF_put V hx hy hu hv, clrF_has hf hx hy hu hv]
  cases hd : decide (u = x) && decide (v = y) with
  | false => simp
  | true =>
    simp only [Bool.and_eq_true, decide_eq_true_eq] at hd
    rw [hd.1, hd.2, h]; rfl
theorem set_diff {f : List Int} (hf : VF f) {x y : Nat} (hx : x < 12) (hy : y < 12) : difF f (putF (clrF f x y) x y) = if hasF f x y = true then 0 else 1 := by
  have V := clrF_V hf hx hy
  have V2 := V.put hx hy
  unfold difF
  split
  · rename_i h
    rw [set_same hf hx hy h]
    have : mixF xorI f f = zr 12 0 := (xor_V' hf hf).ext .zero fun u v hu hv => by rw [mix_xor hf hf hu hv, hasF_zero hu hv]; simp
    rw [this, cntF_zr]
  · rename_i h
    have h : hasF f x y = false := by simpa using h
    have : mixF xorI f (putF (clrF f x y) x y) = putF (zr 12 0) x y := (xor_V' hf V2).ext (VF.zero.put hx hy) fun u v hu hv => by
      rw [mix_xor hf V2 hu hv, hasF_put V hx hy hu hv, clrF_has hf hx hy hu hv, hasF_put .zero hx hy hu hv, hasF_zero hu hv]
      cases hd : decide (u = x) && decide (v = y) with
      | false => simp
      | true =>
        simp only [Bool.and_eq_true, decide_eq_true_eq] at hd
        rw [hd.1, hd.2, h]; rfl
    rw [this, cntF_new .zero hx hy (hasF_zero hx hy), cntF_zr]; rfl
theorem with_has {f : List Int} (hf : VF f) {x y : Nat} (hx : x < 12) (hy : y < 12) : hasF (putF (clrF f x y) x y) x y = true := by
  rw [hasF_put (clrF_V hf hx hy) hx hy hx hy]; simp
theorem without_has {f : List Int} (hf : VF f) {x y : Nat} (hx : x < 12) (hy : y < 12) : hasF (clrF f x y) x y = false := by
  rw [clrF_has hf hx hy hx hy]; simp
/- The box. -/
theorem dotL_mono {f : List Int} {i j : Nat} (hij : i ≤ j) (hj : j < (dotL f 144).length) : at0 (dotL f 144) i ≤ at0 (dotL f 144) j := by
  rcases Nat.lt_or_eq_of_le hij with h | rfl
  · have hp : (dotL f 144).Pairwise (· < ·) := List.pairwise_lt_range.sublist List.filter_sublist
    have e1 : at0 (dotL f 144) i = (dotL f 144)[i]'(by omega) := Option.some.inj ((at0_get (by omega)).symm.trans (List.getElem?_eq_getElem (by omega)))
    have e2 : at0 (dotL f 144) j = (dotL f 144)[j] := Option.some.inj ((at0_get hj).symm.trans (List.getElem?_eq_getElem hj))
    rw [e1, e2]
    exact Nat.le_of_lt (List.pairwise_iff_getElem.1 hp i j (by omega) hj h)
  · exact Nat.le_refl _
theorem dot_at {f : List Int} {u v : Nat} (h : Dot f u v) : ∃ j, j < (dotL f 144).length ∧ dotX f j = u ∧ dotZ f j = v := by
  have hm := (dot_mem h.1).1 h
  have hu := h.1
  obtain ⟨j, hj, he⟩ := List.getElem_of_mem hm
  have e1 : at0 (dotL f 144) j = (dotL f 144)[j] := Option.some.inj ((at0_get hj).symm.trans (List.getElem?_eq_getElem hj))
  refine ⟨j, hj, ?_, ?_⟩
  · unfold dotX; rw [e1, he]; omega
  · unfold dotZ; rw [e1, he]; omega
theorem at_dot {f : List Int} {j : Nat} (hj : j < (dotL f 144).length) : ∃ u v : Nat, dotX f j = u ∧ dotZ f j = v ∧ Dot f u v := by
  have hm := at0_mem hj
  have hb := dot_bound hj
  refine ⟨_, _, rfl, rfl, ?_⟩
  rw [dot_mem (by omega), show at0 (dotL f 144) j / 12 * 12 + at0 (dotL f 144) j % 12 = at0 (dotL f 144) j by omega]
  exact hm
theorem dotZ_mono {f : List Int} {i j : Nat} (hij : i ≤ j) (hj : j < (dotL f 144).length) : dotZ f i ≤ dotZ f j := by
  have := dotL_mono hij hj
  unfold dotZ
  omega
theorem cut_all {f : List Int} (hf : VF f) (h0 : bxN f ≠ 0) : cutF f (mnX f (bxN f)) (dotZ f 0) (mxX f (bxN f)) (dotZ f (bxN f - 1)) = f := by
  refine cutF_V.ext hf fun u v hu hv => ?_
  unfold cutF
  rw [hasF_dots hu hv, cutP]
  cases h : hasF f u v with
  | false => rfl
  | true =>
    obtain ⟨j, j1, j2, j3⟩ := dot_at ⟨hu, hv, h⟩
    have m1 := (mnX_ok (f := f) (j := bxN f)).2.2.1 j j1
    have m2 := (mxX_ok (f := f) (j := bxN f)).2.2.1 j j1
    have z1 := dotZ_mono (f := f) (Nat.zero_le j) j1
    have z2 := dotZ_mono (f := f) (i := j) (j := bxN f - 1) (by unfold bxN; omega) (by unfold bxN at *; omega)
    rw [decide_eq_true (by omega), decide_eq_true (by omega)]; rfl
theorem cut_less {f : List Int} (hf : VF f) (h0 : bxN f ≠ 0) : cutF f (mnX f (bxN f)) (dotZ f 0) (mxX f (bxN f) - 1) (dotZ f (bxN f - 1)) ≠ f := by
  intro he
  obtain ⟨i, i1, i2⟩ := (mxX_ok (f := f) (j := bxN f)).2.2.2 (by omega)
  obtain ⟨u, v, u1, u2, hd⟩ := at_dot i1
  have : hasF (cutF f (mnX f (bxN f)) (dotZ f 0) (mxX f (bxN f) - 1) (dotZ f (bxN f - 1))) u v = true := by rw [he]; exact hd.2.2
  unfold cutF at this
  rw [hasF_dots hd.1 hd.2.1, cutP] at this
  simp only [Bool.and_eq_true, decide_eq_true_eq] at this
  omega
def Q48 (n0 : Nat) (H : Heap) : Ex → Env → Heap → Prop := fun x e' H' => (∀ i, x ≠ .exit i) ∧ (resVs e' H' [.t 4]).map (finish n0 H') = some (.bool true, H)
/-- The box is cut. -/
theorem c48_26 {H G : Heap} {e : Env} {f : List Int} (hP : Pre H G) (hf : VF f) (h5 : e 5 = iv .u16 f) (h36 : e 36 = .int .i64 (bxC' f)) (h37 : e 37 = iv .i8 (bxL f)) :
    WK tab H.length false (tailC 26 k48) [] e G (Q48 H.length H) := by
  by_cases h0 : bxN f = 0
  · have e1 : bxC' f = 6 := by unfold bxC'; rw [if_pos h0]
    rw [e1] at h36
    simp [tailC, k48, h36, hP.take, Q48]
  · have e1 : bxC' f = 0 := by unfold bxC'; rw [if_neg h0]
    rw [e1] at h36
    have e2 : bxL f = [mnX f (bxN f), dotZ f 0, mxX f (bxN f) - mnX f (bxN f) + 1, dotZ f (bxN f - 1) - dotZ f 0 + 1] := by unfold bxL; rw [if_neg h0]
    have hn : 0 < bxN f := by omega
    have m1 := mnX_ok (f := f) (j := bxN f)
    have m2 := mxX_ok (f := f) (j := bxN f)
    have z0 := dotZ_ok (f := f) (j := 0) (by unfold bxN at hn; omega)
    have z1 := dotZ_ok (f := f) (j := bxN f - 1) (by unfold bxN at *; omega)
    have z2 := dotZ_mono (f := f) (Nat.zero_le (bxN f - 1)) (by unfold bxN at *; omega)
    have d0 := m1.2.2.1 0 hn
    have d1 := m2.2.2.1 0 hn
    have hall := cut_all hf h0
    have hless := cut_less hf h0
    generalize mnX f (bxN f) = W at *
    generalize mxX f (bxN f) = E at *
    generalize dotZ f (bxN f - 1) = S at *
    generalize dotZ f 0 = N at *
    have c1 := call257 (pu := true) (H := G) (X := W) (Y := N) (W := E - W + 1) (Z := S - N + 1) hf (by omega) (by omega) (by omega) (by omega) (by omega) (by omega)
    rw [show W + (E - W + 1) - 1 = E by omega, show N + (S - N + 1) - 1 = S by omega, hall] at c1
    have hlf := hf.W.len
    have s1 := stc_zr (k := .u16) (n := 12) (l := f) hlf
    have q1 := eqV_iv (k := .u16) hlf hlf
    rw [decide_eq_true rfl] at q1
    rw [e2] at h37
    have hl4 : ([W, N, E - W + 1, S - N + 1] : List Int).length = 4 := rfl
    have l0 : ldc 1 false (iv .i8 [W, N, E - W + 1, S - N + 1]) 0 = some (.int .i8 W) := ldc_iv1 (by rw [hl4]; omega)
    have l1 : ldc 1 false (iv .i8 [W, N, E - W + 1, S - N + 1]) 1 = some (.int .i8 N) := ldc_iv1 (by rw [hl4]; omega)
    have l2 : ldc 1 false (iv .i8 [W, N, E - W + 1, S - N + 1]) 2 = some (.int .i8 (E - W + 1)) := ldc_iv1 (by rw [hl4]; omega)
    have l3 : ldc 1 false (iv .i8 [W, N, E - W + 1, S - N + 1]) 3 = some (.int .i8 (S - N + 1)) := ldc_iv1 (by rw [hl4]; omega)
    by_cases hw : 1 < E - W + 1
    · have c2 := call257 (pu := true) (H := G) (X := W) (Y := N) (W := E - W) (Z := S - N + 1) hf (by omega) (by omega) (by omega) (by omega) (by omega) (by omega)
      rw [show W + (E - W) - 1 = E - 1 by omega, show N + (S - N + 1) - 1 = S by omega] at c2
      have wr8 : IntKind.wrap .i8 (E - W + 1 - 1) = E - W := by rw [wrap8 (by omega)]; omega
      have wr8' : IntKind.wrap .i8 (E - W) = E - W := wrap8 (by omega)
      have f4 : fill (cs .i8 (zr 4 0)) [(0, 1, .int .i8 W), (1, 1, .int .i8 N), (2, 1, .int .i8 (E - W)), (3, 1, .int .i8 (S - N + 1))] = some (cs .i8 [W, N, E - W, S - N + 1]) := rfl
      have hlc := (cutF_V (f := f) (X := W) (Y := N) (E := E - 1) (S := S)).W.len
      have s2 := stc_zr (k := .u16) (n := 12) (l := cutF f W N (E - 1) S) hlc
      have q2 := eqV_iv (k := .u16) hlc hlf
      rw [decide_eq_false hless] at q2
      simp [tailC, k48, h36, h5, h37, hlf, hl4, c1, zs_cs, agg_cs, s1, q1, l0, l1, l2, l3, hw, wr8, wr8', f4, c2, hlc, s2, q2, hP.take, Q48]
    · simp [tailC, k48, h36, h5, h37, hlf, hl4, c1, zs_cs, agg_cs, s1, q1, l2, hw, hP.take, Q48]
/-- A dot is put and taken. -/
theorem c48_16 {H G : Heap} {e : Env} {y : Value} {bs f : List Int} (hP : Pre H G) (hy : By G y bs) (hf : VF f) (h1 : e 1 = y) (h5 : e 5 = iv .u16 f) (h36 : e 36 = .int .i64 (bxC' f)) (h37 : e 37 = iv .i8 (bxL f)) :
    WK tab H.length false (tailC 16 k48) [] e G (Q48 H.length H) := by
  obtain ⟨a, c1, f1⟩ := call124 (pu := true) (i := 0) (n := 12) hy (by omega) (by omega)
  obtain ⟨b, c2, f2⟩ := call124 (pu := true) (i := 1) (n := 12) hy (by omega) (by omega)
  obtain ⟨x, rfl⟩ := Int.eq_ofNat_of_zero_le f1.1
  obtain ⟨z, rfl⟩ := Int.eq_ofNat_of_zero_le f2.1
  have hx : x < 12 := by omega
  have hz : z < 12 := by omega
  rw [show ((0 : Nat) : Int) = 0 from rfl] at c1
  rw [show ((1 : Nat) : Int) = 1 from rfl] at c2
  have Vc := clrF_V hf hx hz
  have Vp := Vc.put hx hz
  have w1 := with_has hf hx hz
  have w2 := without_has hf hx hz
  have hcc : clrF (putF (clrF f x z) x z) x z = clrF f x z := (clrF_V Vp hx hz).ext Vc fun u v hu hv => by
    rw [clrF_has Vp hx hz hu hv, hasF_put Vc hx hz hu hv, clrF_has hf hx hz hu hv]
    cases decide (u = x) && decide (v = z) <;> simp
  have c3 := call256 (pu := true) (H := G) (b := true) hf hx hz
  have c4 := call256 (pu := true) (H := G) (b := false) Vp hx hz
  rw [if_pos rfl] at c3
  rw [if_neg (by decide), hcc] at c4
  have c5 := call240 (pu := true) (H := G) Vp hx hz
  have c6 := call240 (pu := true) (H := G) Vc hx hz
  have c7 := call252 (pu := true) (H := G) Vc hx hz
  have c8 := call125 (pu := true) (H := G) hf Vp
  rw [w1] at c5
  rw [w2] at c6 c7
  rw [if_neg (by decide), if_neg (by decide)] at c7
  rw [set_diff hf hx hz] at c8
  have hlf := hf.W.len
  have hlp := Vp.W.len
  have hlc := Vc.W.len
  have s1 := stc_zr (k := .u16) (n := 12) (l := putF (clrF f x z) x z) hlp
  have s2 := stc_zr (k := .u16) (n := 12) (l := clrF f x z) hlc
  have s3 := stc_zr (k := .u16) (n := 12) (l := zr 12 0) (by simp)
  have hd := row_div (hf.W.nth hz) hx
  have hbit : (nth f z / bit x) % 2 = if hasF f x z = true then 1 else 0 := by
    have e : hasF f x z = ((nth f z / bit x) % 2 == 1) := rfl
    rw [e]
    have : (nth f z / bit x) % 2 = 0 ∨ (nth f z / bit x) % 2 = 1 := by omega
    rcases this with h | h <;> rw [h] <;> rfl
  have wu : IntKind.wrap .i64 (if hasF f x z = true then 1 else 0) = if hasF f x z = true then 1 else 0 := by split <;> exact wrap64 (by omega)
  have wd : IntKind.wrap .i64 (1 - (if hasF f x z = true then 1 else 0)) = 1 - (if hasF f x z = true then 1 else 0) := by split <;> exact wrap64 (by omega)
  have eqd : ((if hasF f x z = true then (0 : Int) else 1) != 1 - (if hasF f x z = true then 1 else 0)) = false := by split <;> rfl
  have e16 : tailC 16 k48 = headC 10 (tailC 16 k48) (tailC 26 k48) := rfl
  rw [e16]
  obtain ⟨T, hT⟩ : ∃ T, T = tailC 26 k48 := ⟨_, rfl⟩
  rw [← hT]
  simp (disch := omega) [headC, tailC, k48, h1, h5, c1, c2, c3, c4, c5, c6, c7, c8, hlf, hlp, hlc, zs_cs, agg_cs, s1, s2, s3, hz, hx, shr_bit, and_one hd, hbit, wu, wd, eqd, g4c, g4d]
  rw [hT]
  exact c48_26 hP hf (by simp [h5]) (by simp [h36]) (by simp [h37])
structure K48 (H G : Heap) (y b1 b2 : Value) (bs f : List Int) : Prop where
  pr : Pre H G
  by' : By G y bs
  ny : bs.length ≤ 1000000
  V : VF f
  k1 : Bk G b1 (bbL f)
  k2 : Bk G b2 (bbL f)
theorem c48_13 {H G : Heap} {e : Env} {y b1 b2 : Value} {bs f : List Int} (h : K48 H G y b1 b2 bs f) (h1 : e 1 = y) (h5 : e 5 = iv .u16 f) (h8 : e 8 = b2) (h20 : e 20 = iv .u16 f) :
    WK tab H.length false (tailC 13 k48) [] e G (Q48 H.length H) := by
  have hf := h.V
  have c1 := call254 (pu := true) (H := G) hf
  have c2 := call255 (pu := true) (H := G) hf
  have hlf := hf.W.len
  have s1 := stc_zr (k := .i8) (n := 4) (l := bxL f) bxL_len
  have q1 := eqV_iv (k := .u16) hlf hlf
  rw [decide_eq_true rfl] at q1
  have q2 := eqV_iv (k := .i8) (bxL_len (f := f)) (bxL_len (f := f))
  rw [decide_eq_true rfl] at q2
  have hn := bb_none hf
  have hq : (bxC' f == 0) = decide ((0 : Int) < (bbL f).length) := by
    unfold bxC'
    by_cases h0 : bxN f = 0
    · rw [if_pos h0, decide_eq_false (by have := hn.2 h0; omega)]; rfl
    · rw [if_neg h0, decide_eq_true (by have : (bbL f).length ≠ 0 := fun h => h0 (hn.1 h)
                                        omega)]; rfl
  have eqb : ∀ q : Bool, eqV .b (.bool q) (.bool q) = some true := fun q => by cases q <;> rfl
  have B := eqb (decide ((0 : Int) < (bbL f).length))
  obtain ⟨D, hD⟩ : ∃ D, D = decide ((0 : Int) < (bbL f).length) := ⟨_, rfl⟩
  have e16 : tailC 13 k48 = headC 3 (tailC 13 k48) (tailC 16 k48) := rfl
  rw [e16]
  obtain ⟨T, hT⟩ : ∃ T, T = tailC 16 k48 := ⟨_, rfl⟩
  rw [← hT]
  rw [← hD] at hq B
  simp [headC, tailC, k48, h5, h8, h20, c1, c2, hlf, zs_cs, agg_cs, bxL_len, s1, q1, q2, h.k2.lenV, hq, ← hD, B, -Int.natCast_pos, -decide_eq_true_eq]
  rw [hT]
  exact c48_16 h.pr h.by' hf (by simp [h1]) (by simp [h5]) (by simp) (by simp)
theorem c48_11 {H G : Heap} {e : Env} {y b1 b2 : Value} {bs f : List Int} (h : K48 H G y b1 b2 bs f) (h1 : e 1 = y) (h5 : e 5 = iv .u16 f) (h6 : e 6 = b1) (h8 : e 8 = b2) :
    WK tab H.length false (tailC 11 k48) [] e G (Q48 H.length H) := by
  have hf := h.V
  have hlf := hf.W.len
  have e16 : tailC 11 k48 = headC 2 (tailC 11 k48) (tailC 13 k48) := rfl
  rw [e16]
  obtain ⟨T, hT⟩ : ∃ T, T = tailC 13 k48 := ⟨_, rfl⟩
  rw [← hT]
  have z12 := stc_zr (k := .u16) (n := 12) (l := zr 12 0) (by simp)
  have hL : (bbL f).length ≤ 1000 := by
    by_cases hh : ∀ j, j < 144 → (dotL (lfF f j) 144).length ≠ 0
    · have : (bbL f).length = 144 := (bb_count hf hh).1
      omega
    · obtain ⟨j, hj, he⟩ : ∃ j, j < 144 ∧ (dotL (lfF f j) 144).length = 0 := Classical.byContradiction fun hn => hh fun j hj he => hn ⟨j, hj, he⟩
      have key : ∀ k, (bbK f k).1.length ≤ k := fun k => by
        induction k with
        | zero => rw [bbK_zero]; simp
        | succ k ih =>
          rw [bbK_succ, bbS]
          split
          · omega
          · simp; omega
      have := key 144
      unfold bbL; omega
  have hw : BkW (bbL f) := fun g hg => (bbL_V hf g hg).W
  simp [headC, tailC, k48, zs_cs, agg_cs, fill0, z12]
  refine WP_count 21 (bbL f).length _ rfl (fun i e G' => K48 H G' y b1 b2 bs f ∧ e 1 = y ∧ e 5 = iv .u16 f ∧ e 6 = b1 ∧ e 8 = b2 ∧ e 20 = iv .u16 (unF (bbL f) i)) (by omega) ?_ ?_ (by simp) ⟨h, by simp [h1], by simp [h5], by simp [h6], by simp [h8], by simp [unF_zero]⟩
  · rintro i e G _ hi hii e22 h21 ⟨h, h1, h5, h6, h8, h20⟩
    obtain ⟨q, o, v, ha, hr⟩ := Bk.get h.k1 hw hi
    obtain ⟨q', o', v', ha', hr'⟩ := Bk.get h.k2 hw hi
    have VB : VF (fr (bbL f) i) := bbL_V hf _ (at0_mem hi)
    have VU := unF_V (bbL_V hf) (k := i) (by omega)
    have hlB := VB.W.len
    have hlU := VU.W.len
    have c1 := call251 (pu := true) (H := G) VU VB
    rw [bb_dis hf hi] at c1
    have c2 := call247 (pu := true) (H := G) VB
    have Vg := growF_V (f := fr (bbL f) i)
    have c3 := call251 (pu := true) (H := G) Vg hf
    rw [bb_beside hf hi] at c3
    have c4 := call242 (pu := true) (H := G) VB
    obtain ⟨hd0, hne⟩ := bb_dots hf hi
    obtain ⟨G1, hG1⟩ : ∃ G1, G1 = G ++ [(⟨dotC (fr (bbL f) i) 144, 2, 0, false⟩ : Blk)] := ⟨_, rfl⟩
    rw [← hG1] at c4
    have p1 : Pre G G1 := by rw [hG1]; exact Pre.one
    have h' : K48 H G1 y b1 b2 bs f := ⟨h.pr.trans p1, h.by'.pre p1, h.ny, h.V, h.k1.pre p1, h.k2.pre p1⟩
    have hr2 := p1.rd hr'
    have hs : SlR G1 (slc G.length 0 0 (dotL (fr (bbL f) i) 144).length (dotL (fr (bbL f) i) 144).length) 2 (dotL (fr (bbL f) i) 144).length (dotC (fr (bbL f) i) 144) := by rw [hG1]; exact dots_new
    have hdl := dotL_len (f := fr (bbL f) i) (k := 144)
    obtain ⟨a, c5, f1⟩ := call124 (pu := true) (i := i) (n := (dotL (fr (bbL f) i) 144).length) h'.by' (by omega) (by omega)
    obtain ⟨k, rfl⟩ := Int.eq_ofNat_of_zero_le f1.1
    have hk : k < (dotL (fr (bbL f) i) 144).length := by omega
    obtain ⟨q3, o3, v3, ha3, hr3⟩ := hs.get1 hk
    rw [dotC_at hk] at hr3
    obtain ⟨hdk, hsame⟩ := bb_same hf hi hk
    have hbk := dot_bound hk
    generalize at0 (dotL (fr (bbL f) i) 144) k = p at *
    have hm : (mvC (dotM p)).length = 2 := rfl
    have ld1 : ldc 1 false (agg (mvC (dotM p))) 0 = some (.int .i8 ((p % 12 : Nat) : Int)) := ldM1
    have ld2 : ldc 1 false (agg (mvC (dotM p))) 1 = some (.int .i8 ((p / 12 : Nat) : Int)) := ldM2
    have w1 : IntKind.wrap .i64 ((p % 12 : Nat) : Int) = ((p % 12 : Nat) : Int) := wrap64 (by omega)
    have w2 : IntKind.wrap .i64 ((p / 12 : Nat) : Int) = ((p / 12 : Nat) : Int) := wrap64 (by omega)
    have c6 := call252 (pu := true) (H := G1) hf (x := p % 12) (y := p / 12) hdk.1 hdk.2.1
    rw [if_pos hdk.2.2, if_pos hdk.2.2, hsame] at c6
    have c7 := call253 (pu := true) (H := G1) VU VB
    rw [← unF_succ] at c7
    have VU2 := unF_V (bbL_V hf) (k := i + 1) (by omega)
    have hlU2 := VU2.W.len
    have s1 := stc_zr (k := .u16) (n := 12) (l := fr (bbL f) i) hlB
    have s2 := stc_zr (k := .u16) (n := 12) (l := growF (fr (bbL f) i)) Vg.W.len
    have s3 := stc_zr (k := .u16) (n := 12) (l := unF (bbL f) (i + 1)) hlU2
    have s4 : stc (iv .u16 (unF (bbL f) i)) 0 (cs .u16 (unF (bbL f) (i + 1))) = some (iv .u16 (unF (bbL f) (i + 1))) := stc_all (by rw [hlU, hlU2])
    have q1 := eqV_iv (k := .u16) hlB hlB
    rw [decide_eq_true rfl] at q1
    have q0 := eqV_iv (k := .u16) (n := 12) (f := fr (bbL f) i) (g := zr 12 0) hlB (by simp)
    rw [decide_eq_false hne] at q0
    have qz := eqV_iv (k := .u16) (n := 12) (f := zr 12 0) (g := zr 12 0) (by simp) (by simp)
    rw [decide_eq_true rfl] at qz
    have hd0' : (((dotL (fr (bbL f) i) 144).length : Int) == 0) = false := by rw [beq_eq_false_iff_ne]; omega
    simp [b48_1, h21, h1, h5, h6, h8, h20, h.k2.lenV, hii, ha, hr, ha', hr', agg_cs, zs_cs, fill0, q1, q0, qz, hlU, hlB, c1, z12, c2, Vg.W.len, s2, hlf, c3, s1, c4, hs.lenV, hd0', c5, ha3, hr3, hm, stM, ld1, ld2, w1, w2, c6, hr2, c7, hlU2, s3, s4, e22, hi, -Int.natCast_emod, -Int.natCast_ediv]
    exact h'
  · rintro e G _ h21 ⟨h, h1, h5, h6, h8, h20⟩
    rw [unF_all hf] at h20
    simp [b48_1, h21, h8, h.k2.lenV]
    rw [hT]
    exact c48_13 h (by simp [h1]) (by simp [h5]) (by simp [h8]) (by simp [h20])
theorem call48 {H : Heap} {x y : Value} {bs bs' : List Int} (hx : By H x bs) (hy : By H y bs') : ∃ H', Call tab false 48 [x, y] H = some (.bool true, H') := by
  refine ⟨H, Call_wp t48 (.inl rfl) rfl ?_⟩
  have c84 := call84 (pu := true) hx hy
  cases hb : decide (3000 < bs.length) || decide (3000 < bs'.length) with
  | true =>
    rw [hb] at c84
    simp [c48, k48, c84]
  | false =>
    rw [hb] at c84
    simp at hb
    obtain ⟨f, c147, hf⟩ := call147 (pu := true) hx (by omega)
    have hlf := hf.W.len
    have VL := bbL_V hf
    have Vg := growF_V (f := f)
    have Vs := shrF_V (f := growF f)
    have c1 := call245 (pu := true) (H := H) hf
    obtain ⟨G1, hG1⟩ : ∃ G1, G1 = H ++ [(⟨bkC (bbL f), 12, 0, false⟩ : Blk)] := ⟨_, rfl⟩
    rw [← hG1] at c1
    have p1 : Pre H G1 := by rw [hG1]; exact Pre.one
    have c2 := call246 (pu := true) (H := G1) hf
    obtain ⟨G2, hG2⟩ : ∃ G2, G2 = G1 ++ [(⟨bkC (bbL f), 12, 0, false⟩ : Blk)] := ⟨_, rfl⟩
    rw [← hG2] at c2
    have p2 : Pre G1 G2 := by rw [hG2]; exact Pre.one
    have k1 : Bk G2 (slc H.length 0 0 (bbL f).length (bbL f).length) (bbL f) := (bk_of (G := G1) (by rw [hG1]; exact get_last) VL rfl (Nat.le_refl _)).pre p2
    have k2 : Bk G2 (slc G1.length 0 0 (bbL f).length (bbL f).length) (bbL f) := bk_of (by rw [hG2]; exact get_last) VL rfl (Nat.le_refl _)
    have c3 := call247 (pu := true) (H := G2) hf
    have c4 := call248 (pu := true) (H := G2) hf
    have c5 := call249 (pu := true) (H := G2) Vg
    have c6 := call250 (pu := true) (H := G2) Vg
    have c7 := call237 (pu := true) (H := G2) hf Vs
    rw [grow_shrink hf] at c7
    have s0 := stc_zr (k := .u16) (n := 12) (l := f) hlf
    have s1 := stc_zr (k := .u16) (n := 12) (l := growF f) Vg.W.len
    have s2 := stc_zr (k := .u16) (n := 12) (l := shrF (growF f)) Vs.W.len
    have s3 := stc_zr (k := .u16) (n := 12) (l := zr 12 0) (by simp)
    have q1 := eqV_iv (k := .u16) Vg.W.len Vg.W.len
    rw [decide_eq_true rfl] at q1
    have q2 := eqV_iv (k := .u16) Vs.W.len Vs.W.len
    rw [decide_eq_true rfl] at q2
    have qz := eqV_iv (k := .u16) (n := 12) (f := zr 12 0) (g := zr 12 0) (by simp) (by simp)
    rw [decide_eq_true rfl] at qz
    show WK tab H.length false k48 [] (ini [x, y]) H (Q48 H.length H)
    have e16 : k48 = headC 11 k48 (tailC 11 k48) := rfl
    rw [e16]
    obtain ⟨T, hT⟩ : ∃ T, T = tailC 11 k48 := ⟨_, rfl⟩
    rw [← hT]
    obtain ⟨b1, hb1⟩ : ∃ b1, b1 = slc H.length 0 0 (bbL f).length (bbL f).length := ⟨_, rfl⟩
    obtain ⟨b2, hb2⟩ : ∃ b2, b2 = slc G1.length 0 0 (bbL f).length (bbL f).length := ⟨_, rfl⟩
    rw [← hb1] at c1 k1
    rw [← hb2] at c2 k2
    simp [headC, k48, c84, c147, zs_cs, agg_cs, hlf, s0, c1, c2, c3, c4, Vg.W.len, s1, c5, c6, Vs.W.len, s2, c7, s3, k1.lenV, k2.lenV, q1, q2, qz, fill0]
    rw [hT]
    exact c48_11 (b1 := b1) (b2 := b2) (bs := bs') ⟨p1.trans p2, hy.pre (p1.trans p2), by omega, hf, k1, k2⟩ (by simp) (by simp) (by simp) (by simp)
end Fb
