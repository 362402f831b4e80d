/- What each function computes. -/
import Derived.Test.YtimijcjjmeemeaaUse2
set_option linter.unusedVariables false
set_option linter.unusedSimpArgs false
namespace Fb
open Go
theorem any498 {pu : Bool} {H : Heap} {x : Value} {l : List Ly} (hs : Sc H x l) (hw : ScW l) (hn : l.length ≤ 9223372036854775807) : Call tab pu 498 [x] H = some (.bool (okSc l), H) := by
  refine Call_wp t498 (.inr rfl) rfl ?_
  simp [c498, k498]
  refine WP_forM 3 l.length hn (fun i e => e 0 = x ∧ ∀ j, j < i → okLy (at0 l j) = true) ?_ ?_ (by simp) ⟨by simp, fun j hj => by omega⟩
  · rintro i e hi hii e4 h3 ⟨h0, hj⟩
    obtain ⟨q, off, ver, ha, _, hr⟩ := Sc.get hs hw hi
    have c1 := call563 (pu := true) (hw _ (at0_mem hi)) hr
    cases hk : okLy (at0 l i) with
    | true =>
      rw [hk] at c1
      simp [b498_1, h3, h0, SlR.lenV hs, hii, ha, c1, e4]
      exact upto_succ hj hk
    | false =>
      rw [hk] at c1
      have : okSc l = false := by
        unfold okSc
        rw [allN_false hi hk]; rfl
      simp [b498_1, h3, h0, SlR.lenV hs, hii, ha, c1, this]
  · rintro e h3 ⟨h0, hj⟩
    have : okSc l = decide (l.length ≤ 8) := by
      unfold okSc
      rw [allN_true hj]; rfl
    have e1 : decide ((l.length : Int) ≤ 8) = decide (l.length ≤ 8) := by
      by_cases h : l.length ≤ 8
      · rw [decide_eq_true h, decide_eq_true (by omega)]
      · rw [decide_eq_false h, decide_eq_false (by omega)]
    simp [b498_1, h3, h0, SlR.lenV hs, this, e1, -decide_eq_true_eq, -decide_eq_false_iff_not]
theorem any329 {pu : Bool} {H : Heap} {z : Value} {l : List Ly} {x y : Int} (hs : Sc H z l) (hw : ScW l) : Call tab pu 329 [z, .int .i64 x, .int .i64 y] H = some (.int .i64 (cmC l x y), H) := by
  refine Call_wp t329 (.inr rfl) rfl ?_
  have c1 := any281 (pu := true) hs hw
  cases k1 : okSc l with
  | false => simp [c329, k329, c1, k1, cmC]
  | true =>
    cases k2 : in1 x (-100) 100 && in1 y (-100) 100 with
    | false => simp only [cmC, k1, k2]; simp [c329, k329, c1, k1, call416, k2]
    | true => simp only [cmC, k1, k2]; simp [c329, k329, c1, k1, call416, k2]
theorem any331 {pu : Bool} {H : Heap} {z : Value} {l : List Ly} {x y : Int} (hs : Sc H z l) (hw : ScW l) (hn : l.length ≤ 9223372036854775807) : Call tab pu 331 [z, .int .i64 x, .int .i64 y] H = some (.int .i64 (cmC l x y), H) := by
  refine Call_wp t331 (.inr rfl) rfl ?_
  have c1 := any498 (pu := true) hs hw hn
  cases k1 : okSc l with
  | false => simp [c331, k331, c1, k1, cmC]
  | true =>
    cases k2 : in1 x (-100) 100 with
    | false => simp [c331, k331, c1, k1, in304, k2, skip, cmC]
    | true =>
      cases k3 : in1 y (-100) 100 with
      | false => simp [c331, k331, c1, k1, in304, k2, k3, cmC]
      | true => simp [c331, k331, c1, k1, in304, k2, k3, cmC]
/-- What the functions of scenes return. -/
def shwF (l : List Ly) (x y : Int) : List Int := if cmC l x y = 0 then flI l x y l.length else zr 12 0
def flatF (l : List Ly) (x y : Int) : List Int := if cmC l x y = 0 then flI l x y l.length ++ cvr l x y l.length else zr 24 0
theorem fill0 {n : Nat} {k : IntKind} : fill (cs k (zr n 0)) [] = some (cs k (zr n 0)) := rfl
theorem call97 {pu : Bool} {l : List Ly} {x y : Int} (hw : ScW l) {H : Heap} {z : Value} (hs : Sc H z l) :
    Call tab pu 97 [z, .int .i64 x, .int .i64 y] H = some (tup [iv .u16 (shwF l x y), .int .i64 (cmC l x y)], H) := by
  have h1 := any329 (pu := true) (x := x) (y := y) hs hw
  refine Call_wp t97 (.inr rfl) rfl ?_
  have z12 := stc_zr (k := .u16) (n := 12) (l := zr 12 0) (by simp)
  by_cases hc : cmC l x y = 0
  · obtain ⟨hok, hx, hy⟩ := cmC_ok hc
    have c1 := call330 (pu := true) hs hw hok hx hy
    have hl := flI_len (l := l) (x := x) (y := y) (k := l.length)
    have hl2 := cvr_len (l := l) (x := x) (y := y) (k := l.length)
    have s1 := stc_zr (k := .u16) (n := 12) (l := flI l x y l.length) hl
    simp [c97, k97, h1, hc, c1, ev1_fld, fldV_a hl hl2, zs_cs, agg_cs, hl, s1, shwF]
  · have hb : (cmC l x y != 0) = true := by simpa using hc
    simp [c97, k97, h1, hb, zs_cs, agg_cs, fill0, z12, shwF, hc]
theorem call98 {pu : Bool} {l : List Ly} {x y : Int} (hw : ScW l) (hn : l.length ≤ 9223372036854775807) {H : Heap} {z : Value} (hs : Sc H z l) :
    Call tab pu 98 [z, .int .i64 x, .int .i64 y] H = some (tup [iv .u16 (shwF l x y), .int .i64 (cmC l x y)], H) := by
  have h1 := any331 (pu := true) (x := x) (y := y) hs hw hn
  refine Call_wp t98 (.inr rfl) rfl ?_
  have z12 := stc_zr (k := .u16) (n := 12) (l := zr 12 0) (by simp)
  by_cases hc : cmC l x y = 0
  · obtain ⟨hok, hx, hy⟩ := cmC_ok hc
    have c1 := call332 (pu := true) hs hw hok hx hy
    have hl := flI_len (l := l) (x := x) (y := y) (k := l.length)
    have hl2 := cvr_len (l := l) (x := x) (y := y) (k := l.length)
    have s1 := stc_zr (k := .u16) (n := 12) (l := flI l x y l.length) hl
    have l1 : (flI l x y l.length ++ cvr l x y l.length).length = 24 := by simp [hl, hl2]
    have s2 := stc_zr (k := .u16) (n := 24) (l := flI l x y l.length ++ cvr l x y l.length) l1
    simp [c98, k98, h1, hc, c1, zs_cs, agg_cs, hl, hl2, s1, s2, ldAB_a hl hl2, shwF]
  · have hb : (cmC l x y != 0) = true := by simpa using hc
    simp [c98, k98, h1, hb, zs_cs, agg_cs, fill0, z12, shwF, hc]
theorem call99 {pu : Bool} {l : List Ly} {x y : Int} (hw : ScW l) {H : Heap} {z : Value} (hs : Sc H z l) :
    Call tab pu 99 [z, .int .i64 x, .int .i64 y] H = some (tup [iv .u16 (flatF l x y), .int .i64 (cmC l x y)], H) := by
  have h1 := any329 (pu := true) (x := x) (y := y) hs hw
  refine Call_wp t99 (.inr rfl) rfl ?_
  have z24 := stc_zr (k := .u16) (n := 24) (l := zr 24 0) (by simp)
  by_cases hc : cmC l x y = 0
  · obtain ⟨hok, hx, hy⟩ := cmC_ok hc
    have c1 := call330 (pu := true) hs hw hok hx hy
    have l1 : (flI l x y l.length ++ cvr l x y l.length).length = 24 := by simp [flI_len, cvr_len]
    have s2 := stc_zr (k := .u16) (n := 24) (l := flI l x y l.length ++ cvr l x y l.length) l1
    simp [c99, k99, h1, hc, c1, zs_cs, agg_cs, flI_len, cvr_len, s2, flatF]
  · have hb : (cmC l x y != 0) = true := by simpa using hc
    simp [c99, k99, h1, hb, zs_cs, agg_cs, fill0, z24, flatF, hc]
theorem call334 {pu : Bool} {H : Heap} {z : Value} {l : List Ly} {i : Int} (hs : Sc H z l) (hn : l.length ≤ 1000000) : Call tab pu 334 [z, .int .i64 i] H = some (.bool (in1 i 0 ((l.length : Int) - 1)), H) := by
  refine Call_wp t334 (.inr rfl) rfl ?_
  have w1 : IntKind.wrap .i64 ((l.length : Int) - 1) = (l.length : Int) - 1 := wrap64 (by omega)
  simp [c334, k334, SlR.lenV hs, w1, in295]
theorem ly_V {s : Ly} (hw : LyW s) (h : okLy s = true) : VF (inkL s) ∧ VF (mskL s) :=
  ⟨⟨hw.ink, (okLy_d h).2.2.2.1⟩, ⟨hw.msk, (okLy_d h).2.2.2.2⟩⟩
theorem okLy_cel {s : Ly} (h : okLy s = true) : okCel s = true := by
  unfold okLy at h
  simp only [Bool.and_eq_true] at h
  exact h.1.1.1
theorem ink_msk {s : Ly} (hw : LyW s) (h : okLy s = true) {x y : Nat} (hx : x < 12) (hy : y < 12) (hd : hasF (inkL s) x y = true) : hasF (mskL s) x y = true := by
  obtain ⟨v1, v2⟩ := ly_V hw h
  have hc := okLy_cel h
  unfold okCel at hc
  simp only [Bool.and_eq_true, decide_eq_true_eq] at hc
  have := mix_less v1 v2 hx hy
  rw [hc.2, hasF_zero hx hy, hd] at this
  cases hm : hasF (mskL s) x y with
  | true => rfl
  | false => rw [hm] at this; cases this
theorem lyI_V {s : Ly} {x y : Int} : VF (lyI s x y) := shF_V
theorem lyM_V {s : Ly} {x y : Int} : VF (lyM s x y) := shF_V
theorem lyI_M {s : Ly} (hw : LyW s) (h : okLy s = true) {x y : Int} {u v : Nat} (hu : u < 12) (hv : v < 12) (hd : hasF (lyI s x y) u v = true) : hasF (lyM s x y) u v = true := by
  unfold lyI lyM shF at *
  rw [hasF_dots hu hv] at hd ⊢
  unfold mvP at *
  simp only [Bool.and_eq_true, decide_eq_true_eq] at hd ⊢
  exact ⟨hd.1, ink_msk hw h (by omega) (by omega) hd.2⟩
theorem cvr_V {l : List Ly} {x y : Int} {k : Nat} : VF (cvr l x y k) := by
  induction k with
  | zero => rw [cvr_zero]; exact .zero
  | succ k ih => rw [cvr_succ]; exact or_V ih lyM_V
theorem flI_V {l : List Ly} {x y : Int} {k : Nat} : VF (flI l x y k) := by
  induction k with
  | zero => rw [flI_zero]; exact .zero
  | succ k ih => rw [flI_succ]; exact or_V ih (less_V lyI_V cvr_V)
theorem flI_cvr {l : List Ly} {x y : Int} (hw : ScW l) (hok : okSc l = true) {k : Nat} (hk : k ≤ l.length) {u v : Nat} (hu : u < 12) (hv : v < 12) (hd : hasF (flI l x y k) u v = true) : hasF (cvr l x y k) u v = true := by
  induction k with
  | zero => rw [flI_zero, hasF_zero hu hv] at hd; cases hd
  | succ k ih =>
    rw [flI_succ, mix_or flI_V (less_V lyI_V cvr_V) hu hv, mix_less lyI_V cvr_V hu hv] at hd
    rw [cvr_succ, mix_or cvr_V lyM_V hu hv]
    simp only [Bool.or_eq_true, Bool.and_eq_true] at hd ⊢
    rcases hd with hd | hd
    · exact .inl (ih (by omega) hd)
    · exact .inr (lyI_M (hw _ (at0_mem (by omega))) (okSc_get hok (by omega)) hu hv hd.1)
def putI (f : List Int) (a b : Int) : List Int := if okP a b = true then putF f a.toNat b.toNat else f
theorem okP_iff {a b : Int} : okP a b = true ↔ (0 ≤ a ∧ a < 12) ∧ 0 ≤ b ∧ b < 12 := by
  unfold okP; simp; omega
theorem putI_V {f : List Int} {a b : Int} (h : VF f) : VF (putI f a b) := by
  unfold putI
  split
  · rename_i ho
    have := okP_iff.1 ho
    exact h.put (by omega) (by omega)
  · exact h
theorem putI_has {f : List Int} {a b : Int} (h : VF f) {u v : Nat} (hu : u < 12) (hv : v < 12) : hasF (putI f a b) u v = (hasF f u v || (decide ((u : Int) = a) && decide ((v : Int) = b))) := by
  unfold putI
  split
  · rename_i ho
    have := okP_iff.1 ho
    rw [hasF_put h (by omega) (by omega) hu hv]
    congr 1
    congr 1
    · exact decide_eq_decide.2 (by omega)
    · exact decide_eq_decide.2 (by omega)
  · rename_i ho
    have : (decide ((u : Int) = a) && decide ((v : Int) = b)) = false := by
      simp only [Bool.and_eq_false_iff, decide_eq_false_iff_not]
      by_cases h1 : (u : Int) = a
      · refine .inr fun h2 => ho (okP_iff.2 (by omega))
      · exact .inl h1
    rw [this, Bool.or_false]
theorem put305 {H : Heap} {b ver esz : Nat} {l : List Int} (hg : H[b]? = some ⟨cs .u16 l, esz, ver, false⟩) {x y : Int} (hl : l.length = 12) :
    Call tab false 305 [adr b 0 ver, .int .i64 x, .int .i64 y] H = some (tup [], H.set b ⟨cs .u16 (putI l x y), esz, ver, false⟩) := by
  cases ho : okP x y with
  | true =>
    have := okP_iff.1 ho
    obtain ⟨a, rfl⟩ := Int.eq_ofNat_of_zero_le this.1.1
    obtain ⟨c, rfl⟩ := Int.eq_ofNat_of_zero_le this.2.1
    have := call305 hg hl (x := a) (y := c) (by omega) (by omega)
    rw [this, putI, if_pos ho]
    simp
  | false =>
    rw [putI, if_neg (by rw [ho]; decide), set_self hg]
    refine Call_wp t305 (.inl rfl) rfl ?_
    simp [c305, k305, placeS, ho]
/-- Are two places side by side? -/
def nbr (u v p : Nat) : Bool := decide ((u : Int) = ((p % 12 : Nat) : Int) - 1) && decide ((v : Int) = ((p / 12 : Nat) : Int)) || (decide ((u : Int) = ((p % 12 : Nat) : Int) + 1) && decide ((v : Int) = ((p / 12 : Nat) : Int)) || (decide ((u : Int) = ((p % 12 : Nat) : Int)) && decide ((v : Int) = ((p / 12 : Nat) : Int) - 1) || decide ((u : Int) = ((p % 12 : Nat) : Int)) && decide ((v : Int) = ((p / 12 : Nat) : Int) + 1)))
def gr1 (p : Nat) (g : List Int) : List Int :=
  putI (putI (putI (putI g (((p % 12 : Nat) : Int) - 1) ((p / 12 : Nat) : Int)) (((p % 12 : Nat) : Int) + 1) ((p / 12 : Nat) : Int)) ((p % 12 : Nat) : Int) (((p / 12 : Nat) : Int) - 1)) ((p % 12 : Nat) : Int) (((p / 12 : Nat) : Int) + 1)
theorem gr1_V {p : Nat} {g : List Int} (h : VF g) : VF (gr1 p g) := putI_V (putI_V (putI_V (putI_V h)))
theorem gr1_has {p : Nat} {g : List Int} (h : VF g) {u v : Nat} (hu : u < 12) (hv : v < 12) : hasF (gr1 p g) u v = (hasF g u v || nbr u v p) := by
  unfold gr1 nbr
  rw [putI_has (putI_V (putI_V (putI_V h))) hu hv, putI_has (putI_V (putI_V h)) hu hv, putI_has (putI_V h) hu hv, putI_has h hu hv]
  simp only [Bool.or_assoc]
def grL (f : List Int) (j : Nat) : List Int := itN (fun j g => gr1 (at0 (dotL f 144) j) g) f j
theorem grL_zero {f : List Int} : grL f 0 = f := itN_zero
theorem grL_succ {f : List Int} {j : Nat} : grL f (j + 1) = gr1 (at0 (dotL f 144) j) (grL f j) := itN_succ
theorem grL_V {f : List Int} (h : VF f) {j : Nat} : VF (grL f j) := by
  induction j with
  | zero => rw [grL_zero]; exact h
  | succ j ih => rw [grL_succ]; exact gr1_V ih
theorem grL_has {f : List Int} (h : VF f) {j : Nat} (hj : j ≤ (dotL f 144).length) {u v : Nat} (hu : u < 12) (hv : v < 12) : hasF (grL f j) u v = (hasF f u v || ((dotL f 144).take j).any (nbr u v)) := by
  induction j with
  | zero => rw [grL_zero]; simp
  | succ j ih =>
    have ht : (dotL f 144).take (j + 1) = (dotL f 144).take j ++ [at0 (dotL f 144) j] := by
      rw [List.take_add_one, at0_get (by omega)]; rfl
    rw [grL_succ, gr1_has (grL_V h) hu hv, ih (by omega), ht, List.any_append, Bool.or_assoc]
    simp
/-- A frame and all places beside its dots. -/
def nearP (f : List Int) (u v : Nat) : Bool := hasF f u v || (hasI f ((u : Int) - 1) v || (hasI f ((u : Int) + 1) v || (hasI f u ((v : Int) - 1) || hasI f u ((v : Int) + 1))))
def growF (f : List Int) : List Int := dotsF (nearP f)
theorem growF_V {f : List Int} : VF (growF f) := ⟨dotsF_W, dotsF_ok⟩
theorem hasI_dot {f : List Int} {a b : Int} (h : hasI f a b = true) : ∃ p, p ∈ dotL f 144 ∧ ((p % 12 : Nat) : Int) = a ∧ ((p / 12 : Nat) : Int) = b := by
  unfold hasI at h
  simp only [Bool.and_eq_true] at h
  have ho := okP_iff.1 h.1
  refine ⟨b.toNat * 12 + a.toNat, List.mem_filter.2 ⟨by simp; omega, by rw [hasK_yx (by omega)]; exact h.2⟩, by omega, by omega⟩
theorem dot_hasI {f : List Int} {p : Nat} (h : p ∈ dotL f 144) : hasI f ((p % 12 : Nat) : Int) ((p / 12 : Nat) : Int) = true := by
  obtain ⟨h1, h2⟩ := List.mem_filter.1 h
  have h1 : p < 144 := by simpa using h1
  rw [hasI_nat (by omega) (by omega)]; exact h2
theorem grL_all {f : List Int} (h : VF f) : grL f (dotL f 144).length = growF f := by
  refine (grL_V h).ext growF_V fun u v hu hv => ?_
  rw [grL_has h (Nat.le_refl _) hu hv, List.take_length, growF, hasF_dots hu hv, nearP]
  congr 1
  rw [Bool.eq_iff_iff]
  simp only [List.any_eq_true, Bool.or_eq_true, nbr, Bool.and_eq_true, decide_eq_true_eq]
  constructor
  · rintro ⟨p, hp, h1⟩
    have := dot_hasI hp
    rcases h1 with ⟨h1, h2⟩ | ⟨h1, h2⟩ | ⟨h1, h2⟩ | ⟨h1, h2⟩
    · exact .inr (.inl (by rw [h1, h2, show ((p % 12 : Nat) : Int) - 1 + 1 = ((p % 12 : Nat) : Int) by omega]; exact this))
    · exact .inl (by rw [h1, h2, show ((p % 12 : Nat) : Int) + 1 - 1 = ((p % 12 : Nat) : Int) by omega]; exact this)
    · exact .inr (.inr (.inr (by rw [h1, h2, show ((p / 12 : Nat) : Int) - 1 + 1 = ((p / 12 : Nat) : Int) by omega]; exact this)))
    · exact .inr (.inr (.inl (by rw [h1, h2, show ((p / 12 : Nat) : Int) + 1 - 1 = ((p / 12 : Nat) : Int) by omega]; exact this)))
  · rintro (h1 | h1 | h1 | h1)
    · obtain ⟨p, p1, p2, p3⟩ := hasI_dot h1
      exact ⟨p, p1, .inr (.inl ⟨by omega, by omega⟩)⟩
    · obtain ⟨p, p1, p2, p3⟩ := hasI_dot h1
      exact ⟨p, p1, .inl ⟨by omega, by omega⟩⟩
    · obtain ⟨p, p1, p2, p3⟩ := hasI_dot h1
      exact ⟨p, p1, .inr (.inr (.inr ⟨by omega, by omega⟩))⟩
    · obtain ⟨p, p1, p2, p3⟩ := hasI_dot h1
      exact ⟨p, p1, .inr (.inr (.inl ⟨by omega, by omega⟩))⟩
theorem call453 {pu : Bool} {H : Heap} {q off ver : Nat} {f : List Int} (hf : VF f) (hr : rd H q off ver 12 = some (cs .u16 f)) : Call tab pu 453 [adr q off ver] H = some (iv .u16 (growF f), H) := by
  refine Call_wp t453 (.inr rfl) rfl ?_
  have hlf := hf.W.len
  obtain ⟨G0, hG0⟩ : ∃ G0, G0 = H ++ [(⟨cs .u16 (zr 12 0), 1, 0, false⟩ : Blk)] := ⟨_, rfl⟩
  have p0 : Pre H G0 := by rw [hG0]; exact Pre.one
  have hr0 := p0.rd hr
  have g0 : G0[H.length]? = some ⟨cs .u16 (zr 12 0), 1, 0, false⟩ := by rw [hG0]; exact get_last
  obtain ⟨G1, hG1⟩ : ∃ G1, G1 = G0.set H.length ⟨cs .u16 f, 1, 0, false⟩ := ⟨_, rfl⟩
  have w0 : wr H.length false G0 H.length 0 0 (cs .u16 f) = some G1 := by
    rw [wr_at g0 rfl rfl (by simp [may]) (by simp [hlf]), hG1]
    congr 2
    simp [splice, hlf]
  have p1 : Pre H G1 := by rw [hG1]; exact p0.set (Nat.le_refl _)
  have g1 : G1[H.length]? = some ⟨cs .u16 f, 1, 0, false⟩ := by rw [hG1]; exact get_set g0
  have l1 : G1.length = H.length + 1 := by rw [hG1, hG0]; simp
  have c1 := call440 (pu := true) hf.W (p1.rd hr)
  obtain ⟨G2, hG2⟩ : ∃ G2, G2 = G1 ++ [(⟨dotC f 144, 2, 0, false⟩ : Blk)] := ⟨_, rfl⟩
  rw [← hG2, l1] at c1
  have p2 : Pre G1 G2 := by rw [hG2]; exact Pre.one
  have g2 : G2[H.length]? = some ⟨cs .u16 f, 1, 0, false⟩ := by rw [p2.get (by omega)]; exact g1
  have d2 : G2[H.length + 1]? = some ⟨dotC f 144, 2, 0, false⟩ := by rw [hG2, ← l1]; exact get_last
  have hcl : (dotC f 144).length = (dotL f 144).length * 2 := by rw [dotC, mvsC_length]; simp
  have hle := dotL_len (f := f) (k := 144)
  have hz : (zr 12 0).length = 12 := by simp
  simp [c453, k453, zs_cs, agg_cs, ← hG0, hr, hlf, w0, c1, wbOf]
  obtain ⟨x4, hx4⟩ : ∃ x4, x4 = slc (H.length + 1) 0 0 (dotL f 144).length (dotL f 144).length := ⟨_, rfl⟩
  rw [← hx4]
  refine WP_count 5 (dotL f 144).length _ rfl (fun j e G => e 2 = iv .u16 (zr 12 0) ∧ e 3 = adr H.length 0 0 ∧ e 4 = x4 ∧ Pre H G ∧ G[H.length]? = some ⟨cs .u16 (grL f j), 1, 0, false⟩ ∧ G[H.length + 1]? = some ⟨dotC f 144, 2, 0, false⟩) (by omega) ?_ ?_ (by simp)
    ⟨by simp, by simp, by simp, p1.trans p2, by rw [grL_zero]; exact g2, d2⟩
  · rintro j e G _ hj hjj e5 h5 ⟨h2, h3, h4, pG, g, d⟩
    have hs : SlR G x4 2 (dotL f 144).length (dotC f 144) := ⟨hcl, .inr ⟨_, 0, 0, _, hx4, Nat.le_refl _, by rw [rd_at d rfl (by simp [hcl])]; simp [take_all (Nat.le_of_eq hcl)], _, d, rfl, rfl⟩⟩
    obtain ⟨q', o', v', ha, hr'⟩ := hs.get1 hj
    have hel : elem (dotC f 144) 2 j = mvC (dotM (at0 (dotL f 144) j)) := by
      unfold dotC
      rw [mvsC_elem (by simpa using hj), mv_map hj]
    rw [hel] at hr'
    have r1 := rd_part hr' (o := 0) (m := 1) (by omega)
    have r2 := rd_part hr' (o := 1) (m := 1) (by omega)
    obtain ⟨p, hp⟩ : ∃ p, p = at0 (dotL f 144) j := ⟨_, rfl⟩
    have hgs : grL f (j + 1) = gr1 p (grL f j) := by rw [hp]; exact grL_succ
    have hp144 : p < 144 := by
      have hm := at0_mem hj
      rw [← hp] at hm
      have := (List.mem_filter.1 (show p ∈ (List.range 144).filter (hasK f) from hm)).1
      simpa using this
    rw [← hp] at r1 r2
    have r1 : rd G q' o' v' 1 = some [.int .i8 ((p % 12 : Nat) : Int)] := r1
    have r2 : rd G q' (o' + 1) v' 1 = some [.int .i8 ((p / 12 : Nat) : Int)] := r2
    obtain ⟨X, hX⟩ : ∃ X : Int, X = ((p % 12 : Nat) : Int) := ⟨_, rfl⟩
    obtain ⟨Y, hY⟩ : ∃ Y : Int, Y = ((p / 12 : Nat) : Int) := ⟨_, rfl⟩
    rw [← hX] at r1
    rw [← hY] at r2
    unfold gr1 at hgs
    rw [← hX, ← hY] at hgs
    have bX : 0 ≤ X ∧ X < 12 := by omega
    have bY : 0 ≤ Y ∧ Y < 12 := by omega
    have w1 : IntKind.wrap .i64 X = X := wrap64 (by omega)
    have w2 : IntKind.wrap .i64 Y = Y := wrap64 (by omega)
    have w3 : IntKind.wrap .i64 (X - 1) = X - 1 := wrap64 (by omega)
    have w4 : IntKind.wrap .i64 (X + 1) = X + 1 := wrap64 (by omega)
    have w5 : IntKind.wrap .i64 (Y - 1) = Y - 1 := wrap64 (by omega)
    have w6 : IntKind.wrap .i64 (Y + 1) = Y + 1 := wrap64 (by omega)
    have V0 := grL_V hf (j := j)
    have V1 := putI_V (a := X - 1) (b := Y) V0
    have V2 := putI_V (a := X + 1) (b := Y) V1
    have V3 := putI_V (a := X) (b := Y - 1) V2
    have c2 := put305 (x := X - 1) (y := Y) g V0.W.len
    have g1 := get_set (k' := ⟨cs .u16 (putI (grL f j) (X - 1) Y), 1, 0, false⟩) g
    have c3 := put305 (x := X + 1) (y := Y) g1 V1.W.len
    rw [set_set] at c3
    have g2 := get_set (k' := ⟨cs .u16 (putI (putI (grL f j) (X - 1) Y) (X + 1) Y), 1, 0, false⟩) g
    have c4 := put305 (x := X) (y := Y - 1) g2 V2.W.len
    rw [set_set] at c4
    have g3 := get_set (k' := ⟨cs .u16 (putI (putI (putI (grL f j) (X - 1) Y) (X + 1) Y) X (Y - 1)), 1, 0, false⟩) g
    have c5 := put305 (x := X) (y := Y + 1) g3 V3.W.len
    rw [set_set, ← hgs] at c5
    have el : ∀ k v, elder H.length false (G.set H.length k) (v, G.set H.length k) = some (v, G.set H.length k) := fun k v => elder_same rfl
    have el2 : ∀ k k' v, elder H.length false (G.set H.length k) (v, G.set H.length k') = some (v, G.set H.length k') := fun k k' v => elder_same (by rw [Mv.set.take (Nat.le_refl _), Mv.set.take (Nat.le_refl _)])
    have el0 : ∀ k v, elder H.length false G (v, G.set H.length k) = some (v, G.set H.length k) := fun k v => elder_same (Mv.set.take (Nat.le_refl _))
    simp [b453_1, h5, h2, h3, h4, hs.lenV, hjj, ha, r1, r2, w1, w2, w3, w4, w5, w6, c2, c3, c4, c5, el0, el2, e5, wbOf]
    exact ⟨pG.set (Nat.le_refl _), get_set g, d⟩
  · rintro e G _ h5 ⟨h2, h3, h4, pG, g, d⟩
    rw [grL_all hf] at g
    have hs : SlR G x4 2 (dotL f 144).length (dotC f 144) := ⟨hcl, .inr ⟨_, 0, 0, _, hx4, Nat.le_refl _, by rw [rd_at d rfl (by simp [hcl])]; simp [take_all (Nat.le_of_eq hcl)], _, d, rfl, rfl⟩⟩
    have hl := (growF_V (f := f)).W.len
    have rF : rd G H.length 0 0 12 = some (cs .u16 (growF f)) := by rw [rd_at g rfl (by simp [hl])]; simp [take_all, hl]
    have z12 := stc_zr (k := .u16) (n := 12) (l := growF f) hl
    simp [b453_1, h5, h2, h3, h4, hs.lenV, rF, agg_cs, hl, z12, pG.take]
theorem call495 {G : Heap} {P k : Nat} (h : Src G P k) (hk : k ≤ 100000000) :
    ∃ f g G', Call tab false 495 [adr P 0 0] G = some (iv .u16 (f ++ mixF orI f g), G') ∧ VF f ∧ VF g ∧ Mv P G G' ∧ Src G' P (k + 500) := by
  have key : ∃ r, Call tab false 495 [adr P 0 0] G = some r ∧ ∃ f g G', r = (iv .u16 (f ++ mixF orI f g), G') ∧ VF f ∧ VF g ∧ Mv P G G' ∧ Src G' P (k + 500) := by
    refine Call_ex t495 (.inl rfl) rfl ?_
    have hl := h.lt
    obtain ⟨f, G1, c1, Vf, m1, s1⟩ := call368 h (by omega)
    have l1 := m1.len
    have hlf := Vf.W.len
    obtain ⟨G2, hG2⟩ : ∃ G2, G2 = G1 ++ [(⟨cs .u16 (zr 12 0), 1, 0, false⟩ : Blk)] := ⟨_, rfl⟩
    obtain ⟨G3, hG3⟩ : ∃ G3, G3 = G1 ++ [(⟨cs .u16 f, 1, 0, false⟩ : Blk)] := ⟨_, rfl⟩
    have w3 : wr G.length true G2 G1.length 0 0 (cs .u16 f) = some G3 := by
      rw [hG2, hG3]
      exact wr_last (b := ⟨cs .u16 (zr 12 0), 1, 0, false⟩) rfl rfl (by omega) (by simp [hlf])
    have p3 : Pre G1 G3 := by rw [hG3]; exact Pre.one
    have l3 : G3.length = G1.length + 1 := by rw [hG3]; simp
    obtain ⟨g, G4, c4, Vg, m4, s4⟩ := call368 (s1.pre p3) (by omega)
    have hlg := Vg.W.len
    have l4 : G4.length = G1.length + 1 := by rw [m4.len, l3]
    obtain ⟨G5, hG5⟩ : ∃ G5, G5 = G4 ++ [(⟨cs .u16 (zr 12 0), 1, 0, false⟩ : Blk)] := ⟨_, rfl⟩
    obtain ⟨G6, hG6⟩ : ∃ G6, G6 = G4 ++ [(⟨cs .u16 g, 1, 0, false⟩ : Blk)] := ⟨_, rfl⟩
    have w6 : wr G.length true G5 G4.length 0 0 (cs .u16 g) = some G6 := by
      rw [hG5, hG6]
      exact wr_last (b := ⟨cs .u16 (zr 12 0), 1, 0, false⟩) rfl rfl (by omega) (by simp [hlg])
    rw [l4] at w6
    have p6 : Pre G4 G6 := by rw [hG6]; exact Pre.one
    obtain ⟨d, G7, c7, m7, s7⟩ := call513 (n := 3) (s4.pre p6) (by omega) (by omega)
    have b1 : G7[G1.length]? = some ⟨cs .u16 f, 1, 0, false⟩ := by rw [m7.get _ (by omega), p6.get (by omega), m4.get _ (by omega), hG3]; exact get_last
    have b2 : G7[G1.length + 1]? = some ⟨cs .u16 g, 1, 0, false⟩ := by rw [m7.get _ (by omega), ← l4, hG6]; exact get_last
    have rr : ∀ {K : Heap} {q : Nat} {u : List Int}, K[q]? = some ⟨cs .u16 u, 1, 0, false⟩ → u.length = 12 → rd K q 0 0 12 = some (cs .u16 u) := fun hb hu => by rw [rd_at hb rfl (by simp [hu])]; simp [take_all, hu]
    have rf := rr b1 hlf
    have c8 := call453 (pu := true) Vf rf
    have vG := (growF_V (f := f))
    have hlG := vG.W.len
    have hG7 : ∀ j, j < G.length → j ≠ P → G7[j]? = G[j]? := fun j hj hp => by
      rw [m7.get _ hp, p6.get (by omega), m4.get _ hp, p3.get (by omega), m1.get _ hp]
    have l7 : G7.length = G1.length + 2 := by rw [m7.len, hG6]; simp [l4]
    have t7 : Mv P G (G7.take G.length) := ⟨by simp [l7, l1], fun j hj => by
      rw [List.getElem?_take]
      split
      · exact hG7 j ‹_› hj
      · exact (List.getElem?_eq_none (by omega)).symm⟩
    have hz : (zr 12 0).length = 12 := by simp
    cases d with
    | false =>
      have c9 := call337 (pu := true) hlf hlg rf (rr b2 hlg)
      have s3 := stc_zr (k := .u16) (n := 24) (l := f ++ mixF orI f g) (by simp [hlf, mixF_length])
      have ff := fill24 hlf (mixF_length (op := orI) (a := f) (b := g))
      simp [c495, k495, c1, wbOf, zs_cs, ← hG2, hlf, w3, c4, ← hG5, hlg, w6, c7, c9, rf, agg_cs, ff, s3, mixF_length, l4]
      exact ⟨_, _, ⟨rfl, rfl⟩, f, g, _, ⟨rfl, rfl⟩, Vf, Vg, t7, (s7.take hl).le (by omega)⟩
    | true =>
      obtain ⟨G8, hG8⟩ : ∃ G8, G8 = G7.set (G1.length + 1) ⟨cs .u16 (growF f), 1, 0, false⟩ := ⟨_, rfl⟩
      have w8 : wr G.length true G7 (G1.length + 1) 0 0 (cs .u16 (growF f)) = some G8 := by
        rw [wr_at b2 rfl rfl (by simp [may]) (by simp [hlg, hlG]), hG8]
        congr 2
        simp [splice, hlg, hlG]
      have b3 : G8[G1.length]? = some ⟨cs .u16 f, 1, 0, false⟩ := by rw [hG8, List.getElem?_set_ne (by omega)]; exact b1
      have b4 : G8[G1.length + 1]? = some ⟨cs .u16 (growF f), 1, 0, false⟩ := by rw [hG8]; exact get_set b2
      have rf8 := rr b3 hlf
      have c9 := call337 (pu := true) hlf hlG rf8 (rr b4 hlG)
      have s3 := stc_zr (k := .u16) (n := 24) (l := f ++ mixF orI f (growF f)) (by simp [hlf, mixF_length])
      have ff := fill24 hlf (mixF_length (op := orI) (a := f) (b := growF f))
      have t8 : G8.take G.length = G7.take G.length := by rw [hG8]; exact Mv.set.take (by omega)
      simp [c495, k495, c1, wbOf, zs_cs, ← hG2, hlf, w3, c4, ← hG5, hlg, w6, c7, rf, c8, hlG, w8, c9, rf8, agg_cs, ff, s3, mixF_length, l4]
      refine ⟨_, _, ⟨rfl, rfl⟩, f, growF f, _, ⟨rfl, rfl⟩, Vf, vG, by rw [t8]; exact t7, ?_⟩
      rw [t8]; exact (s7.take hl).le (by omega)
  obtain ⟨r, hc, f, g, G', rfl, h⟩ := key
  exact ⟨f, g, G', hc, h⟩
theorem LoG.app {G G' L : Heap} {P k esz n : Nat} {x : Value} {vs : List Value} (h : LoG G G' P k x esz n vs) : LoG G (G' ++ L) P k x esz n vs := by
  have hl := h.lt
  have hlen := h.len
  have g : ∀ j, j < G'.length → (G' ++ L)[j]? = G'[j]? := fun j hj => List.getElem?_append_left hj
  exact ⟨h.src.pre ⟨L, rfl⟩, by obtain ⟨ver, e, q⟩ := h.ls; exact ⟨ver, e, by rw [g _ (by omega)]; exact q⟩, h.size, by simp; omega, fun j hj hp => by rw [g _ (by omega)]; exact h.get j hj hp, hl⟩
/-- A drawn layer. -/
structure DLy (s : Ly) : Prop where
  W : LyW s
  ok : okLy s = true
  bx : -3 ≤ s.x ∧ s.x ≤ 3
  bz : -3 ≤ s.y ∧ s.y ≤ 3
  bd : 0 ≤ s.d ∧ s.d ≤ 8
theorem DLy.of {f g : List Int} {x y d : Int} (hf : VF f) (hg : VF g) (hx : -3 ≤ x ∧ x ≤ 3) (hy : -3 ≤ y ∧ y ≤ 3) (hd : 0 ≤ d ∧ d ≤ 8) : DLy ⟨f ++ mixF orI f g, x, y, d⟩ := by
  have V := or_V hf hg
  have e1 : inkL ⟨f ++ mixF orI f g, x, y, d⟩ = f := (join_sub hf.W.len V.W.len).1
  have e2 : mskL ⟨f ++ mixF orI f g, x, y, d⟩ = mixF orI f g := (join_sub hf.W.len V.W.len).2
  refine ⟨⟨by simp [hf.W.len, V.W.len], fun n hn => ?_, ⟨by simp only []; omega, by simp only []; omega⟩, ⟨by simp only []; omega, by simp only []; omega⟩, ⟨by simp only []; omega, by simp only []; omega⟩⟩, ?_, hx, hy, hd⟩
  · rcases List.mem_append.1 hn with h | h
    · exact hf.W.ok n h
    · exact V.W.ok n h
  · unfold okLy okCel
    rw [e1, e2, hf.ok, V.ok, less_none hf V fun u v hu hv h => by rw [mix_or hf hg hu hv, h]; rfl]
    simp [in1]; omega
theorem call328 {G : Heap} {P k : Nat} (h : Src G P k) (hk : k ≤ 10000000) :
    ∃ l G1, Call tab false 328 [adr P 0 0] G = some (slc G.length 0 0 l.length l.length, G1 ++ [⟨scC l, 27, 0, false⟩]) ∧ (∀ s ∈ l, DLy s) ∧ l.length ≤ 4 ∧ Mv P G G1 ∧ Src G1 P (k + 4000) := by
  have key : ∃ r, Call tab false 328 [adr P 0 0] G = some r ∧ ∃ l G1, r = (slc G.length 0 0 l.length l.length, G1 ++ [⟨scC l, 27, 0, false⟩]) ∧ (∀ s ∈ l, DLy s) ∧ l.length ≤ 4 ∧ Mv P G G1 ∧ Src G1 P (k + 4000) := by
    refine Call_ex t328 (.inl rfl) rfl ?_
    obtain ⟨G1, hG1⟩ : ∃ G1, G1 = G ++ [(⟨[], 27, 0, false⟩ : Blk)] := ⟨_, rfl⟩
    have L1 : LoG G G1 P k (slc G.length 0 0 0 0) 27 0 (scC []) := by rw [hG1]; exact LoG.new h
    obtain ⟨N, G2, c2, hN, L2⟩ := L1.pick (n := 5) (by omega) (by omega)
    obtain ⟨N, rfl⟩ := Int.eq_ofNat_of_zero_le hN.1
    have hf0 : fill (rep 0 lyZ) [] = some [] := rfl
    simp [c328, k328, z27, hf0, ← hG1, c2, wbOf]
    refine WK_loop (fun i e G' => e 0 = adr P 0 0 ∧ e 4 = .int .i64 ((N - i : Nat) : Int) ∧ ∃ l, l.length = i ∧ LoG G G' P (k + 2 + i * 600) (e 3) 27 i (scC l) ∧ ∀ s ∈ l, DLy s) N ?_ (Nat.zero_le _)
      ⟨by simp, by simp, [], rfl, by simp; exact L2, fun s hs => by cases hs⟩
    rintro i e G' _ hi ⟨h0, h4, l, hl, Lo, hD⟩
    obtain ⟨x, h3⟩ : ∃ x, e 3 = x := ⟨_, rfl⟩
    rw [h3] at Lo
    by_cases hiN : i = N
    · subst hiN
      rw [Nat.sub_self] at h4
      obtain ⟨d1, d2, d3⟩ := Lo.done scC_flat
      simp [b328_1, h0, h4, h3, d1]
      exact ⟨l, _, ⟨by rw [hl], rfl, rfl⟩, hD, by omega, d2, d3.le (by omega)⟩
    · have hpos : 0 < N - i := by omega
      have hiN' : i < N := by omega
      have e7 : IntKind.wrap .i64 (((N - i : Nat) : Int) - 1) = ((N - (i + 1) : Nat) : Int) := by rw [wrap64 (by omega)]; omega
      obtain ⟨f, g, G4, c4, Vf, Vg, m4, s4⟩ := call495 Lo.src (by omega)
      have L4 := Lo.mv m4 s4
      obtain ⟨a, G5, c5, ha, L5⟩ := L4.pick (n := 7) (by omega) (by omega)
      obtain ⟨b, G6, c6, hb, L6⟩ := L5.pick (n := 7) (by omega) (by omega)
      obtain ⟨G7, hG7⟩ : ∃ G7, G7 = G6 ++ [(⟨cs .i64 [0, 2, 3, 4, 8], 1, 0, false⟩ : Blk)] := ⟨_, rfl⟩
      have L7 : LoG G G7 P (k + 2 + i * 600 + 500 + 2 + 2) x 27 i (scC l) := by rw [hG7]; exact L6.app
      have hlt6 := L6.src.lt
      have hfl : fill (rep 5 [.int .i64 0]) [(0, 1, .int .i64 0), (1, 1, .int .i64 2), (2, 1, .int .i64 3), (3, 1, .int .i64 4), (4, 1, .int .i64 8)] = some (cs .i64 [0, 2, 3, 4, 8]) := rfl
      obtain ⟨d, G8, c8, hd, m8, s8⟩ := call496 (q := G6.length) (l := [0, 2, 3, 4, 8]) L7.src (by omega) (by omega) (by rw [hG7]; exact get_last) (by simp) (by simp)
      have L8 := L7.mv m8 s8
      have c8 : Call tab false 496 [adr P 0 0, slc G6.length 0 0 5 5] G7 = some (.int .i64 d, G8) := c8
      have hd' : 0 ≤ d ∧ d ≤ 8 := by simp at hd; omega
      have w1 : IntKind.wrap .i64 (a - 3) = a - 3 := wrap64 (by omega)
      have w2 : IntKind.wrap .i8 (a - 3) = a - 3 := wrap8 (by omega)
      have w3 : IntKind.wrap .i64 (b - 3) = b - 3 := wrap64 (by omega)
      have w4 : IntKind.wrap .i8 (b - 3) = b - 3 := wrap8 (by omega)
      have w5 : IntKind.wrap .i8 d = d := wrap8 (by omega)
      obtain ⟨F, hF⟩ : ∃ F, F = f ++ mixF orI f g := ⟨_, rfl⟩
      have D := DLy.of (x := a - 3) (y := b - 3) (d := d) Vf Vg (by omega) (by omega) hd'
      rw [← hF] at c4 D
      have hlF : F.length = 24 := D.W.len
      have hz : (zr 24 0).length = 24 := rfl
      have fl : fill lyZ [(0, 24, iv .u16 F), (24, 1, .int .i8 (a - 3))] = some (lyT F (.int .i8 (a - 3)) (.int .i8 0) (.int .i8 0)) := by
        have q1 : splice lyZ 0 (cs .u16 F) = lyT F (.int .i8 0) (.int .i8 0) (.int .i8 0) := by
          unfold splice lyZ lyT
          rw [List.take_zero, List.nil_append, Nat.zero_add, show (cs .u16 F).length = (cs .u16 (zr 24 0)).length by simp [hlF], List.drop_left]
        have q2 : splice (lyT F (.int .i8 0) (.int .i8 0) (.int .i8 0)) 24 [.int .i8 (a - 3)] = lyT F (.int .i8 (a - 3)) (.int .i8 0) (.int .i8 0) := by
          unfold splice
          rw [show 24 + [Value.int .i8 (a - 3)].length = 24 + 1 from rfl, lyT_at hlF]
          unfold lyT
          rw [List.take_left' (by simp [hlF])]; simp
        show (if (cellsOf (iv .u16 F)).length = 24 ∧ 0 + 24 ≤ lyZ.length then fill (splice lyZ 0 (cellsOf (iv .u16 F))) [(24, 1, .int .i8 (a - 3))] else none) = _
        rw [if_pos ⟨by simp [hlF], by decide⟩, show cellsOf (iv .u16 F) = cs .u16 F from rfl, q1]
        show (if (cellsOf (Value.int .i8 (a - 3))).length = 1 ∧ 24 + 1 ≤ (lyT F (.int .i8 0) (.int .i8 0) (.int .i8 0)).length then fill (splice (lyT F (.int .i8 0) (.int .i8 0) (.int .i8 0)) 24 [.int .i8 (a - 3)]) [] else none) = _
        rw [if_pos ⟨rfl, by rw [lyT_len hlF]; omega⟩, q2]; rfl
      have st0 := stLall (a := .int .i8 0) (b := .int .i8 0) (c := .int .i8 0) (a' := .int .i8 (a - 3)) (b' := .int .i8 0) (c' := .int .i8 0) hz hlF
      have st1 := stLy (a := .int .i8 (a - 3)) (b := .int .i8 0) (c := .int .i8 0) (v := .int .i8 (b - 3)) hlF
      have st2 := stLd (a := .int .i8 (a - 3)) (b := .int .i8 (b - 3)) (c := .int .i8 0) (v := .int .i8 d) hlF
      obtain ⟨x', G9, c9, L9⟩ := L8.push (c := lyC ⟨F, a - 3, b - 3, d⟩) (bytes := 52) (lyC_len D.W) (room52 (by omega))
      rw [scC_push] at L9
      have f27 := fill27 D.W
      simp only [lyC] at c9 f27
      simp only [lyZ] at st0 f27 fl
      have l8 : G8.length = G6.length + 1 := by rw [m8.len, hG7]; simp
      simp [b328_1, h0, h4, h3, hpos, z27, lyZ, c4, wbOf, c5, w1, w2, fl, st0, lyT_len hz, lyT_len hlF, c6, w3, w4, st1, hfl, ← hG7, c8, w5, st2, ldLall hlF, f27, c9, e7]
      refine ⟨hiN', _, by simp [hl], L9.le (by omega), fun s hs => ?_⟩
      rcases List.mem_append.1 hs with h1 | h1
      · exact hD s h1
      · rw [List.mem_singleton.1 h1]; exact D
  obtain ⟨r, hc, l, G1, rfl, h⟩ := key
  exact ⟨l, G1, hc, h⟩
theorem call96 {pu : Bool} {H : Heap} {x : Value} {bs : List Int} (hx : By H x bs) (hn : bs.length ≤ 1000000) :
    ∃ l, Call tab pu 96 [x] H = some (slc H.length 0 0 l.length l.length, H ++ [⟨scC l, 27, 0, false⟩]) ∧ (∀ s ∈ l, DLy s) ∧ l.length ≤ 4 := by
  obtain ⟨c1, s1⟩ := call315 (pu := true) hx.s hx.b hn
  obtain ⟨l, G2, c2, D, hl, m2, s2⟩ := call328 s1 (by omega)
  obtain ⟨H1, hH1⟩ : ∃ H1, H1 = H ++ [srB x 0 0] := ⟨_, rfl⟩
  rw [← hH1] at c1 c2 s1 m2
  have p1 : Pre H H1 := by rw [hH1]; exact Pre.one
  have l1 : H1.length = H.length + 1 := by rw [hH1]; simp
  have l2 : G2.length = H.length + 1 := by rw [m2.len, l1]
  have t2 : G2.take H.length = H := by rw [m2.take (Nat.le_refl _), p1.take]
  obtain ⟨G3, hG3⟩ : ∃ G3, G3 = G2 ++ [(⟨scC l, 27, 0, false⟩ : Blk)] := ⟨_, rfl⟩
  have t3 : G3.take H.length = H := by rw [hG3, List.take_append_of_le_length (by omega), t2]
  rw [← hG3] at c2
  have x2 : elder H.length false H1 (slc H1.length 0 0 l.length l.length, G3) = some (slc H1.length 0 0 l.length l.length, G3) := elder_same (by rw [t3, p1.take])
  have hfin : finish H.length G3 [slc H1.length 0 0 l.length l.length] = (slc H.length 0 0 l.length l.length, H ++ [⟨scC l, 27, 0, false⟩]) := by
    rw [finish_slc' (H := H) (G := G3) (b := H1.length) (k := ⟨scC l, 27, 0, false⟩) (by omega) (by rw [hG3, l1, ← l2]; exact get_last) rfl rfl scC_flat.all, t3]
  refine ⟨l, Call_wp t96 (.inr rfl) rfl ?_, D, hl⟩
  simp [c96, k96, c1, c2, x2, wbOf, hfin]
theorem shF_has {f : List Int} {dx dy : Int} {x y : Nat} (hx : x < 12) (hy : y < 12) : hasF (shF f dx dy) x y = hasI f ((x : Int) - dx) ((y : Int) - dy) := by
  unfold shF hasI
  rw [hasF_dots hx hy, mvP]
  congr 1
  rw [Bool.eq_iff_iff, okP_iff]
  simp only [decide_eq_true_eq]
  constructor <;> intro h <;> omega
/-- Side by side. -/
def Adj (u v u' v' : Nat) : Prop := (v = v' ∧ (u = u' + 1 ∨ u' = u + 1)) ∨ (u = u' ∧ (v = v' + 1 ∨ v' = v + 1))
theorem Adj.symm {u v u' v' : Nat} (h : Adj u v u' v') : Adj u' v' u v := by unfold Adj at *; omega
def Dot (f : List Int) (u v : Nat) : Prop := u < 12 ∧ v < 12 ∧ hasF f u v = true
/-- What hangs together. -/
inductive Conn (f : List Int) (x y : Nat) : Nat → Nat → Prop
  | base (h : Dot f x y) : Conn f x y x y
  | step {u v u' v' : Nat} (h : Conn f x y u v) (ha : Adj u' v' u v) (hd : Dot f u' v') : Conn f x y u' v'
theorem Conn.dot {f : List Int} {x y u v : Nat} (h : Conn f x y u v) : Dot f u v := by cases h <;> assumption
theorem Conn.trans {f : List Int} {x y u v a b : Nat} (h : Conn f x y u v) (h2 : Conn f u v a b) : Conn f x y a b := by
  induction h2 with
  | base _ => exact h
  | step _ ha hd ih => exact .step ih ha hd
theorem Conn.symm {f : List Int} {x y u v : Nat} (h : Conn f x y u v) : Conn f u v x y := by
  induction h with
  | base h => exact .base h
  | step h1 ha hd ih => exact Conn.trans (.step (.base hd) ha.symm h1.dot) ih
@[simp] theorem str_size {l : List UInt8} : (⟨l.toArray⟩ : ByteArray).size = l.length := by rw [Lib.size_eq]
@[simp] theorem lensV_s {l : List UInt8} : lensV (str l) = some (.int .i64 l.length) := by unfold str; simp
theorem eqV_s {a b : List UInt8} : eqV .s (str a) (str b) = some (decide (a = b)) := by
  show some ((⟨a.toArray⟩ : ByteArray).toList == (⟨b.toArray⟩ : ByteArray).toList) = _
  rw [Lib.toList_data, Lib.toList_data]
  show some (a == b) = _
  by_cases h : a = b
  · simp [h]
  · simp [h]
@[simp] theorem eqV_s0 {a : List UInt8} : eqV .s (str a) (.string ⟨#[]⟩) = some (decide (a = [])) := eqV_s (b := [])
@[simp] theorem old0_s {n0 : Nat} {l : List UInt8} : old0 n0 (str l) = true := rfl
@[simp] theorem old1_s {n0 : Nat} {l : List UInt8} : old1 n0 (str l) = true := rfl
@[simp] theorem finish_s {n0 : Nat} {H' : Heap} {l : List UInt8} : finish n0 H' [str l] = (str l, H'.take n0) := finish_1 rfl
@[simp] theorem cellsOf_s {l : List UInt8} : cellsOf (str l) = [str l] := rfl
@[simp] theorem eqV_in : eqV .i .nilIface .nilIface = some true := rfl
@[simp] theorem eqV_is {t : TypeId} {v : Value} : eqV .i (.iface t v) .nilIface = some false := rfl
/-- A source whose bytes and state are known. -/
def SrD (G : Heap) (P : Nat) (bs : List Int) (s : Int × Int) : Prop := ∃ x, G[P]? = some (srB x s.1 s.2) ∧ SlR (G.take P) x 1 bs.length (cs .u8 bs)
theorem SrD.lt {G : Heap} {P : Nat} {bs : List Int} {s : Int × Int} (h : SrD G P bs s) : P < G.length := by
  obtain ⟨x, h1, _⟩ := h
  exact (List.getElem?_eq_some_iff.1 h1).1
theorem SrD.mv {P : Nat} {G G' : Heap} {bs : List Int} {s : Int × Int} (h : SrD G P bs s) (hP : G'[P]? = G[P]?) (hj : ∀ j, j < P → G'[j]? = G[j]?) : SrD G' P bs s := by
  obtain ⟨x, h1, h2⟩ := h
  refine ⟨x, by rw [hP]; exact h1, ?_⟩
  have : G'.take P = G.take P := by
    apply List.ext_getElem?
    intro j
    rw [List.getElem?_take, List.getElem?_take]
    split
    · exact hj j ‹_›
    · rfl
  rw [this]; exact h2
structure LoD (G G' : Heap) (P : Nat) (bs : List Int) (s : Int × Int) (f : List Int) : Prop where
  src : SrD G' P bs s
  fr : G'[G.length]? = some ⟨cs .u16 f, 1, 0, false⟩
  len : G'.length = G.length + 1
  get : ∀ j, j < G.length → j ≠ P → G'[j]? = G[j]?
  lt : P < G.length
theorem LoD.mv {G G' G'' : Heap} {P : Nat} {bs : List Int} {s s' : Int × Int} {f : List Int} (h : LoD G G' P bs s f) (m : Mv P G' G'') (d : SrD G'' P bs s') : LoD G G'' P bs s' f := by
  have := h.lt
  exact ⟨d, by rw [m.get _ (by omega)]; exact h.fr, by rw [m.len]; exact h.len, fun j hj hp => by rw [m.get j hp]; exact h.get j hj hp, h.lt⟩
theorem LoD.set {G G' : Heap} {P : Nat} {bs : List Int} {s : Int × Int} {f g : List Int} (h : LoD G G' P bs s f) : LoD G (G'.set G.length ⟨cs .u16 g, 1, 0, false⟩) P bs s g := by
  have := h.lt
  exact ⟨h.src.mv (List.getElem?_set_ne (by omega)) fun j hj => List.getElem?_set_ne (by omega), get_set h.fr, by simp [h.len], fun j hj hp => by rw [List.getElem?_set_ne (by omega)]; exact h.get j hj hp, h.lt⟩
structure K24 (H G : Heap) (x : Value) (b : List (List Int)) (f : List Int) (m : Nat) : Prop where
  P : Pre H G
  bk : Bk G x b
  V : ∀ f ∈ b, VF f
  nb : b.length ≤ 4
  hf : VF f
  hm : m ≤ 4
theorem K24.pre {H G G' : Heap} {x : Value} {b : List (List Int)} {f : List Int} {m : Nat} (h : K24 H G x b f m) (p : Pre G G') : K24 H G' x b f m := ⟨h.P.trans p, SlR.pre p h.bk, h.V, h.nb, h.hf, h.hm⟩
theorem okSts_of {l : List Sted} (hn : l.length ≤ 40) (h : ∀ i, i < l.length → okSt (at0 l i) i = true) : okSts l = true := by
  rw [okSts, allN_true h]; simpa using hn
def encB (b : List (List Int)) (lim : Int) : List Sted := (encP b lim b.length).1
theorem okSt_W {s : Sted} {i : Nat} (h : okSt s i = true) (hi : i ≤ 100) : StW s := by
  have hr := okSt_rows h
  have hk : kindB s i = true := by simp only [okSt, Bool.and_eq_true] at h; exact h.2
  have ha := okSt_a h
  have hb : (0 ≤ s.b ∧ s.b ≤ 100) ∧ (-12 ≤ s.c ∧ s.c ≤ 12) ∧ -12 ≤ s.d ∧ s.d ≤ 12 := by
    have : s.a = 0 ∨ s.a = 1 ∨ s.a = 2 := by omega
    rcases this with e | e | e
    · simp [kindB, e, stillB] at hk
      omega
    · simp [kindB, e, stillB, in1] at hk
      omega
    · simp [kindB, e, stillB, in1] at hk
      omega
  refine ⟨by omega, by omega, by omega, by omega, fun m hm => ?_⟩
  obtain ⟨j, hj, rfl⟩ := List.getElem_of_mem hm
  have e : rw' s j = s.rows[j] := by rw [rw', at0, List.getD_eq_getElem?_getD, List.getElem?_eq_getElem hj]; rfl
  obtain ⟨y, h1, h2, h3, _⟩ := rowB_get (allN_get (p := rowB s) hr hj)
  rw [e] at h1 h3
  exact ⟨by omega, h3⟩
theorem okSts_W {l : List Sted} (h : okSts l = true) (hr : ∀ s ∈ l, s.rows.length ≤ 1000000) : StsW l := by
  have hn := okSts_len h
  refine ⟨fun s hs => ?_, by omega, hr⟩
  obtain ⟨i, hi, rfl⟩ := mem_at0 hs
  exact okSt_W (okSts_get h hi) (by omega)
/-- In the function that draws steps: the source, the steps drawn, and the step that is being drawn. -/
structure Dr (n0 P : Nat) (G0 G : Heap) (k κ b ver : Nat) (l : List Sted) (rs : List (Int × Int)) (y : Value) : Prop where
  src : Src G P k
  get : ∀ j, j < n0 → j ≠ P → G[j]? = G0[j]?
  lt : P < n0
  k0 : n0 ≤ κ
  k1 : κ ≤ G.length
  ls : StD n0 (G.take κ) b ver l
  rw : GrN (G.take κ) G y 2 rs.length (chsC rs)
theorem Dr.mv {n0 P : Nat} {G0 G G' : Heap} {k k' κ b ver : Nat} {l : List Sted} {rs : List (Int × Int)} {y : Value} (h : Dr n0 P G0 G k κ b ver l rs y) (m : Mv P G G') (s : Src G' P k') : Dr n0 P G0 G' k' κ b ver l rs y := by
  have h0 := h.k0
  have h1 := h.k1
  have hP := h.lt
  refine ⟨s, fun j hj hp => by rw [m.get j hp]; exact h.get j hj hp, hP, h0, by rw [m.len]; exact h1, ?_, ?_⟩
  · refine h.ls.keep fun b' kb hk he => ?_
    rw [List.getElem?_take] at hk ⊢
    split at hk
    · rename_i hlt
      rw [if_pos hlt, m.get]
      · exact hk
      · rintro rfl
        obtain ⟨x, bs, i, sd, e, _⟩ := h.src
        rw [e] at hk
        cases hk
        exact he rfl
    · cases hk
  · rcases h.rw with ⟨q, ver', e, g, hq, hl, _⟩ | ⟨e, e1, e2, _⟩
    · have e3 : (G.take κ).length = κ := by simp; omega
      refine .inl ⟨q, ver', e, ?_, ?_, hl, Pre.takes⟩
      · rw [m.get]
        · exact g
        · omega
      · simp; omega
    · exact .inr ⟨e, e1, e2, Pre.takes⟩
def RwI (rs : List (Int × Int)) (i : Nat) : Prop := (∀ m ∈ rs, 0 ≤ m.1 ∧ m.1 < i ∧ 1 ≤ m.2 ∧ m.2 ≤ 63) ∧ (rs.Pairwise fun a b => a.1 < b.1) ∧ rs.length ≤ i
theorem RwI.push {rs : List (Int × Int)} {i : Nat} {v : Int} (h : RwI rs i) (hv : 1 ≤ v ∧ v ≤ 63) : RwI (rs ++ [((i : Int), v)]) (i + 1) := by
  obtain ⟨h1, h2, h3⟩ := h
  refine ⟨fun m hm => ?_, ?_, by simp; omega⟩
  · rcases List.mem_append.1 hm with hm | hm
    · have := h1 m hm; omega
    · rw [List.mem_singleton] at hm
      subst hm
      simp only []
      omega
  · rw [List.pairwise_append]
    refine ⟨h2, List.pairwise_singleton _ _, fun a ha b hb => ?_⟩
    rw [List.mem_singleton] at hb
    subst hb
    have := h1 a ha
    simp only []
    omega
structure DrL (l : List Sted) : Prop where
  ok : okSts l = true
  r : ∀ s ∈ l, s.rows.length ≤ 4
theorem DrL.push {l : List Sted} {s : Sted} (h : DrL l) (hn : l.length ≤ 10) (hs : okSt s l.length = true) (hr : s.rows.length ≤ 4) : DrL (l ++ [s]) := by
  refine ⟨okSts_of (by simp; omega) fun i hi => ?_, fun t ht => ?_⟩
  · have hi : i < l.length + 1 := by simpa using hi
    rw [at0_app]
    by_cases h1 : i < l.length
    · rw [if_pos h1]; exact okSts_get h.ok h1
    · have : i = l.length := by omega
      subst this
      rw [if_neg h1, if_pos rfl]; exact hs
  · rcases List.mem_append.1 ht with h1 | h1
    · exact h.r t h1
    · rw [List.mem_singleton] at h1; subst h1; exact hr
theorem DrL.W {l : List Sted} (h : DrL l) : StsW l := okSts_W h.ok fun s hs => by have := h.r s hs; omega
theorem Dr.fin {n0 P : Nat} {G0 G : Heap} {k κ b ver : Nat} {l : List Sted} {rs : List (Int × Int)} {y : Value} (D : Dr n0 P G0 G k κ b ver l rs y) :
    ∃ b' ver' G'', finish n0 G [slc b 0 ver l.length l.length] = (slc b' 0 ver' l.length l.length, G'') ∧ StD n0 G'' b' ver' l ∧ Src G'' P k ∧ n0 ≤ G''.length ∧ ∀ j, j < n0 → j ≠ P → G''[j]? = G0[j]? := by
  have h0 := D.k0
  have h1 := D.k1
  have hP := D.lt
  have e3 : (G.take n0).length = n0 := by simp; omega
  have hs := D.ls.pre Pre.takes
  obtain ⟨b', ver', G'', f, sd, p⟩ := StD.fin (H := G.take n0) (G := G) (b := b) (ver := ver) (l := l) (rest := []) (by rw [e3]; exact hs) Pre.takes rfl
  rw [e3] at f sd
  have eg : ∀ j, j < n0 → G''[j]? = G[j]? := fun j hj => by
    rw [p.get (by omega), List.getElem?_take, if_pos hj]
  exact ⟨b', ver', G'', f, sd, D.src.mv (eg P hP) fun j hj => eg j (by omega), by have := p.len; omega, fun j hj hp => by rw [eg j hj]; exact D.get j hj hp⟩
structure L56 (G : Heap) (x8 x15 x28 x33 : Value) (D : List (List Int)) (v : Int) : Prop where
  bk : Bk G x8 D
  vs15 : StS G x15 (encB D 40)
  vs28 : StS G x28 (encB D v)
  vs33 : SlR G x33 1 D.length (cs .i64 (encP D v D.length).2)
theorem L56.pre {G G' : Heap} {x8 x15 x28 x33 : Value} {D : List (List Int)} {v : Int} (p : Pre G G') (h : L56 G x8 x15 x28 x33 D v) : L56 G' x8 x15 x28 x33 D v :=
  ⟨SlR.pre p h.bk, h.vs15.pre p, h.vs28.pre p, h.vs33.pre p⟩
theorem call345 {pu : Bool} {H : Heap} {x y : Nat} (hx : x < 12) (hy : y < 12) : Call tab pu 345 [.int .i64 x, .int .i64 y] H = some (.bool true, H) := by
  refine Call_wp t345 (.inr rfl) rfl ?_
  simp [c345, k345, call295, show (x : Int) ≤ 11 by omega, show (y : Int) ≤ 11 by omega]
/-- The words of the kinds of steps, in a package-level variable (block 0). -/
def wrdL : List (List UInt8) := [[119, 104, 111, 108, 101], [99, 111, 112, 121], [109, 111, 118, 101]]
def Wd (H : Heap) : Prop := H[0]? = some ⟨wrdL.map str, 1, 0, true⟩
theorem Wd.lt {H : Heap} (h : Wd H) : 0 < H.length := (List.getElem?_eq_some_iff.1 h).1
theorem Wd.pre {H G : Heap} (h : Wd H) (p : Pre H G) : Wd G := by unfold Wd; rw [p.get h.lt]; exact h
def wrd (a : Nat) : List UInt8 := wrdL.getD a []
theorem Wd.rd {H : Heap} (h : Wd H) {a : Nat} (ha : a < 3) : rd H 0 a 0 1 = some [str (wrd a)] := by
  rw [rd_at h rfl (by simp [wrdL]; omega)]
  match a, ha with
  | 0, _ => rfl
  | 1, _ => rfl
  | 2, _ => rfl
theorem eqCells_pre {k : IntKind} {ms : List (Option IntKind)} {zs ws : List Value} : ∀ {n : Nat} {f : List Int}, f.length = n → eqCells (rb n (some k) ++ ms) (cs k f ++ zs) (cs k f ++ ws) = eqCells ms zs ws
  | 0, [], _ => rfl
  | n + 1, a :: f, h => by
    have ih := eqCells_pre (k := k) (ms := ms) (zs := zs) (ws := ws) (n := n) (f := f) (by simpa using h)
    show eqCells (some k :: (rb n (some k) ++ ms)) (.int k a :: (cs k f ++ zs)) (.int k a :: (cs k f ++ ws)) = _
    rw [eqCells, if_pos ⟨rfl, rfl⟩, if_pos rfl, ih]
theorem eqLy {s : Ly} (h : s.f.length = 24) : eqV (.a (rb 24 (some .u16) ++ rb 3 (some .i8))) (agg (lyC s)) (agg (lyC s)) = some true := by
  show (if (lyC s).toArray.size = (rb 24 (some IntKind.u16) ++ rb 3 (some .i8)).length ∧ (lyC s).toArray.size = (rb 24 (some IntKind.u16) ++ rb 3 (some .i8)).length then eqCells (rb 24 (some .u16) ++ rb 3 (some .i8)) (lyC s).toArray.toList (lyC s).toArray.toList else none) = _
  have hl : (lyC s).length = 27 := by simp [lyC, lyT, h]
  rw [if_pos ⟨by simp [hl, rb], by simp [hl, rb]⟩]
  show eqCells (rb 24 (some .u16) ++ rb 3 (some .i8)) (cs .u16 s.f ++ [.int .i8 s.x, .int .i8 s.y, .int .i8 s.d]) (cs .u16 s.f ++ [.int .i8 s.x, .int .i8 s.y, .int .i8 s.d]) = _
  rw [eqCells_pre h]
  simp [eqCells, rb]
theorem call280 {pu : Bool} {H : Heap} {x y : Value} {l : List Ly} (hx : Sc H x l) (hy : Sc H y l) (hw : ScW l) (hn : l.length ≤ 1000000) : Call tab pu 280 [x, y] H = some (.bool true, H) := by
  refine Call_wp t280 (.inr rfl) rfl ?_
  simp [c280, k280, SlR.lenV hx, SlR.lenV hy]
  refine WP_forH 5 l.length _ rfl (by omega) (fun i e => e 0 = x ∧ e 1 = y) ?_ ?_ (by simp) (by simp)
  · rintro i e hi hii e4 h5 ⟨h0, h1⟩
    obtain ⟨q, o, v, ha, hr, _⟩ := Sc.get hx hw hi
    obtain ⟨q2, o2, v2, ha2, hr2, _⟩ := Sc.get hy hw hi
    have he := eqLy (hw _ (at0_mem hi)).len
    simp [b280_1, h5, h0, h1, SlR.lenV hx, hii, ha, hr, ha2, hr2, he, e4]
  · rintro e h5 ⟨h0, h1⟩
    simp [b280_1, h5, h0, SlR.lenV hx]
theorem call470 {pu : Bool} {H : Heap} {x y : Value} {l : List Ly} (hx : Sc H x l) (hy : Sc H y l) (hw : ScW l) (hn : l.length ≤ 1000000) : Call tab pu 470 [x, y] H = some (.bool true, H) := by
  refine Call_wp t470 (.inr rfl) rfl ?_
  simp [c470, k470, SlR.lenV hx, SlR.lenV hy]
  refine WP_forH 13 l.length _ rfl (by omega) (fun i e => e 0 = x ∧ e 1 = y ∧ e 12 = .int .i64 l.length) ?_ ?_ (by simp) (by simp)
  · rintro i e hi hii e4 h5 ⟨h0, h1, h12⟩
    obtain ⟨q, o, v, ha, hr, _⟩ := Sc.get hx hw hi
    obtain ⟨q2, o2, v2, ha2, hr2, _⟩ := Sc.get hy hw hi
    have he := eqLy (hw _ (at0_mem hi)).len
    simp [b470_1, h5, h0, h1, h12, hii, ha, hr, ha2, hr2, he, e4]
  · rintro e h5 ⟨h0, h1, h12⟩
    simp [b470_1, h5, h0, h12]
theorem call279 {pu : Bool} {H : Heap} {x y : Value} {l : List Ly} (hx : Sc H x l) (hy : Sc H y l) (hw : ScW l) (hn : l.length ≤ 1000000) : Call tab pu 279 [x, y] H = some (.bool true, H) := by
  refine Call_wp t279 (.inr rfl) rfl ?_
  simp [c279, k279, call470 hx hy hw hn]
theorem call276 {pu : Bool} {l : List Ly} {x y : Int} (hw : ScW l) (hn : l.length ≤ 9223372036854775807) {H : Heap} {z : Value} (hs : Sc H z l) (hc : cmC l x y = 0) :
    Call tab pu 276 [z, .int .i64 x, .int .i64 y] H = some (tup [iv .u16 (flI l x y l.length ++ cvr l x y l.length), .int .i64 0], H) := by
  have h1 := any331 (pu := true) (x := x) (y := y) hs hw hn
  refine Call_wp t276 (.inr rfl) rfl ?_
  obtain ⟨hok, hx, hy⟩ := cmC_ok hc
  have c1 := call332 (pu := true) hs hw hok hx hy
  have l1 : (flI l x y l.length ++ cvr l x y l.length).length = 24 := by simp [flI_len, cvr_len]
  have s2 := stc_zr (k := .u16) (n := 24) (l := flI l x y l.length ++ cvr l x y l.length) l1
  simp [c276, k276, h1, hc, c1, zs_cs, agg_cs, flI_len, cvr_len, s2]
theorem call101g {pu : Bool} {l : List Ly} {x y : Int} {i : Nat} (hw : ScW l) {H : Heap} {z : Value} (hs : Sc H z l) (hc : cmC l x y = 0) (h0 : i < l.length) :
    Call tab pu 101 [z, .int .i64 (i : Int), .int .i64 x, .int .i64 y] H = some (tup [.int .i64 (offX (at0 l i) x), .int .i64 (offY (at0 l i) y), .int .i64 0], H) := by
  have h1 := any329 (pu := true) (x := x) (y := y) hs hw
  refine Call_wp t101 (.inr rfl) rfl ?_
  obtain ⟨hok, hx, hy⟩ := cmC_ok hc
  have c1 := call334 (pu := true) (i := (i : Int)) hs (by have := okSc_len hok; omega)
  have hi : in1 (i : Int) 0 ((l.length : Int) - 1) = true := by simp [in1]; omega
  rw [hi] at c1
  obtain ⟨q, off, ver, ha, hr, _⟩ := Sc.get hs hw h0
  have c2 := call335 (pu := true) (H := H) (hw _ (at0_mem h0)) (okSc_get hok h0) hx hy
  simp [c101, k101, h1, hc, c1, ha, hr, c2]
def cntL (l : List Ly) (x y : Int) (k : Nat) : List Int := (List.range k).map fun i => cntF (snF l x y i)
theorem cntL_succ {l : List Ly} {x y : Int} {k : Nat} : cntL l x y (k + 1) = cntL l x y k ++ [cntF (snF l x y k)] := by
  unfold cntL; rw [List.range_succ, List.map_append]; rfl
theorem cntL_len {l : List Ly} {x y : Int} {k : Nat} : (cntL l x y k).length = k := by simp [cntL]
def hidL (l : List Ly) (x y : Int) : Nat → List Int
  | 0 => []
  | k + 1 => if cntF (snF l x y k) = 0 then hidL l x y k ++ [(k : Int)] else hidL l x y k
theorem hidL_len {l : List Ly} {x y : Int} : ∀ {k : Nat}, (hidL l x y k).length ≤ k
  | 0 => Nat.le_refl _
  | k + 1 => by
    have := hidL_len (l := l) (x := x) (y := y) (k := k)
    rw [hidL]; split
    · simp; omega
    · omega
theorem sn_bk {G : Heap} {b : Nat} {l : List Ly} {x y : Int} (hS : G[b]? = some ⟨bkC (snL l x y l.length), 12, 0, false⟩) : Bk G (slc b 0 0 l.length l.length) (snL l x y l.length) := by
  unfold Bk
  rw [snL_len]
  exact ⟨by rw [bkC_length snL_W, snL_len], .inr ⟨_, 0, 0, _, rfl, Nat.le_refl _, by rw [rd_at hS rfl (by simp only [bkC_length snL_W, snL_len]; omega)]; simp only [List.drop_zero]; rw [List.take_of_length_le (by rw [bkC_length snL_W, snL_len]; omega)], _, hS, rfl, rfl⟩⟩
theorem call277 {pu : Bool} {l : List Ly} {x y : Int} (hw : ScW l) (hn : l.length ≤ 1000000) {H : Heap} {z : Value} (hs : Sc H z l) (hc : cmC l x y = 0) :
    ∃ r G', Call tab pu 277 [z, .int .i64 x, .int .i64 y] H = some (tup [r, .int .i64 0], G') ∧ Pre H G' ∧ SlR G' r 1 l.length (cs .i64 (cntL l x y l.length)) := by
  have h1 := call329 (pu := true) (x := x) (y := y) hs hw hn
  obtain ⟨hok, hx, hy⟩ := cmC_ok hc
  have h8 := okSc_len hok
  obtain ⟨G1, hG1⟩ : ∃ G1, G1 = H ++ [(⟨[], 1, 0, false⟩ : Blk)] := ⟨_, rfl⟩
  have p1 : Pre H G1 := by rw [hG1]; exact Pre.one
  have l1 : G1.length = H.length + 1 := by rw [hG1]; simp
  have h412 := call412 (pu := true) (SlR.pre p1 hs) hw hok hx hy
  rw [l1] at h412
  obtain ⟨G2, hG2⟩ : ∃ G2, G2 = G1 ++ [(⟨bkC (snL l x y l.length), 12, 0, false⟩ : Blk)] := ⟨_, rfl⟩
  rw [← hG2] at h412
  have p2 : Pre G1 G2 := by rw [hG2]; exact Pre.one
  have gS : G2[H.length + 1]? = some ⟨bkC (snL l x y l.length), 12, 0, false⟩ := by rw [hG2, ← l1]; exact get_last
  have gR : GrB H G2 H.length (slc H.length 0 0 0 0) 1 0 [] := GrB.mk' (by rw [p2.get (by omega), hG1]; exact get_last) (Nat.le_refl _) (p1.trans p2)
  refine ⟨slc H.length 0 0 l.length l.length, H ++ [⟨cs .i64 (cntL l x y l.length), 1, 0, false⟩], Call_wp t277 (.inr rfl) rfl ?_, Pre.one, (own_new (by simp [cntL_len])).sl⟩
  simp [c277, k277, h1, hc, fill, rep, ← hG1, h412]
  refine WP_count 25 l.length _ rfl (fun i e G => e 23 = slc (H.length + 1) 0 0 l.length l.length ∧ e 24 = .int .i64 l.length ∧ G[H.length + 1]? = some ⟨bkC (snL l x y l.length), 12, 0, false⟩ ∧ ∃ g, e 9 = g ∧ GrB H G H.length g 1 i (cs .i64 (cntL l x y i))) (by omega) ?_ ?_ (by simp)
    ⟨by simp, by simp, gS, _, by simp, gR⟩
  · rintro i e G _ hi hii e4 h25 ⟨h23, h24, hS, g, h9, hg⟩
    obtain ⟨q2, off2, ver2, ha2, hr2⟩ := Bk.get (sn_bk hS) snL_W (i := i) (by rw [snL_len]; exact hi)
    rw [snL_fr hi] at hr2
    have c1 := call393 (pu := true) (H := G) (snF_W (l := l) (x := x) (y := y) (i := i)) snF_ok
    have hst := stc_zr (k := .u16) (n := 12) (l := snF l x y i) (snF_W).len
    have hlS := (List.getElem?_eq_some_iff.1 hS).1
    have hf := fill_one (z := [.int .i64 0]) (v := .int .i64 (cntF (snF l x y i))) (esz := 1) rfl rfl
    obtain ⟨g', G', hpush, hg', hk⟩ := hg.push (c := [.int .i64 (cntF (snF l x y i))]) (bytes := 8) rfl (by have : roomMax = 140737488355328 := rfl; omega) (wb := false)
    rw [cs_push, ← cntL_succ] at hg'
    simp [b277_1, h25, h23, h24, h9, hii, ha2, hr2, zs_cs, agg_cs, snF_W.len, hst, c1, hf, hpush, wbOf, e4, -idxAV_slc]
    exact ⟨by rw [hk _ (by omega) hlS]; exact hS, hg'⟩
  · rintro e G _ h25 ⟨h23, h24, hS, g, h9, hg⟩
    have hfin := hg.gr.fin2 (c := 0) flat_cs
    simp [b277_1, h25, h24, h9, hfin]
theorem call278 {pu : Bool} {l : List Ly} {x y : Int} (hw : ScW l) (hn : l.length ≤ 1000000) {H : Heap} {z : Value} (hs : Sc H z l) (hc : cmC l x y = 0) :
    ∃ r G', Call tab pu 278 [z, .int .i64 x, .int .i64 y] H = some (tup [r, .int .i64 0], G') ∧ Pre H G' ∧ SlR G' r 1 (hidL l x y l.length).length (cs .i64 (hidL l x y l.length)) := by
  have h1 := call329 (pu := true) (x := x) (y := y) hs hw hn
  obtain ⟨hok, hx, hy⟩ := cmC_ok hc
  have h8 := okSc_len hok
  obtain ⟨G1, hG1⟩ : ∃ G1, G1 = H ++ [(⟨[], 1, 0, false⟩ : Blk)] := ⟨_, rfl⟩
  have p1 : Pre H G1 := by rw [hG1]; exact Pre.one
  have l1 : G1.length = H.length + 1 := by rw [hG1]; simp
  have h412 := call412 (pu := true) (SlR.pre p1 hs) hw hok hx hy
  rw [l1] at h412
  obtain ⟨G2, hG2⟩ : ∃ G2, G2 = G1 ++ [(⟨bkC (snL l x y l.length), 12, 0, false⟩ : Blk)] := ⟨_, rfl⟩
  rw [← hG2] at h412
  have p2 : Pre G1 G2 := by rw [hG2]; exact Pre.one
  have gS : G2[H.length + 1]? = some ⟨bkC (snL l x y l.length), 12, 0, false⟩ := by rw [hG2, ← l1]; exact get_last
  have gR : GrB H G2 H.length (slc H.length 0 0 0 0) 1 0 [] := GrB.mk' (by rw [p2.get (by omega), hG1]; exact get_last) (Nat.le_refl _) (p1.trans p2)
  refine ⟨slc H.length 0 0 (hidL l x y l.length).length (hidL l x y l.length).length, H ++ [⟨cs .i64 (hidL l x y l.length), 1, 0, false⟩], Call_wp t278 (.inr rfl) rfl ?_, Pre.one, (own_new (by simp)).sl⟩
  simp [c278, k278, h1, hc, fill, rep, ← hG1, h412]
  refine WP_count 25 l.length _ rfl (fun i e G => e 23 = slc (H.length + 1) 0 0 l.length l.length ∧ e 24 = .int .i64 l.length ∧ G[H.length + 1]? = some ⟨bkC (snL l x y l.length), 12, 0, false⟩ ∧ ∃ g, e 9 = g ∧ GrB H G H.length g 1 (hidL l x y i).length (cs .i64 (hidL l x y i))) (by omega) ?_ ?_ (by simp)
    ⟨by simp, by simp, gS, _, by simp, gR⟩
  · rintro i e G _ hi hii e4 h25 ⟨h23, h24, hS, g, h9, hg⟩
    obtain ⟨q2, off2, ver2, ha2, hr2⟩ := Bk.get (sn_bk hS) snL_W (i := i) (by rw [snL_len]; exact hi)
    rw [snL_fr hi] at hr2
    have c1 := call393 (pu := true) (H := G) (snF_W (l := l) (x := x) (y := y) (i := i)) snF_ok
    have hst := stc_zr (k := .u16) (n := 12) (l := snF l x y i) (snF_W).len
    have hlS := (List.getElem?_eq_some_iff.1 hS).1
    have hle := hidL_len (l := l) (x := x) (y := y) (k := i)
    by_cases hcn : cntF (snF l x y i) = 0
    · have hsu : hidL l x y (i + 1) = hidL l x y i ++ [(i : Int)] := by rw [hidL, if_pos hcn]
      have hf := fill_one (z := [.int .i64 0]) (v := .int .i64 (i : Int)) (esz := 1) rfl rfl
      obtain ⟨g', G', hpush, hg', hk⟩ := hg.push (c := [.int .i64 (i : Int)]) (bytes := 8) rfl (by have : roomMax = 140737488355328 := rfl; omega) (wb := false)
      rw [cs_push, ← hsu, show (hidL l x y i).length + 1 = (hidL l x y (i + 1)).length by rw [hsu]; simp] at hg'
      simp [b278_1, h25, h23, h24, h9, hii, ha2, hr2, zs_cs, agg_cs, snF_W.len, hst, c1, hcn, hf, hpush, wbOf, e4, -idxAV_slc]
      exact ⟨by rw [hk _ (by omega) hlS]; exact hS, hg'⟩
    · have hsu : hidL l x y (i + 1) = hidL l x y i := by rw [hidL, if_neg hcn]
      have hcn : (cntF (snF l x y i) == 0) = false := beq_false_of_ne hcn
      simp [b278_1, h25, h23, h24, h9, hii, ha2, hr2, zs_cs, agg_cs, snF_W.len, hst, c1, hcn, e4, -idxAV_slc]
      exact ⟨hS, by rw [hsu]; exact hg⟩
  · rintro e G _ h25 ⟨h23, h24, hS, g, h9, hg⟩
    have hfin := hg.gr.fin2 (c := 0) flat_cs
    simp [b278_1, h25, h24, h9, hfin]
/-- The topmost layer seen at a dot. -/
def layN (l : List Ly) (x y : Int) (u v : Nat) : Int := findN (fun i => hasF (snF l x y i) u v) l.length
def layR (l : List Ly) (x y : Int) (u v : Nat) : Value := if 0 ≤ layN l x y u v then tup [.int .i64 (layN l x y u v), .int .i64 0] else tup [.int .i64 0, .int .i64 6]
theorem call475 {pu : Bool} {H : Heap} {f : List Int} {u v b c : Nat} (hf : FrW f) (hu : u < 12) (hv : v < 12) (h1 : rd H b 0 0 1 = some [.int .i64 (u : Int)]) (h2 : rd H c 0 0 1 = some [.int .i64 (v : Int)]) :
    Call tab pu 475 [iv .u16 f, adr b 0 0, adr c 0 0] H = some (.bool (hasF f u v), H) := by
  refine Call_wp t475 (.inr rfl) rfl ?_
  have c1 := call395 (pu := true) (H := H) hf hu hv
  have hst := stc_zr (k := .u16) (n := 12) (l := f) hf.len
  simp [c475, k475, zs_cs, agg_cs, hf.len, hst, h1, h2, c1]
theorem call282 {pu : Bool} {l : List Ly} {x y : Int} {u v : Nat} (hw : ScW l) (hn : l.length ≤ 1000000) {H : Heap} {z : Value} (hs : Sc H z l) (hc : cmC l x y = 0) (hu : u < 12) (hv : v < 12) :
    Call tab pu 282 [z, .int .i64 x, .int .i64 y, .int .i64 u, .int .i64 v] H = some (layR l x y u v, H) := by
  obtain ⟨hok, hx, hy⟩ := cmC_ok hc
  have h8 := okSc_len hok
  refine Call_wp t282 (.inr rfl) rfl ?_
  obtain ⟨G1, hG1⟩ : ∃ G1, G1 = H ++ [(⟨[.int .i64 (u : Int)], 1, 0, false⟩ : Blk)] := ⟨_, rfl⟩
  obtain ⟨G2, hG2⟩ : ∃ G2, G2 = G1 ++ [(⟨[.int .i64 (v : Int)], 1, 0, false⟩ : Blk)] := ⟨_, rfl⟩
  have p1 : Pre H G1 := by rw [hG1]; exact Pre.one
  have p2 : Pre G1 G2 := by rw [hG2]; exact Pre.one
  have l1 : G1.length = H.length + 1 := by rw [hG1]; simp
  have r1 : rd G2 H.length 0 0 1 = some [.int .i64 (u : Int)] := p2.rd (by rw [hG1]; exact rd_last rfl rfl)
  have r2 : rd G2 (H.length + 1) 0 0 1 = some [.int .i64 (v : Int)] := by rw [hG2, ← l1]; exact rd_last rfl rfl
  have P := p1.trans p2
  have c1 := call329 (pu := true) (x := x) (y := y) (SlR.pre P hs) hw hn
  have c2 := call345 (pu := true) (H := G2) hu hv
  have c3 := call412 (pu := true) (SlR.pre P hs) hw hok hx hy
  obtain ⟨G3, hG3⟩ : ∃ G3, G3 = G2 ++ [(⟨bkC (snL l x y l.length), 12, 0, false⟩ : Blk)] := ⟨_, rfl⟩
  rw [← hG3] at c3
  have p3 : Pre G2 G3 := by rw [hG3]; exact Pre.one
  have hB := sn_bk (G := G3) (b := G2.length) (l := l) (x := x) (y := y) (by rw [hG3]; exact get_last)
  have c4 := ixF_call s474 (pu := true) (F := .func (.func 475) #[] #[adr H.length 0 0, adr (H.length + 1) 0 0]) (p := fun i => hasF (snF l x y i) u v) (n := l.length) (by have := hB; unfold Bk at this; rw [snL_len] at this; exact this) (by omega) fun i hi =>
    ⟨iv .u16 (snF l x y i), by rw [bkC_elem snL_W (by rw [snL_len]; exact hi), snL_fr hi]; rfl, by
      have c5 := call475 (pu := true) (H := G3) (f := snF l x y i) (b := H.length) (c := H.length + 1) snF_W hu hv (p3.rd r1) (p3.rd r2)
      show (if (#[] : Array Value).isEmpty then Call tab true 475 ([iv .u16 (snF l x y i)] ++ [adr H.length 0 0, adr (H.length + 1) 0 0]) G3 else none) = _
      exact c5⟩
  have hN : findN (fun i => hasF (snF l x y i) u v) l.length = layN l x y u v := rfl
  rw [hN] at c4
  obtain ⟨N, hNd⟩ : ∃ N, N = layN l x y u v := ⟨_, rfl⟩
  rw [← hNd] at c4
  unfold layR
  rw [← hNd]
  have hfin : ∀ a b : Int, finish H.length G3 [.int .i64 a, .int .i64 b] = (tup [.int .i64 a, .int .i64 b], H) := fun a b => by
    rw [finish_2 old1_int old1_int, (P.trans p3).take]
  by_cases hneg : 0 ≤ N
  · have hlt : ¬ N < 0 := by omega
    simp [c282, k282, ← hG1, ← hG2, l1, c1, hc, r1, r2, c2, c3, c4, hlt, hneg, hfin]
  · have hlt : N < 0 := by omega
    simp [c282, k282, ← hG1, ← hG2, l1, c1, hc, r1, r2, c2, c3, c4, hlt, hneg, hfin]
theorem call283 {pu : Bool} {l : List Ly} {x y : Int} {u v : Nat} (hw : ScW l) (hn : l.length ≤ 1000000) {H : Heap} {z : Value} (hs : Sc H z l) (hc : cmC l x y = 0) (hu : u < 12) (hv : v < 12) :
    Call tab pu 283 [z, .int .i64 x, .int .i64 y, .int .i64 u, .int .i64 v] H = some (layR l x y u v, H) := by
  obtain ⟨hok, hx, hy⟩ := cmC_ok hc
  have h8 := okSc_len hok
  refine Call_wp t283 (.inr rfl) rfl ?_
  have c1 := call331 (pu := true) (x := x) (y := y) hs hw hn
  have c2 := call342 (pu := true) (H := H) hu hv
  have c3 := call408 (pu := true) hs hw hok hx hy
  obtain ⟨G3, hG3⟩ : ∃ G3, G3 = H ++ [(⟨bkC (snL l x y l.length), 12, 0, false⟩ : Blk)] := ⟨_, rfl⟩
  rw [← hG3] at c3
  have p3 : Pre H G3 := by rw [hG3]; exact Pre.one
  have hB := sn_bk (G := G3) (b := H.length) (l := l) (x := x) (y := y) (by rw [hG3]; exact get_last)
  have hfin : ∀ a b : Int, finish H.length G3 [.int .i64 a, .int .i64 b] = (tup [.int .i64 a, .int .i64 b], H) := fun a b => by
    rw [finish_2 old1_int old1_int, p3.take]
  simp [c283, k283, c1, hc, c2, c3, skip]
  refine WP_forH 14 l.length _ rfl (by omega) (fun i e => e 3 = .int .i64 u ∧ e 4 = .int .i64 v ∧ e 13 = slc H.length 0 0 l.length l.length ∧ ∀ j, j < i → hasF (snF l x y j) u v = false) ?_ ?_ (by simp) ⟨by simp, by simp, by simp, fun j hj => by omega⟩
  · rintro i e hi hii e4 h14 ⟨h3, h4, h13, hp⟩
    obtain ⟨q, off, ver, ha, hr⟩ := Bk.get hB snL_W (i := i) (by rw [snL_len]; exact hi)
    rw [snL_fr hi] at hr
    have c5 := call456 (pu := true) (snF_W (l := l) (x := x) (y := y) (i := i)) hr hu hv
    cases hh : hasF (snF l x y i) u v with
    | true =>
      have hN : layN l x y u v = (i : Int) := findN_some hi hp hh
      rw [hh] at c5
      simp [b283_1, h14, h3, h4, h13, hii, ha, c5, hfin, layR, hN, -idxAV_slc]
    | false =>
      rw [hh] at c5
      simp [b283_1, h14, h3, h4, h13, hii, ha, c5, e4, -idxAV_slc]
      exact upto_succ hp hh
  · rintro e h14 ⟨h3, h4, h13, hp⟩
    have hN : layN l x y u v = -1 := findN_none hp
    simp [b283_1, h14, h13, hfin, layR, hN]
theorem findN_cases {p : Nat → Bool} {n : Nat} : (findN p n = -1 ∧ ∀ j, j < n → p j = false) ∨ ∃ i, i < n ∧ findN p n = (i : Int) ∧ p i = true ∧ ∀ j, j < i → p j = false := by
  have key : ∀ m, m ≤ n → (∀ j, j < m → p j = false) ∨ ∃ i, i < n ∧ p i = true ∧ ∀ j, j < i → p j = false := by
    intro m
    induction m with
    | zero => exact fun _ => .inl fun j hj => by omega
    | succ m ih =>
      intro hm
      rcases ih (by omega) with h | h
      · cases hp : p m with
        | true => exact .inr ⟨m, by omega, hp, h⟩
        | false => exact .inl (upto_succ h hp)
      · exact .inr h
  rcases key n (Nat.le_refl _) with h | ⟨i, hi, hp, hj⟩
  · exact .inl ⟨findN_none h, h⟩
  · exact .inr ⟨i, hi, findN_some hi hj hp, hp, hj⟩
theorem cvr_has {l : List Ly} {x y : Int} {u v : Nat} (hu : u < 12) (hv : v < 12) {k : Nat} : hasF (cvr l x y k) u v = true ↔ ∃ i, i < k ∧ hasF (lyM (at0 l i) x y) u v = true := by
  induction k with
  | zero => rw [cvr_zero, hasF_zero hu hv]; simp
  | succ k ih =>
    rw [cvr_succ, mix_or cvr_V lyM_V hu hv, Bool.or_eq_true, ih]
    constructor
    · rintro (⟨i, hi, h⟩ | h)
      · exact ⟨i, by omega, h⟩
      · exact ⟨k, by omega, h⟩
    · rintro ⟨i, hi, h⟩
      by_cases e : i = k
      · subst e; exact .inr h
      · exact .inl ⟨i, by omega, h⟩
theorem sn_has {l : List Ly} {x y : Int} {u v : Nat} (hu : u < 12) (hv : v < 12) {i : Nat} : hasF (snF l x y i) u v = (hasF (lyM (at0 l i) x y) u v && !hasF (cvr l x y i) u v) := mix_less lyM_V cvr_V hu hv
/-- At most one layer is seen at a dot. -/
theorem sn_one {l : List Ly} {x y : Int} {u v : Nat} (hu : u < 12) (hv : v < 12) {i j : Nat} (hi : hasF (snF l x y i) u v = true) (hj : hasF (snF l x y j) u v = true) : i = j := by
  have key : ∀ {a b : Nat}, a < b → hasF (snF l x y a) u v = true → hasF (snF l x y b) u v = true → False := by
    intro a b hab ha hb
    rw [sn_has hu hv] at ha hb
    simp only [Bool.and_eq_true, Bool.not_eq_true'] at ha hb
    have := (cvr_has (l := l) (x := x) (y := y) hu hv (k := b)).2 ⟨a, hab, ha.1⟩
    rw [this] at hb; cases hb.2
  rcases Nat.lt_trichotomy i j with h | h | h
  · exact (key h hi hj).elim
  · exact h
  · exact (key h hj hi).elim
theorem lay_cases {l : List Ly} {x y : Int} {u v : Nat} (hu : u < 12) (hv : v < 12) : (layN l x y u v = -1 ∧ hasF (cvr l x y l.length) u v = false ∧ ∀ j, j < l.length → hasF (snF l x y j) u v = false) ∨
    ∃ i, i < l.length ∧ layN l x y u v = (i : Int) ∧ hasF (snF l x y i) u v = true ∧ hasF (cvr l x y l.length) u v = true := by
  rcases findN_cases (p := fun i => hasF (snF l x y i) u v) (n := l.length) with ⟨h1, h2⟩ | ⟨i, h1, h2, h3, h4⟩
  · refine .inl ⟨h1, ?_, h2⟩
    have key : ∀ k, k ≤ l.length → hasF (cvr l x y k) u v = false := by
      intro k
      induction k with
      | zero => exact fun _ => by rw [cvr_zero, hasF_zero hu hv]
      | succ k ih =>
        intro hk
        have h5 := ih (by omega)
        have h6 := h2 k (by omega)
        rw [sn_has hu hv, h5] at h6
        rw [cvr_succ, mix_or cvr_V lyM_V hu hv, h5]
        simpa using h6
    exact key _ (Nat.le_refl _)
  · refine .inr ⟨i, h1, h2, h3, ?_⟩
    rw [sn_has hu hv, Bool.and_eq_true] at h3
    exact (cvr_has hu hv).2 ⟨i, h1, h3.1⟩
theorem sn_lay {l : List Ly} {x y : Int} {u v : Nat} (hu : u < 12) (hv : v < 12) {j : Nat} (hj : j < l.length) : hasF (snF l x y j) u v = decide (layN l x y u v = (j : Int)) := by
  rcases lay_cases (l := l) (x := x) (y := y) hu hv with ⟨h1, _, h2⟩ | ⟨i, h1, h2, h3, _⟩
  · rw [h2 j hj, h1]; symm; exact decide_eq_false (by omega)
  · rw [h2]
    by_cases e : i = j
    · subst e; rw [h3]; symm; exact decide_eq_true rfl
    · have : hasF (snF l x y j) u v = false := by
        cases h : hasF (snF l x y j) u v with
        | false => rfl
        | true => exact absurd (sn_one hu hv h3 h) e
      rw [this]; symm; exact decide_eq_false (by omega)
/-- What is shown at a dot is the topmost layer's. -/
theorem fl_top {l : List Ly} {x y : Int} (hw : ScW l) (hok : okSc l = true) {u v : Nat} (hu : u < 12) (hv : v < 12) {i : Nat} (hi : i < l.length) (h : hasF (snF l x y i) u v = true) :
    hasF (flI l x y l.length) u v = hasF (lyI (at0 l i) x y) u v := by
  rw [sn_has hu hv, Bool.and_eq_true, Bool.not_eq_true'] at h
  obtain ⟨hM, hC⟩ := h
  have hF : hasF (flI l x y i) u v = false := by
    cases hf : hasF (flI l x y i) u v with
    | false => rfl
    | true => have := flI_cvr hw hok (by omega) hu hv hf; rw [hC] at this; cases this
  have key : ∀ k, i + 1 ≤ k → k ≤ l.length → hasF (flI l x y k) u v = hasF (lyI (at0 l i) x y) u v := by
    intro k hk
    induction hk with
    | refl =>
      intro _
      rw [flI_succ, mix_or flI_V (less_V lyI_V cvr_V) hu hv, mix_less lyI_V cvr_V hu hv, hF, hC]; simp
    | @step k hk ih =>
      intro hl
      have hcv := (cvr_has (l := l) (x := x) (y := y) hu hv (k := k)).2 ⟨i, hk, hM⟩
      rw [flI_succ, mix_or flI_V (less_V lyI_V cvr_V) hu hv, mix_less lyI_V cvr_V hu hv, ih (by omega), hcv]; simp
  exact key _ hi (Nat.le_refl _)
theorem cnt_none {f : List Int} (h : cntF f = 0) {u v : Nat} (hu : u < 12) (hv : v < 12) : hasF f u v = false := by
  cases hf : hasF f u v with
  | false => rfl
  | true =>
    have hm : v * 12 + u ∈ dotL f 144 := List.mem_filter.2 ⟨List.mem_range.2 (by omega), by rw [hasK_yx hu]; exact hf⟩
    have := List.length_pos_of_mem hm
    unfold cntF at h; omega
/- A trimmed scene. -/
theorem cvr_pre {T : List Ly} {s : Ly} {x y : Int} {j : Nat} (h : j ≤ T.length) : cvr (T ++ [s]) x y j = cvr T x y j := by
  induction j with
  | zero => rw [cvr_zero, cvr_zero]
  | succ j ih => rw [cvr_succ, cvr_succ, ih (by omega), at0_pre (by omega)]
theorem flI_pre {T : List Ly} {s : Ly} {x y : Int} {j : Nat} (h : j ≤ T.length) : flI (T ++ [s]) x y j = flI T x y j := by
  induction j with
  | zero => rw [flI_zero, flI_zero]
  | succ j ih => rw [flI_succ, flI_succ, ih (by omega), at0_pre (by omega), cvr_pre (by omega)]
theorem trim_same {l : List Ly} {x y : Int} (hw : ScW l) (hok : okSc l = true) : ∀ {k : Nat}, k ≤ l.length →
    cvr (trL' l x y k) x y (trL' l x y k).length = cvr l x y k ∧ flI (trL' l x y k) x y (trL' l x y k).length = flI l x y k ∧ (hidL l x y k).length + (trL' l x y k).length = k ∧ ∀ s ∈ trL' l x y k, s ∈ l
  | 0, _ => by rw [trL'_zero]; exact ⟨by simp [cvr_zero], by simp [flI_zero], rfl, fun s hs => by cases hs⟩
  | k + 1, hk => by
    obtain ⟨h1, h2, h3, h4⟩ := trim_same (x := x) (y := y) hw hok (k := k) (by omega)
    rw [trL'_succ]
    have hc0 : 0 ≤ cntF (snF l x y k) := by unfold cntF; omega
    by_cases hc : 0 < cntF (snF l x y k)
    · rw [if_pos hc, hidL, if_neg (by omega)]
      refine ⟨?_, ?_, by rw [List.length_append, List.length_singleton]; omega, fun s hs => ?_⟩
      · rw [List.length_append, List.length_singleton, cvr_succ, cvr_pre (Nat.le_refl _), at0_snoc, h1, ← cvr_succ]
      · rw [List.length_append, List.length_singleton, flI_succ, flI_pre (Nat.le_refl _), cvr_pre (Nat.le_refl _), at0_snoc, h1, h2, ← flI_succ]
      · rcases List.mem_append.1 hs with h | h
        · exact h4 s h
        · rw [List.mem_singleton] at h; rw [h]; exact at0_mem (by omega)
    · have hz : cntF (snF l x y k) = 0 := by omega
      rw [if_neg hc, hidL, if_pos hz]
      have hsub : ∀ u v, u < 12 → v < 12 → hasF (lyM (at0 l k) x y) u v = true → hasF (cvr l x y k) u v = true := fun u v hu hv h => by
        have := cnt_none hz hu hv
        rw [sn_has hu hv, h] at this
        simpa using this
      refine ⟨?_, ?_, by rw [List.length_append, List.length_singleton]; omega, h4⟩
      · rw [h1, cvr_succ]
        refine cvr_V.ext (or_V cvr_V lyM_V) fun u v hu hv => ?_
        rw [mix_or cvr_V lyM_V hu hv]
        cases h : hasF (lyM (at0 l k) x y) u v with
        | false => simp
        | true => rw [hsub u v hu hv h]; rfl
      · rw [h2, flI_succ]
        refine flI_V.ext (or_V flI_V (less_V lyI_V cvr_V)) fun u v hu hv => ?_
        rw [mix_or flI_V (less_V lyI_V cvr_V) hu hv, mix_less lyI_V cvr_V hu hv]
        cases h : hasF (lyI (at0 l k) x y) u v with
        | false => simp
        | true =>
          have := hsub u v hu hv (lyI_M (hw _ (at0_mem (by omega))) (okSc_get hok (by omega)) hu hv h)
          rw [this]; simp
theorem okSc_of {l : List Ly} (h : ∀ s ∈ l, okLy s = true) (hn : l.length ≤ 8) : okSc l = true := by
  unfold okSc
  rw [allN_true fun i hi => h _ (at0_mem hi)]
  simpa using hn
/- Hidden layers. -/
theorem hid_get {l : List Ly} {x y : Int} : ∀ {k j : Nat}, j < (hidL l x y k).length → ∃ e : Nat, nth (hidL l x y k) j = (e : Int) ∧ e < k ∧ cntF (snF l x y e) = 0 ∧ (0 < j → nth (hidL l x y k) (j - 1) < e)
  | 0, j, hj => by simp [hidL] at hj
  | k + 1, j, hj => by
    rw [hidL] at hj ⊢
    split at hj
    · rename_i hc
      rw [if_pos hc]
      rw [List.length_append, List.length_singleton] at hj
      by_cases h : j < (hidL l x y k).length
      · obtain ⟨e, h1, h2, h3, h4⟩ := hid_get h
        refine ⟨e, by rw [nth_app, if_pos h]; exact h1, by omega, h3, fun h0 => ?_⟩
        rw [nth_app, if_pos (by omega)]; exact h4 h0
      · have hjl : j = (hidL l x y k).length := by omega
        refine ⟨k, by rw [nth_app, if_neg h, if_pos hjl], by omega, hc, fun h0 => ?_⟩
        obtain ⟨e, h1, h2, _⟩ := hid_get (l := l) (x := x) (y := y) (k := k) (j := j - 1) (by omega)
        rw [nth_app, if_pos (by omega), h1]; omega
    · rename_i hc
      rw [if_neg hc]
      obtain ⟨e, h1, h2, h3, h4⟩ := hid_get hj
      exact ⟨e, h1, by omega, h3, h4⟩
/- Counts. -/
def ctsL (l : List Ly) (x y : Int) (k : Nat) : List Int := (List.range l.length).map fun i => (((dotL (snF l x y i) k).length : Nat) : Int)
theorem ctsL_len {l : List Ly} {x y : Int} {k : Nat} : (ctsL l x y k).length = l.length := by simp [ctsL]
theorem ctsL_nth {l : List Ly} {x y : Int} {k i : Nat} (hi : i < l.length) : nth (ctsL l x y k) i = ((dotL (snF l x y i) k).length : Nat) := by
  apply nth_of; simp [ctsL, hi]
theorem ctsL_zero {l : List Ly} {x y : Int} : ctsL l x y 0 = zr l.length 0 := by
  refine ext_nth (by simp [ctsL]) fun i hi => ?_
  rw [ctsL_len] at hi
  rw [ctsL_nth hi, dotL_zero]
  symm; apply nth_of; simp [zr, hi]
theorem ctsL_all {l : List Ly} {x y : Int} : ctsL l x y 144 = cntL l x y l.length := rfl
theorem ctsL_none {l : List Ly} {x y : Int} {u v : Nat} (hu : u < 12) (hv : v < 12) (h : layN l x y u v = -1) : ctsL l x y (v * 12 + u + 1) = ctsL l x y (v * 12 + u) := by
  refine ext_nth (by rw [ctsL_len, ctsL_len]) fun i hi => ?_
  rw [ctsL_len] at hi
  rw [ctsL_nth hi, ctsL_nth hi, dotL_succ_len hu, sn_lay hu hv hi, h, if_neg (by simp)]
theorem ctsL_some {l : List Ly} {x y : Int} {u v i : Nat} (hu : u < 12) (hv : v < 12) (hi : i < l.length) (h : layN l x y u v = (i : Int)) : ctsL l x y (v * 12 + u + 1) = (ctsL l x y (v * 12 + u)).set i (nth (ctsL l x y (v * 12 + u)) i + 1) := by
  refine ext_nth (by rw [List.length_set, ctsL_len, ctsL_len]) fun j hj => ?_
  rw [ctsL_len] at hj
  rw [nth_set (by rw [ctsL_len]; exact hi), ctsL_nth hj, dotL_succ_len hu, sn_lay hu hv hj, h]
  by_cases e : j = i
  · subst e; rw [if_pos (by simp), if_pos rfl, ctsL_nth hj]; omega
  · rw [if_neg (by simp; omega), if_neg (Ne.symm e), ctsL_nth hj]
theorem ctsL_le {l : List Ly} {x y : Int} {k i : Nat} (hi : i < l.length) : 0 ≤ nth (ctsL l x y k) i ∧ nth (ctsL l x y k) i ≤ k := by
  rw [ctsL_nth hi]
  have := dotL_len (f := snF l x y i) (k := k)
  omega
/-- Where a seen dot of a layer lies. -/
theorem sn_dot {l : List Ly} {x y : Int} (hw : ScW l) (hok : okSc l = true) {u v i : Nat} (hu : u < 12) (hv : v < 12) (hi : i < l.length) (h : hasF (snF l x y i) u v = true) :
    ∃ p q : Nat, (u : Int) - offX (at0 l i) x = p ∧ p < 12 ∧ (v : Int) - offY (at0 l i) y = q ∧ q < 12 ∧ hasF (mskL (at0 l i)) p q = true ∧ hasF (inkL (at0 l i)) p q = hasF (flI l x y l.length) u v := by
  rw [fl_top hw hok hu hv hi h]
  rw [sn_has hu hv, Bool.and_eq_true] at h
  have h1 := h.1
  unfold lyM at h1
  unfold lyI
  rw [shF_has hu hv] at h1 ⊢
  unfold hasI at h1 ⊢
  rw [Bool.and_eq_true] at h1
  obtain ⟨h2, h3⟩ := h1
  have h4 := h2
  simp only [okP, Bool.and_eq_true, decide_eq_true_eq] at h4
  refine ⟨((u : Int) - offX (at0 l i) x).toNat, ((v : Int) - offY (at0 l i) y).toNat, by omega, by omega, by omega, by omega, h3, by rw [h2]; rfl⟩
theorem rows_set {α : Type} {f : α → List Value} {esz : Nat} {l : List α} (hf : ∀ a ∈ l, (f a).length = esz) {i : Nat} (hi : i < l.length) {a : α} (ha : (f a).length = esz) : splice (rowsC f l) (i * esz) (f a) = rowsC f (l.set i a) := by
  unfold splice
  rw [rowsC_take hf, ha, show i * esz + esz = (i + 1) * esz by rw [Nat.succ_mul], rowsC_drop hf, List.set_eq_take_append_cons_drop, if_pos hi, rowsC_app]
  simp [rowsC]
theorem ScW.set {l : List Ly} (hw : ScW l) {s : Ly} (hs : LyW s) {i : Nat} : ScW (l.set i s) := fun t ht => by
  rcases List.mem_or_eq_of_mem_set ht with h | rfl
  · exact hw t h
  · exact hs
theorem sc_set {l : List Ly} (hw : ScW l) {i : Nat} (hi : i < l.length) {s : Ly} (hs : LyW s) : splice (scC l) (i * 27) (lyC s) = scC (l.set i s) := rows_set (f := lyC) (fun a ha => lyC_len (hw a ha)) hi (lyC_len hs)
theorem sc_of {G : Heap} {F ver : Nat} {l : List Ly} (hg : G[F]? = some ⟨scC l, 27, ver, false⟩) (hw : ScW l) : Sc G (slc F 0 ver l.length l.length) l :=
  ⟨scC_length hw, .inr ⟨F, 0, ver, _, rfl, Nat.le_refl _, by rw [rd_at hg rfl (by simp [scC_length hw])]; simp only [List.drop_zero]; rw [List.take_of_length_le (by rw [scC_length hw]; omega)], _, hg, rfl, rfl⟩⟩
/-- A scene that is not nothing. -/
def ScS (H : Heap) (x : Value) (l : List Ly) : Prop := Sc H x l ∧ ∃ b off ver cap, x = slc b off ver l.length cap
theorem ScS.pre {H G : Heap} {x : Value} {l : List Ly} (p : Pre H G) (h : ScS H x l) : ScS G x l := ⟨SlR.pre p h.1, h.2⟩
theorem ScS.nn {H : Heap} {x : Value} {l : List Ly} (h : ScS H x l) : eqV .n x (.slice none 0 0) = some false := by
  obtain ⟨_, b, off, ver, cap, rfl⟩ := h; rfl
theorem srcOf_sc {G : Heap} {x : Value} {l : List Ly} (h : Sc G x l) : srcOf 27 G x = some (l.length, scC l) := by
  rcases h.is with ⟨rfl, h0⟩ | ⟨b, off, ver, cap, rfl, _, hr, _⟩
  · have : l = [] := List.length_eq_zero_iff.1 h0
    subst this; rfl
  · show (rd G b off ver (l.length * 27)).map _ = _
    rw [hr]; rfl
theorem call477 {pu : Bool} {H : Heap} {x : Value} {l : List Ly} (h : ScS H x l) (hw : ScW l) (hn : l.length ≤ 1000000) : Call tab pu 477 [x] H = some (slc H.length 0 0 l.length l.length, H ++ [⟨scC l, 27, 0, false⟩]) := by
  refine Call_wp t477 (.inr rfl) rfl ?_
  obtain ⟨G1, hG1⟩ : ∃ G1, G1 = H ++ [(⟨[], 27, 0, false⟩ : Blk)] := ⟨_, rfl⟩
  have p1 : Pre H G1 := by rw [hG1]; exact Pre.one
  have g0 : GrB H G1 H.length (slc H.length 0 0 0 0) 27 0 [] := GrB.mk' (by rw [hG1]; exact get_last) (Nat.le_refl _) p1
  obtain ⟨x', G', hap, hg, _⟩ := g0.append (bytes := 52) (SlR.pre p1 h.1) (by have : roomMax = 140737488355328 := rfl; omega) (wb := false)
  rw [Nat.zero_add, List.nil_append] at hg
  have hf := hg.gr.fin scC_flat
  simp [c477, k477, h.nn, fill, rep, ← hG1, hap, wbOf, hf]
/-- Two layers swapped. -/
def swL (l : List Ly) (k : Nat) : List Ly := (l.set (k - 1) (at0 l k)).set k (at0 l (k - 1))
theorem swL_len {l : List Ly} {k : Nat} : (swL l k).length = l.length := by simp [swL]
theorem swL_W {l : List Ly} (hw : ScW l) {k : Nat} (h0 : 0 < k) (hk : k < l.length) : ScW (swL l k) := (hw.set (hw _ (at0_mem hk))).set (hw _ (at0_mem (by omega)))
theorem at0_set {α : Type} [Inhabited α] {l : List α} {i j : Nat} {a : α} (hi : i < l.length) : at0 (l.set i a) j = if j = i then a else at0 l j := by
  unfold at0
  rw [List.getD_eq_getElem?_getD, List.getD_eq_getElem?_getD]
  by_cases h : j = i
  · subst h; rw [if_pos rfl, List.getElem?_set_self hi]; rfl
  · rw [if_neg h, List.getElem?_set_ne (Ne.symm h)]
theorem swL_at {l : List Ly} {k j : Nat} (h0 : 0 < k) (hk : k < l.length) : at0 (swL l k) j = at0 l (if j = k then k - 1 else if j = k - 1 then k else j) := by
  unfold swL
  rw [at0_set (by simpa using hk), at0_set (by omega)]
  by_cases h1 : j = k
  · rw [if_pos h1, if_pos h1]
  · rw [if_neg h1, if_neg h1]
    by_cases h2 : j = k - 1
    · rw [if_pos h2, if_pos h2]
    · rw [if_neg h2, if_neg h2]
theorem swL_swL {l : List Ly} {k : Nat} (h0 : 0 < k) (hk : k < l.length) : swL (swL l k) k = l := by
  apply List.ext_getElem?
  intro j
  by_cases hj : j < l.length
  · rw [at0_get (by rw [swL_len, swL_len]; exact hj), at0_get hj, swL_at h0 (by rw [swL_len]; exact hk), swL_at h0 hk]
    congr 2
    by_cases h1 : j = k
    · subst h1; rw [if_pos rfl, if_neg (by omega), if_pos rfl]
    · rw [if_neg h1]
      by_cases h2 : j = k - 1
      · rw [if_pos h2, if_pos rfl]; exact h2.symm
      · rw [if_neg h2, if_neg h1, if_neg h2]
  · rw [List.getElem?_eq_none (by rw [swL_len, swL_len]; omega), List.getElem?_eq_none (by omega)]
theorem swL_ok {l : List Ly} (hok : okSc l = true) {k : Nat} (h0 : 0 < k) (hk : k < l.length) : okSc (swL l k) = true :=
  okSc_of (fun s hs => by
    unfold swL at hs
    rcases List.mem_or_eq_of_mem_set hs with h | rfl
    · rcases List.mem_or_eq_of_mem_set h with h | rfl
      · obtain ⟨i, hi, e⟩ := List.getElem_of_mem h
        have : at0 l i = s := by unfold at0; rw [List.getD_eq_getElem?_getD, List.getElem?_eq_getElem hi]; exact e
        rw [← this]; exact okSc_get hok hi
      · exact okSc_get hok hk
    · exact okSc_get hok (by omega)) (by rw [swL_len]; exact okSc_len hok)
theorem call480 {pu : Bool} {H : Heap} {x : Value} {l : List Ly} {k : Nat} (h : ScS H x l) (hw : ScW l) (hn : l.length ≤ 1000000) (h0 : 0 < k) (hk : k < l.length) : Call tab pu 480 [x, .int .i64 (k : Int)] H = some (slc H.length 0 0 l.length l.length, H ++ [⟨scC (swL l k), 27, 0, false⟩]) := by
  refine Call_wp t480 (.inr rfl) rfl ?_
  have c1 := call477 (pu := true) h hw hn
  obtain ⟨G1, hG1⟩ : ∃ G1, G1 = H ++ [(⟨scC l, 27, 0, false⟩ : Blk)] := ⟨_, rfl⟩
  rw [← hG1] at c1
  have p1 : Pre H G1 := by rw [hG1]; exact Pre.one
  have g1 : G1[H.length]? = some ⟨scC l, 27, 0, false⟩ := by rw [hG1]; exact get_last
  obtain ⟨k', hkk⟩ : ∃ k', k' = k - 1 := ⟨_, rfl⟩
  have w1 : IntKind.wrap .i64 ((k : Int) - 1) = (k' : Int) := by rw [wrap64 (by omega)]; omega
  have hk' : k' < l.length := by omega
  obtain ⟨q, o, v, ha, hr, _⟩ := Sc.get (SlR.pre p1 h.1) hw hk
  obtain ⟨q2, o2, v2, ha2, hr2, _⟩ := Sc.get (SlR.pre p1 h.1) hw hk'
  have a1 : idxAV 27 (slc H.length 0 0 l.length l.length) (.int .i64 (k' : Int)) = some (adr H.length (k' * 27) 0) := by rw [idxAV_slc, at_nat hk']; simp
  have a2 : idxAV 27 (slc H.length 0 0 l.length l.length) (.int .i64 (k : Int)) = some (adr H.length (k * 27) 0) := by rw [idxAV_slc, at_nat hk]; simp
  have hsl := scC_length hw
  have hL1 := lyC_len (hw _ (at0_mem hk))
  have hL2 := lyC_len (hw _ (at0_mem hk'))
  have x1 := wr_at (n0 := H.length) (wb := false) (off := k' * 27) (vs := lyC (at0 l k)) (ver := 0) g1 rfl rfl (by simp [may]) (by simp only [hsl, hL1]; omega)
  simp only [sc_set hw hk' (hw _ (at0_mem hk))] at x1
  obtain ⟨l2, hl2⟩ : ∃ l2, l2 = l.set k' (at0 l k) := ⟨_, rfl⟩
  rw [← hl2] at x1
  have hw2 : ScW l2 := by rw [hl2]; exact hw.set (hw _ (at0_mem hk))
  have hn2 : l2.length = l.length := by rw [hl2]; simp
  obtain ⟨G2, hG2⟩ : ∃ G2, G2 = G1.set H.length ⟨scC l2, 27, 0, false⟩ := ⟨_, rfl⟩
  rw [← hG2] at x1
  have g2 : G2[H.length]? = some ⟨scC l2, 27, 0, false⟩ := by rw [hG2]; exact get_set g1
  have x2 := wr_at (n0 := H.length) (wb := false) (off := k * 27) (vs := lyC (at0 l k')) (ver := 0) g2 rfl rfl (by simp [may]) (by simp only [scC_length hw2, hL2, hn2]; omega)
  simp only [sc_set hw2 (by omega : k < l2.length) (hw _ (at0_mem hk'))] at x2
  have hsw : l2.set k (at0 l k') = swL l k := by rw [hl2, hkk]; rfl
  rw [hsw] at x2
  obtain ⟨G3, hG3⟩ : ∃ G3, G3 = G2.set H.length ⟨scC (swL l k), 27, 0, false⟩ := ⟨_, rfl⟩
  rw [← hG3] at x2
  have hG3' : G3 = H ++ [⟨scC (swL l k), 27, 0, false⟩] := by rw [hG3, hG2, hG1]; simp
  have hg3 : Gr H G3 (slc H.length 0 0 l.length l.length) 27 l.length (scC (swL l k)) := ⟨_, _, rfl, by rw [hG3']; exact get_last, Nat.le_refl _, by rw [scC_length (swL_W hw h0 hk), swL_len], by rw [hG3']; exact Pre.one⟩
  have hf := hg3.fin scC_flat
  simp only [lyC] at hr hr2 hL1 hL2 x1 x2
  have hc1 : cellsOf (agg (lyT (at0 l k).f (.int .i8 (at0 l k).x) (.int .i8 (at0 l k).y) (.int .i8 (at0 l k).d))) = lyT (at0 l k).f (.int .i8 (at0 l k).x) (.int .i8 (at0 l k).y) (.int .i8 (at0 l k).d) := by simp
  have hc2 : cellsOf (agg (lyT (at0 l k').f (.int .i8 (at0 l k').x) (.int .i8 (at0 l k').y) (.int .i8 (at0 l k').d))) = lyT (at0 l k').f (.int .i8 (at0 l k').x) (.int .i8 (at0 l k').y) (.int .i8 (at0 l k').d) := by simp
  simp [c480, k480, c1, w1, ha, hr, ha2, hr2, a1, a2, hc1, hc2, hL1, hL2, x1, x2, wbOf, hf, -idxAV_slc]
def crC (k : Nat) : Int := if k = 0 then 4 else 0
theorem call479 {pu : Bool} {H : Heap} {x : Value} {l : List Ly} {k : Nat} (h : Sc H x l) (hw : ScW l) (hok : okSc l = true) (hk : k < l.length) : Call tab pu 479 [x, .int .i64 (k : Int)] H = some (.int .i64 (crC k), H) := by
  refine Call_wp t479 (.inr rfl) rfl ?_
  have h8 := okSc_len hok
  have c1 := call281 (pu := true) h hw (by omega)
  have c2 := call334 (pu := true) (i := (k : Int)) h (by omega)
  rw [hok] at c1
  have hi : in1 (k : Int) 0 ((l.length : Int) - 1) = true := by simp [in1]; omega
  rw [hi] at c2
  by_cases h0 : k = 0
  · subst h0
    have e0 : ((0 : Nat) : Int) = 0 := rfl
    rw [e0] at c2
    simp [c479, k479, c1, c2, crC]
  · have hb : ((k : Int) == 0) = false := beq_false_of_ne (by omega)
    simp [c479, k479, c1, c2, hb, crC, h0]
theorem call286 {pu : Bool} {H : Heap} {x : Value} {l : List Ly} {k : Nat} (h : ScS H x l) (hw : ScW l) (hok : okSc l = true) (hk : k < l.length) :
    Call tab pu 286 [x, .int .i64 (k : Int)] H = some (if k = 0 then (tup [.slice none 0 0, .int .i64 4], H) else (tup [slc H.length 0 0 l.length l.length, .int .i64 0], H ++ [⟨scC (swL l k), 27, 0, false⟩])) := by
  refine Call_wp t286 (.inr rfl) rfl ?_
  have h8 := okSc_len hok
  have c1 := call479 (pu := true) h.1 hw hok hk
  by_cases h0 : k = 0
  · rw [if_pos h0]
    have e : crC k = 4 := by rw [crC, if_pos h0]
    rw [e] at c1
    simp [c286, k286, c1, finish_nil2]
  · rw [if_neg h0]
    have e : crC k = 0 := by rw [crC, if_neg h0]
    rw [e] at c1
    have c2 := call480 (pu := true) h hw (by omega) (by omega) hk
    have hg3 : Gr H (H ++ [⟨scC (swL l k), 27, 0, false⟩]) (slc H.length 0 0 l.length l.length) 27 l.length (scC (swL l k)) := ⟨_, _, rfl, get_last, Nat.le_refl _, by rw [scC_length (swL_W hw (by omega) hk), swL_len], Pre.one⟩
    have hf := hg3.fin2 (c := 0) scC_flat
    simp [c286, k286, c1, c2, hf]
theorem call287 {pu : Bool} {H : Heap} {z : Value} {l : List Ly} {k : Nat} {x y : Int} (h : ScS H z l) (hw : ScW l) (hc : cmC l x y = 0) (hk : k < l.length) :
    Call tab pu 287 [z, .int .i64 (k : Int), .int .i64 x, .int .i64 y] H = some (if k = 0 then tup [.bool false, .int .i64 4] else tup [.bool (decide (flI l x y l.length = flI (swL l k) x y l.length)), .int .i64 0], H) := by
  refine Call_wp t287 (.inr rfl) rfl ?_
  obtain ⟨hok, hx, hy⟩ := cmC_ok hc
  have h8 := okSc_len hok
  have c0 := call329 (pu := true) (x := x) (y := y) h.1 hw (by omega)
  rw [hc] at c0
  have c1 := call479 (pu := true) h.1 hw hok hk
  by_cases h0 : k = 0
  · rw [if_pos h0]
    have e : crC k = 4 := by rw [crC, if_pos h0]
    rw [e] at c1
    simp [c287, k287, c0, c1]
  · rw [if_neg h0]
    have e : crC k = 0 := by rw [crC, if_neg h0]
    rw [e] at c1
    have c2 := call480 (pu := true) h hw (by omega) (by omega) hk
    have c3 := call330 (pu := true) h.1 hw hok hx hy
    obtain ⟨G1, hG1⟩ : ∃ G1, G1 = H ++ [(⟨scC (swL l k), 27, 0, false⟩ : Blk)] := ⟨_, rfl⟩
    rw [← hG1] at c2
    have hw2 := swL_W hw (by omega) hk
    have hs2 : Sc G1 (slc H.length 0 0 l.length l.length) (swL l k) := by
      have := sc_of (G := G1) (F := H.length) (ver := 0) (l := swL l k) (by rw [hG1]; exact get_last) hw2
      rw [swL_len] at this; exact this
    have c4 := call330 (pu := true) hs2 hw2 (swL_ok hok (by omega) hk) hx hy
    rw [swL_len] at c4
    have heq := eqV_iv (k := .u16) (n := 12) (f := flI l x y l.length) (g := flI (swL l k) x y l.length) flI_len flI_len
    have hfin : ∀ b, finish H.length G1 [.bool b, .int .i64 0] = (tup [.bool b, .int .i64 0], H) := fun b => by rw [finish_2 rfl old1_int, hG1]; simp
    simp [c287, k287, c0, c1, c2, c3, c4, ev1_fld, fldV_a flI_len cvr_len, heq, hfin]
theorem slcAV3 {H : Heap} {b n lo hi : Nat} {k : Blk} (hk : H[b]? = some k) (hv : 0 = k.ver) (he : k.esz = 27) (h : hi ≤ n) (h2 : lo ≤ hi) :
    slcAV H 27 (slc b 0 0 n n) (some (.int .i64 (lo : Int))) (some (.int .i64 (hi : Int))) (some (.int .i64 (n : Int))) = some (slc b (0 + lo * 27) 0 (hi - lo) (n - lo)) := by
  show (match H[b]? with
    | some k => if 0 = k.ver ∧ k.esz = 27 then (bnd n (.int .i64 (n : Int))).bind fun m => (bnds n m (some (.int .i64 (lo : Int))) (some (.int .i64 (hi : Int)))).map fun (q : Nat × Nat) => slc b (0 + q.1 * 27) 0 (q.2 - q.1) (m - q.1) else none
    | none => none) = _
  rw [hk]
  simp only []
  rw [if_pos ⟨hv, he⟩]
  simp [bnds, bnd_nat h, bnd_nat h2, bnd_nat (Nat.le_refl n)]
theorem slcAV_lo27 {H : Heap} {b n cap lo : Nat} {k : Blk} (hk : H[b]? = some k) (hv : 0 = k.ver) (he : k.esz = 27) (h : lo ≤ n) :
    slcAV H 27 (slc b 0 0 n cap) (some (.int .i64 (lo : Int))) none none = some (slc b (0 + lo * 27) 0 (n - lo) (cap - lo)) := by
  rw [slcAV_get hk hv he]
  simp [bnds, bnd_nat h]
def drL (l : List Ly) (k : Nat) : List Ly := l.take k ++ l.drop (k + 1)
theorem drL_len {l : List Ly} {k : Nat} (hk : k < l.length) : (drL l k).length = l.length - 1 := by simp [drL]; omega
theorem drL_mem {l : List Ly} {k : Nat} : ∀ s ∈ drL l k, s ∈ l := fun s hs => by
  rcases List.mem_append.1 hs with h | h
  · exact List.mem_of_mem_take h
  · exact List.mem_of_mem_drop h
theorem drL_at {l : List Ly} {k i : Nat} (hk : k < l.length) : at0 (drL l k) i = at0 l (if i < k then i else i + 1) := by
  unfold drL at0
  rw [List.getD_eq_getElem?_getD, List.getD_eq_getElem?_getD]
  by_cases h : i < k
  · rw [if_pos h, List.getElem?_append_left (by simp; omega), List.getElem?_take, if_pos h]
  · rw [if_neg h, List.getElem?_append_right (by simp; omega), List.getElem?_drop]
    congr 2
    simp; omega
def zL : List Value := [.int .u16 0, .int .u16 0, .int .u16 0, .int .u16 0, .int .u16 0, .int .u16 0, .int .u16 0, .int .u16 0, .int .u16 0, .int .u16 0, .int .u16 0, .int .u16 0, .int .u16 0, .int .u16 0, .int .u16 0, .int .u16 0, .int .u16 0, .int .u16 0, .int .u16 0, .int .u16 0, .int .u16 0, .int .u16 0, .int .u16 0, .int .u16 0, .int .i8 0, .int .i8 0, .int .i8 0]
theorem zL_flat : NoRef zL := by
  intro v hv n
  have : ∃ k i, v = .int k i := by
    simp only [zL, List.mem_cons, List.not_mem_nil, or_false] at hv
    repeat first | (rcases hv with rfl | hv; exact ⟨_, _, rfl⟩) | exact ⟨_, _, hv⟩
  obtain ⟨k, i, rfl⟩ := this
  exact old0_int
end Fb
