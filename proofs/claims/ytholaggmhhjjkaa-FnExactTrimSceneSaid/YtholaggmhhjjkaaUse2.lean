/- What each function computes. -/
import Derived.Test.YtholaggmhhjjkaaUse1
set_option linter.unusedVariables false
set_option linter.unusedSimpArgs false
namespace Fb
open Go
theorem call498 {pu : Bool} {H : Heap} {x : Value} {l : List Ly} (hs : Sc H x l) (hw : ScW l) (hn : l.length ≤ 1000000) : Call tab pu 498 [x] H = some (.bool (okSc l), H) := by
  refine Call_wp t498 (.inr rfl) rfl ?_
  simp [c498, k498]
  refine WP_forH 3 l.length _ rfl (by omega) (fun i e => e 0 = x ∧ ∀ j, j < i → okLy (at0 l j) = true) ?_ ?_ (by simp) ⟨by simp, fun j hj => by omega⟩
  · rintro i e hi hii e4 h3 ⟨h0, hj⟩
    obtain ⟨q, off, ver, ha, _, hr⟩ := Sc.get hs hw hi
    have c1 := call563 (pu := true) (hw _ (at0_mem hi)) hr
    cases hk : okLy (at0 l i) with
    | true =>
      rw [hk] at c1
      simp [b498_1, h3, h0, SlR.lenV hs, hii, ha, c1, e4]
      exact upto_succ hj hk
    | false =>
      rw [hk] at c1
      have : okSc l = false := by
        unfold okSc
        rw [allN_false hi hk]; rfl
      simp [b498_1, h3, h0, SlR.lenV hs, hii, ha, c1, this]
  · rintro e h3 ⟨h0, hj⟩
    have : okSc l = decide (l.length ≤ 8) := by
      unfold okSc
      rw [allN_true hj]; rfl
    have e1 : decide ((l.length : Int) ≤ 8) = decide (l.length ≤ 8) := by
      by_cases h : l.length ≤ 8
      · rw [decide_eq_true h, decide_eq_true (by omega)]
      · rw [decide_eq_false h, decide_eq_false (by omega)]
    simp [b498_1, h3, h0, SlR.lenV hs, this, e1, -decide_eq_true_eq, -decide_eq_false_iff_not]
/- The camera. -/
def cmC (l : List Ly) (x y : Int) : Int := if okSc l = true then if (in1 x (-100) 100 && in1 y (-100) 100) = true then 0 else 2 else 1
theorem call416 {pu : Bool} {H : Heap} {x y : Int} : Call tab pu 416 [.int .i64 x, .int .i64 y] H = some (.bool (in1 x (-100) 100 && in1 y (-100) 100), H) := by
  refine Call_wp t416 (.inr rfl) rfl ?_
  cases k1 : in1 x (-100) 100 with
  | false => simp [c416, k416, in295, k1, skip]
  | true => simp [c416, k416, in295, k1]
theorem call329 {pu : Bool} {H : Heap} {z : Value} {l : List Ly} {x y : Int} (hs : Sc H z l) (hw : ScW l) (hn : l.length ≤ 1000000) : Call tab pu 329 [z, .int .i64 x, .int .i64 y] H = some (.int .i64 (cmC l x y), H) := by
  refine Call_wp t329 (.inr rfl) rfl ?_
  have c1 := call281 (pu := true) hs hw hn
  cases k1 : okSc l with
  | false => simp [c329, k329, c1, k1, cmC]
  | true =>
    cases k2 : in1 x (-100) 100 && in1 y (-100) 100 with
    | false => simp only [cmC, k1, k2]; simp [c329, k329, c1, k1, call416, k2]
    | true => simp only [cmC, k1, k2]; simp [c329, k329, c1, k1, call416, k2]
theorem call331 {pu : Bool} {H : Heap} {z : Value} {l : List Ly} {x y : Int} (hs : Sc H z l) (hw : ScW l) (hn : l.length ≤ 1000000) : Call tab pu 331 [z, .int .i64 x, .int .i64 y] H = some (.int .i64 (cmC l x y), H) := by
  refine Call_wp t331 (.inr rfl) rfl ?_
  have c1 := call498 (pu := true) hs hw hn
  cases k1 : okSc l with
  | false => simp [c331, k331, c1, k1, cmC]
  | true =>
    cases k2 : in1 x (-100) 100 with
    | false => simp [c331, k331, c1, k1, in304, k2, skip, cmC]
    | true =>
      cases k3 : in1 y (-100) 100 with
      | false => simp [c331, k331, c1, k1, in304, k2, k3, cmC]
      | true => simp [c331, k331, c1, k1, in304, k2, k3, cmC]
theorem cmC_ok {l : List Ly} {x y : Int} (h : cmC l x y = 0) : okSc l = true ∧ (-100 ≤ x ∧ x ≤ 100) ∧ -100 ≤ y ∧ y ≤ 100 := by
  unfold cmC at h
  split at h
  · rename_i h1
    split at h
    · rename_i h2
      simp [in1] at h2
      exact ⟨h1, h2.1, h2.2⟩
    · omega
  · omega
/- Where a layer stands. -/
theorem call501 {pu : Bool} {H : Heap} {a b : Int} (ha : -1000 ≤ a ∧ a ≤ 1000) (hb : 0 ≤ b ∧ b ≤ 8) : Call tab pu 501 [.int .i64 a, .int .i64 b] H = some (.int .i64 (a * b / 8), H) := by
  refine Call_wp t501 (.inr rfl) rfl ?_
  have hab : -8000 ≤ a * b ∧ a * b ≤ 8000 := by
    have : b = 0 ∨ b = 1 ∨ b = 2 ∨ b = 3 ∨ b = 4 ∨ b = 5 ∨ b = 6 ∨ b = 7 ∨ b = 8 := by omega
    rcases this with rfl | rfl | rfl | rfl | rfl | rfl | rfl | rfl | rfl <;> omega
  have w1 : IntKind.wrap .i64 (a * b) = a * b := wrap64 (by omega)
  have hsh : shiftOf .shr .i64 (a * b) 3 = some (.int .i64 (a * b / 8)) := by
    unfold shiftOf
    rw [if_neg (by omega)]
    have e1 : min ((3 : Int).toNat) (IntKind.bits .i64) = 3 := rfl
    simp only [e1]
    show some (Value.int .i64 ((a * b).fdiv (2 ^ 3))) = _
    rw [Int.fdiv_eq_ediv_of_nonneg _ (by omega)]; rfl
  simp [c501, k501, w1, hsh]
theorem call564 {pu : Bool} {H : Heap} {a b : Int} (ha : -1000 ≤ a ∧ a ≤ 1000) (hb : 0 ≤ b ∧ b ≤ 8) : Call tab pu 564 [.int .i64 a, .int .i64 b] H = some (.int .i64 (a * b / 8), H) := by
  refine Call_wp t564 (.inr rfl) rfl ?_
  have hab : -8000 ≤ a * b ∧ a * b ≤ 8000 := by
    have : b = 0 ∨ b = 1 ∨ b = 2 ∨ b = 3 ∨ b = 4 ∨ b = 5 ∨ b = 6 ∨ b = 7 ∨ b = 8 := by omega
    rcases this with rfl | rfl | rfl | rfl | rfl | rfl | rfl | rfl | rfl <;> omega
  have w1 : IntKind.wrap .i64 (a * b) = a * b := wrap64 (by omega)
  obtain ⟨p, hp⟩ : ∃ p, p = a * b := ⟨_, rfl⟩
  rw [← hp] at hab w1
  have hwp : IntKind.wrap .i64 p = p := wrap64 (by omega)
  by_cases h1 : p < 0
  · obtain ⟨n, hn⟩ : ∃ n : Nat, p = -(n : Int) := ⟨p.natAbs, by omega⟩
    have t1 : p.tdiv 8 = -((n : Int) / 8) := by rw [hn, Int.neg_tdiv, Int.tdiv_eq_ediv_of_nonneg (by omega)]
    have t2 : p.tmod 8 = -((n : Int) % 8) := by rw [hn, Int.neg_tmod, Int.tmod_eq_emod_of_nonneg (by omega)]
    have w2 : IntKind.wrap .i64 (p.tdiv 8) = p.tdiv 8 := by rw [t1]; exact wrap64 (by omega)
    have w3 : IntKind.wrap .i64 (p.tdiv 8 - 1) = p.tdiv 8 - 1 := by rw [t1]; exact wrap64 (by omega)
    by_cases h2 : p.tmod 8 = 0
    · have e1 : p.tdiv 8 = p / 8 := by rw [t1]; omega
      have h3 : (p.tmod 8 != 0) = false := by simp [h2]
      simp [c564, k564, ← hp, hwp, w2, h1, h3, e1]
      exact wrap64 (by omega)
    · have e1 : p.tdiv 8 - 1 = p / 8 := by rw [t1]; omega
      have h3 : (p.tmod 8 != 0) = true := by simpa using h2
      simp [c564, k564, ← hp, hwp, w2, h1, h3, w3, e1]
      exact wrap64 (by omega)
  · have e1 : p.tdiv 8 = p / 8 := Int.tdiv_eq_ediv_of_nonneg (by omega)
    have w2 : IntKind.wrap .i64 (p / 8) = p / 8 := wrap64 (by omega)
    simp [c564, k564, ← hp, hwp, w2, h1, e1, skip]
def offX (s : Ly) (x : Int) : Int := s.x - x * s.d / 8
def offY (s : Ly) (y : Int) : Int := s.y - y * s.d / 8
theorem okLy_d {s : Ly} (h : okLy s = true) : (-12 ≤ s.x ∧ s.x ≤ 12) ∧ (-12 ≤ s.y ∧ s.y ≤ 12) ∧ (0 ≤ s.d ∧ s.d ≤ 8) ∧ okF (inkL s) = true ∧ okF (mskL s) = true := by
  simp only [okLy, okCel, Bool.and_eq_true, in1, decide_eq_true_eq] at h
  exact ⟨h.1.1.2, h.1.2, h.2, h.1.1.1.1.1, h.1.1.1.1.2⟩
theorem div8 {a b : Int} (ha : -100 ≤ a ∧ a ≤ 100) (hb : 0 ≤ b ∧ b ≤ 8) : -100 ≤ a * b / 8 ∧ a * b / 8 ≤ 100 := by
  have : b = 0 ∨ b = 1 ∨ b = 2 ∨ b = 3 ∨ b = 4 ∨ b = 5 ∨ b = 6 ∨ b = 7 ∨ b = 8 := by omega
  rcases this with rfl | rfl | rfl | rfl | rfl | rfl | rfl | rfl | rfl <;> omega
theorem off_ok {s : Ly} {x y : Int} (h : okLy s = true) (hx : -100 ≤ x ∧ x ≤ 100) (hy : -100 ≤ y ∧ y ≤ 100) : (-112 ≤ offX s x ∧ offX s x ≤ 112) ∧ -112 ≤ offY s y ∧ offY s y ≤ 112 := by
  obtain ⟨h1, h2, h3, _⟩ := okLy_d h
  have d1 := div8 hx h3
  have d2 := div8 hy h3
  unfold offX offY
  omega
theorem call335 {pu : Bool} {H : Heap} {s : Ly} {x y : Int} (hw : LyW s) (h : okLy s = true) (hx : -100 ≤ x ∧ x ≤ 100) (hy : -100 ≤ y ∧ y ≤ 100) :
    Call tab pu 335 [agg (lyC s), .int .i64 x, .int .i64 y] H = some (tup [.int .i64 (offX s x), .int .i64 (offY s y)], H) := by
  refine Call_wp t335 (.inr rfl) rfl ?_
  obtain ⟨h1, h2, h3, _⟩ := okLy_d h
  have l := hw.len
  have w1 : IntKind.wrap .i64 s.x = s.x := wrap64 (by omega)
  have w2 : IntKind.wrap .i64 s.y = s.y := wrap64 (by omega)
  have w3 : IntKind.wrap .i64 s.d = s.d := wrap64 (by omega)
  have d1 := div8 hx h3
  have d2 := div8 hy h3
  have c1 := call501 (pu := true) (H := H) (a := x) (b := s.d) (by omega) h3
  have c2 := call501 (pu := true) (H := H) (a := y) (b := s.d) (by omega) h3
  have w4 : IntKind.wrap .i64 (s.x - x * s.d / 8) = offX s x := by rw [wrap64 (by omega)]; rfl
  have w5 : IntKind.wrap .i64 (s.y - y * s.d / 8) = offY s y := by rw [wrap64 (by omega)]; rfl
  simp [c335, k335, lyC, ldLx l, ldLy l, ldLd l, w1, w2, w3, c1, c2, w4, w5]
theorem call499 {pu : Bool} {H : Heap} {q off ver : Nat} {s : Ly} {x y : Int} (hr : LyR H q off ver s) (h : okLy s = true) (hx : -100 ≤ x ∧ x ≤ 100) (hy : -100 ≤ y ∧ y ≤ 100) :
    Call tab pu 499 [adr q off ver, .int .i64 x, .int .i64 y] H = some (tup [.int .i64 (offX s x), .int .i64 (offY s y)], H) := by
  refine Call_wp t499 (.inr rfl) rfl ?_
  obtain ⟨h1, h2, h3, _⟩ := okLy_d h
  have w1 : IntKind.wrap .i64 s.x = s.x := wrap64 (by omega)
  have w2 : IntKind.wrap .i64 s.y = s.y := wrap64 (by omega)
  have w3 : IntKind.wrap .i64 s.d = s.d := wrap64 (by omega)
  have d1 := div8 hx h3
  have d2 := div8 hy h3
  have c1 := call564 (pu := true) (H := H) (a := x) (b := s.d) (by omega) h3
  have c2 := call564 (pu := true) (H := H) (a := y) (b := s.d) (by omega) h3
  have w4 : IntKind.wrap .i64 (s.x - x * s.d / 8) = offX s x := by rw [wrap64 (by omega)]; rfl
  have w5 : IntKind.wrap .i64 (s.y - y * s.d / 8) = offY s y := by rw [wrap64 (by omega)]; rfl
  simp [c499, k499, hr.x, hr.y, hr.d, w1, w2, w3, c1, c2, w4, w5]
theorem lessI_row {a b : Int} (ha : u16' a) (h1 : okRow a = true) : okRow (lessI a b) = true := by
  obtain ⟨n, rfl⟩ := Int.eq_ofNat_of_zero_le ha.1
  simp [okRow] at h1 ⊢
  have e0 : IntKind.bits .u16 = 16 := rfl
  unfold lessI bitsOf
  simp only []
  have e1 : (BitVec.ofInt (IntKind.bits .u16) (n : Int) &&& ~~~BitVec.ofInt (IntKind.bits .u16) b).toNat ≤ n := by
    rw [BitVec.toNat_and]
    refine Nat.le_trans Nat.and_le_left ?_
    rw [e0, BitVec.ofInt_natCast, BitVec.toNat_ofNat]
    exact Nat.mod_le _ _
  rw [wrapu16 (by omega)]; omega
theorem lessI_ok {a b : Int} : u16' (lessI a b) := by
  have e0 : IntKind.bits .u16 = 16 := rfl
  unfold lessI bitsOf
  simp only []
  have := (BitVec.ofInt (IntKind.bits .u16) a &&& ~~~BitVec.ofInt (IntKind.bits .u16) b).isLt
  rw [e0] at this ⊢
  rw [wrapu16 (by omega)]; omega
theorem less_W {a b : List Int} : FrW (mixF lessI a b) := mixF_W fun _ _ => lessI_ok
theorem less_ok {a b : List Int} (ha : FrW a) (h1 : okF a = true) : okF (mixF lessI a b) = true :=
  okF_true mixF_length fun i hi => by
    rw [mixF, nth_tabN hi]
    exact lessI_row (ha.nth hi) (List.all_eq_true.1 (show a.all okRow = true from h1) _ (nth_mem (by rw [ha.len]; exact hi)))
def lyI (s : Ly) (x y : Int) : List Int := shF (inkL s) (offX s x) (offY s y)
def lyM (s : Ly) (x y : Int) : List Int := shF (mskL s) (offX s x) (offY s y)
theorem lyI_W {s : Ly} {x y : Int} : FrW (lyI s x y) := dotsF_W
theorem lyM_W {s : Ly} {x y : Int} : FrW (lyM s x y) := dotsF_W
theorem lyM_ok {s : Ly} {x y : Int} : okF (lyM s x y) = true := dotsF_ok
/-- What is covered by the layers before, and what is seen of a layer. -/
def cvr (l : List Ly) (x y : Int) (k : Nat) : List Int := itN (fun i c => mixF orI c (lyM (at0 l i) x y)) (zr 12 0) k
theorem cvr_zero {l : List Ly} {x y : Int} : cvr l x y 0 = zr 12 0 := itN_zero
theorem cvr_succ {l : List Ly} {x y : Int} {k : Nat} : cvr l x y (k + 1) = mixF orI (cvr l x y k) (lyM (at0 l k) x y) := itN_succ
theorem cvr_len {l : List Ly} {x y : Int} {k : Nat} : (cvr l x y k).length = 12 := by
  cases k with
  | zero => rw [cvr_zero]; simp
  | succ k => rw [cvr_succ]; exact mixF_length
def snF (l : List Ly) (x y : Int) (i : Nat) : List Int := mixF lessI (lyM (at0 l i) x y) (cvr l x y i)
theorem snF_W {l : List Ly} {x y : Int} {i : Nat} : FrW (snF l x y i) := less_W
theorem snF_ok {l : List Ly} {x y : Int} {i : Nat} : okF (snF l x y i) = true := less_ok lyM_W lyM_ok
def snL (l : List Ly) (x y : Int) (k : Nat) : List (List Int) := (List.range k).map (snF l x y)
theorem snL_succ {l : List Ly} {x y : Int} {k : Nat} : bkC (snL l x y (k + 1)) = bkC (snL l x y k) ++ cs .u16 (snF l x y k) := by
  unfold snL
  rw [List.range_succ, List.map_append]
  show rowsC frC (_ ++ _) = _
  rw [rowsC_app]
  simp [bkC, rowsC, frC]
theorem snL_len {l : List Ly} {x y : Int} {k : Nat} : (snL l x y k).length = k := by simp [snL]
theorem snL_W {l : List Ly} {x y : Int} {k : Nat} : BkW (snL l x y k) := by
  intro f hf
  unfold snL at hf
  rw [List.mem_map] at hf
  obtain ⟨i, _, rfl⟩ := hf
  exact snF_W
theorem snL_fr {l : List Ly} {x y : Int} {k i : Nat} (h : i < k) : fr (snL l x y k) i = snF l x y i := by
  unfold fr at0 snL
  rw [List.getD_eq_getElem?_getD, List.getElem?_map, List.getElem?_range h]; rfl
theorem okSc_get {l : List Ly} (h : okSc l = true) {i : Nat} (hi : i < l.length) : okLy (at0 l i) = true := by
  simp only [okSc, Bool.and_eq_true] at h
  exact allN_get (p := fun i => okLy (at0 l i)) h.1 hi
theorem okSc_len {l : List Ly} (h : okSc l = true) : l.length ≤ 8 := by
  simp only [okSc, Bool.and_eq_true, decide_eq_true_eq] at h
  exact h.2
theorem join_sub {a b : List Int} (ha : a.length = 12) (hb : b.length = 12) : sub (a ++ b) 0 12 = a ∧ sub (a ++ b) 12 12 = b := by
  constructor
  · unfold sub
    rw [List.drop_zero, List.take_append_of_le_length (by omega), List.take_of_length_le (by omega)]
  · unfold sub
    rw [List.drop_append_of_le_length (by omega), List.drop_eq_nil_of_le (by omega), List.nil_append, List.take_of_length_le (by omega)]
theorem fill24 {a b : List Int} (ha : a.length = 12) (hb : b.length = 12) : fill (cs .u16 (zr 24 0)) [(0, 12, iv .u16 a), (12, 12, iv .u16 b)] = some (cs .u16 (a ++ b)) := by
  have l1 : (cs .u16 a).length = 12 := by simp [ha]
  have l2 : (cs .u16 b).length = 12 := by simp [hb]
  show (if (cs .u16 a).length = 12 ∧ 0 + 12 ≤ (cs .u16 (zr 24 0)).length then fill (splice (cs .u16 (zr 24 0)) 0 (cs .u16 a)) [(12, 12, iv .u16 b)] else none) = _
  rw [if_pos ⟨l1, by simp⟩, splice_cs, wrt_a (by simp) ha]
  show (if (cs .u16 b).length = 12 ∧ 12 + 12 ≤ (cs .u16 (a ++ (zr 24 0).drop 12)).length then fill (splice (cs .u16 (a ++ (zr 24 0).drop 12)) 12 (cs .u16 b)) [] else none) = _
  rw [if_pos ⟨l2, by simp [ha]⟩, splice_cs, wrt_b ha (by simp) hb]; rfl
theorem call336 {pu : Bool} {H : Heap} {s : Ly} {x y : Int} (hw : LyW s) (h : okLy s = true) (hx : -100 ≤ x ∧ x ≤ 100) (hy : -100 ≤ y ∧ y ≤ 100) :
    Call tab pu 336 [iv .u16 s.f, .int .i64 (offX s x), .int .i64 (offY s y)] H = some (iv .u16 (lyI s x y ++ lyM s x y), H) := by
  refine Call_wp t336 (.inr rfl) rfl ?_
  obtain ⟨h1, h2, h3, h4, h5⟩ := okLy_d h
  obtain ⟨o1, o2⟩ := off_ok h hx hy
  have c1 := call358 (pu := true) (H := H) (dx := offX s x) (dy := offY s y) hw.ink h4 (by omega) (by omega)
  have c2 := call358 (pu := true) (H := H) (dx := offX s x) (dy := offY s y) hw.msk h5 (by omega) (by omega)
  have d1 : ldc 12 true (iv .u16 s.f) 0 = some (iv .u16 (inkL s)) := d24a hw.len
  have d2 : ldc 12 true (iv .u16 s.f) 12 = some (iv .u16 (mskL s)) := d24b hw.len
  have e1 : shF (inkL s) (offX s x) (offY s y) = lyI s x y := rfl
  have e2 : shF (mskL s) (offX s x) (offY s y) = lyM s x y := rfl
  rw [e1] at c1
  rw [e2] at c2
  have hl : (lyI s x y ++ lyM s x y).length = 24 := by simp [lyI_W.len, lyM_W.len]
  have s3 := stc_zr (k := .u16) (n := 24) (l := lyI s x y ++ lyM s x y) hl
  have hf := fill24 (a := lyI s x y) (b := lyM s x y) lyI_W.len lyM_W.len
  simp [c336, k336, d1, d2, c1, c2, zs_cs, hf, agg_cs, hl, s3]
def fldV (off n : Nat) (isAgg : Bool) : Value → Option Value
  | .agg cs => if off + n ≤ cs.size then ldv isAgg ((cs.toList.drop off).take n) else none
  | _ => none
theorem ev1_fld {T : Tab} {n0 : Nat} {wb : Bool} {e : Env} {H : Heap} {off n : Nat} {g : Bool} {x : Opd} : ev1 (Call T) n0 wb e H (.fld off n g x) = (fldV off n g (x.ev e)).map (·, H) := rfl
theorem fldV_b {a b : List Int} (ha : a.length = 12) (hb : b.length = 12) : fldV 12 12 true (iv .u16 (a ++ b)) = some (iv .u16 b) := by
  show (if 12 + 12 ≤ (cs .u16 (a ++ b)).toArray.size then ldv true (((cs .u16 (a ++ b)).toArray.toList.drop 12).take 12) else none) = _
  rw [if_pos (by simp [ha, hb])]
  simp only [cs_sub, (join_sub ha hb).2]; rfl
theorem call412 {pu : Bool} {H : Heap} {z : Value} {l : List Ly} {x y : Int} (hs : Sc H z l) (hw : ScW l) (hok : okSc l = true) (hx : -100 ≤ x ∧ x ≤ 100) (hy : -100 ≤ y ∧ y ≤ 100) :
    Call tab pu 412 [z, .int .i64 x, .int .i64 y] H = some (slc H.length 0 0 l.length l.length, H ++ [⟨bkC (snL l x y l.length), 12, 0, false⟩]) := by
  refine Call_wp t412 (.inr rfl) rfl ?_
  have hn := okSc_len hok
  have hz12 := stc_zr (k := .u16) (n := 12) (l := zr 12 0) (by simp)
  simp [c412, k412, fill, rep, zs_cs, agg_cs, hz12, SlR.lenV hs]
  refine WP_count 16 l.length _ rfl (fun i e G => e 1 = .int .i64 x ∧ e 2 = .int .i64 y ∧ e 8 = iv .u16 (cvr l x y i) ∧ e 14 = z ∧ e 15 = .int .i64 l.length ∧ ∃ g, e 7 = g ∧ Gr H G g 12 i (bkC (snL l x y i))) (by omega) ?_ ?_ (by simp) ⟨by simp, by simp, by simp [cvr_zero], by simp, by simp, _, by simp, Gr.new .refl⟩
  · rintro i e G _ hi hii e4 h16 ⟨h1, h2, h8, h14, h15, g, h7, hg⟩
    obtain ⟨q, off, ver, ha, hr, _⟩ := Sc.get (SlR.pre hg.pre hs) hw hi
    have hlw := hw _ (at0_mem hi)
    have hlo := okSc_get hok hi
    have c1 := call335 (pu := true) (H := G) hlw hlo hx hy
    have c2 := call336 (pu := true) (H := G) hlw hlo hx hy
    have hcl := cvr_len (l := l) (x := x) (y := y) (k := i)
    have c3 := call350 (pu := true) (H := G) (a := lyM (at0 l i) x y) (b := cvr l x y i) lyM_W.len hcl
    have c4 : ∀ G, Call tab true 338 [iv .u16 (cvr l x y i), iv .u16 (lyM (at0 l i) x y)] G = some (iv .u16 (mixF orI (cvr l x y i) (lyM (at0 l i) x y)), G) := fun G => call338 hcl lyM_W.len
    have hsn : mixF lessI (lyM (at0 l i) x y) (cvr l x y i) = snF l x y i := rfl
    rw [hsn] at c3
    have hff := fillF (snF_W (l := l) (x := x) (y := y) (i := i)).len
    obtain ⟨g', G', hpush, hg'⟩ := hg.push (c := cs .u16 (snF l x y i)) (bytes := 24) (by simp [snF_W.len]) (room24 (by omega)) (wb := false)
    rw [← snL_succ] at hg'
    have hz : (zr 24 0).length = 24 := rfl
    have hl := hlw.len
    simp only [lyC] at hr c1
    have st := stLall (a := .int .i8 0) (b := .int .i8 0) (c := .int .i8 0) (a' := .int .i8 (at0 l i).x) (b' := .int .i8 (at0 l i).y) (c' := .int .i8 (at0 l i).d) hz hl
    have hst2 := stc_zr (k := .u16) (n := 12) (l := lyM (at0 l i) x y) lyM_W.len
    have hst3 : stc (iv .u16 (cvr l x y i)) 0 (cs .u16 (mixF orI (cvr l x y i) (lyM (at0 l i) x y))) = some (iv .u16 (mixF orI (cvr l x y i) (lyM (at0 l i) x y))) := stc_all (by rw [hcl, mixF_length])
    simp [b412_1, h16, h1, h2, h8, h14, h15, h7, hii, z27, lyZ, ha, hr, lyT_len hl, st, zs_cs, agg_cs, ldLall hl, ldL0 hl, c1, c2, ev1_fld, fldV_b lyI_W.len lyM_W.len, lyM_W.len, hst2, hcl, c3, hff, hpush, wbOf, c4, mixF_length, hst3, e4]
    exact ⟨by rw [cvr_succ], hg'⟩
  · rintro e G _ h16 ⟨h1, h2, h8, h14, h15, g, h7, hg⟩
    have hfin := hg.fin bkC_flat
    simp [b412_1, h16, h15, h7, hfin]
theorem call408 {pu : Bool} {H : Heap} {z : Value} {l : List Ly} {x y : Int} (hs : Sc H z l) (hw : ScW l) (hok : okSc l = true) (hx : -100 ≤ x ∧ x ≤ 100) (hy : -100 ≤ y ∧ y ≤ 100) :
    Call tab pu 408 [z, .int .i64 x, .int .i64 y] H = some (slc H.length 0 0 l.length l.length, H ++ [⟨bkC (snL l x y l.length), 12, 0, false⟩]) := by
  refine Call_wp t408 (.inr rfl) rfl ?_
  have hn := okSc_len hok
  obtain ⟨G1, hG1⟩ : ∃ G1, G1 = H ++ [(⟨[], 12, 0, false⟩ : Blk), ⟨cs .u16 (zr 12 0), 1, 0, false⟩] := ⟨_, rfl⟩
  have p1 : Pre H G1 := by rw [hG1]; exact ⟨_, rfl⟩
  have gR : GrB H G1 H.length (slc H.length 0 0 0 0) 12 0 [] := GrB.mk' (by rw [hG1]; simp) (Nat.le_refl _) p1
  have gC : G1[H.length + 1]? = some ⟨cs .u16 (cvr l x y 0), 1, 0, false⟩ := by rw [hG1, cvr_zero]; simp
  have hwr : wr H.length false G1 (H.length + 1) 0 0 (cs .u16 (zr 12 0)) = some G1 := by
    rw [cvr_zero] at gC
    rw [wr_at gC rfl rfl (by simp [may]) (by simp)]
    congr 1
    refine set_self ?_
    rw [gC]; simp [splice]
  simp [c408, k408, fill, rep, zs_cs, agg_cs, ← hG1, hwr, wbOf]
  refine WP_count 9 l.length _ rfl (fun i e G => e 0 = z ∧ e 1 = .int .i64 x ∧ e 2 = .int .i64 y ∧ e 8 = adr (H.length + 1) 0 0 ∧ G[H.length + 1]? = some ⟨cs .u16 (cvr l x y i), 1, 0, false⟩ ∧ ∃ g, e 7 = g ∧ GrB H G H.length g 12 i (bkC (snL l x y i))) (by omega) ?_ ?_ (by simp) ⟨by simp, by simp, by simp, by simp, gC, _, by simp, gR⟩
  · rintro i e G _ hi hii e4 h9 ⟨h0, h1, h2, h8, hC, g, h7, hg⟩
    have hPG := hg.pr
    obtain ⟨q, off, ver, ha, _, hr⟩ := Sc.get (SlR.pre hPG hs) hw hi
    have hlw := hw _ (at0_mem hi)
    have hlo := okSc_get hok hi
    obtain ⟨o1, o2⟩ := off_ok hlo hx hy
    have c1 := call499 (pu := true) hr hlo hx hy
    have c2 := call355 (pu := true) (H := G) (dx := offX (at0 l i) x) (dy := offY (at0 l i) y) hlw.msk hr.msk (by omega) (by omega)
    have e2 : shF (mskL (at0 l i)) (offX (at0 l i) x) (offY (at0 l i) y) = lyM (at0 l i) x y := rfl
    rw [e2] at c2
    have c2' := fun G' (pp : Pre G G') => call355 (pu := true) (H := G') (dx := offX (at0 l i) x) (dy := offY (at0 l i) y) hlw.msk (pp.rd hr.msk) (by omega) (by omega)
    obtain ⟨Ga, hGa⟩ : ∃ Ga, Ga = G ++ [(⟨cs .u16 (zr 12 0), 1, 0, false⟩ : Blk)] := ⟨_, rfl⟩
    have pa : Pre G Ga := by rw [hGa]; exact Pre.one
    have c2a := c2' Ga pa
    rw [e2] at c2a
    obtain ⟨Gb, hGb⟩ : ∃ Gb, Gb = G ++ [(⟨cs .u16 (lyM (at0 l i) x y), 1, 0, false⟩ : Blk)] := ⟨_, rfl⟩
    have pb : Pre G Gb := by rw [hGb]; exact Pre.one
    have hHG : H.length ≤ G.length := hPG.len
    have hwa : wr H.length false Ga G.length 0 0 (cs .u16 (lyM (at0 l i) x y)) = some Gb := by
      have := wr_last (n0 := H.length) (wb := false) (H := G) (b := ⟨cs .u16 (zr 12 0), 1, 0, false⟩) (vs := cs .u16 (lyM (at0 l i) x y)) rfl rfl hHG (by simp [lyM_W.len])
      rw [hGa, this, hGb]
    have rM : rd Gb G.length 0 0 12 = some (cs .u16 (lyM (at0 l i) x y)) := by rw [hGb]; exact rd_last rfl (by simp [lyM_W.len])
    have hlC := (List.getElem?_eq_some_iff.1 hC).1
    have hcl := cvr_len (l := l) (x := x) (y := y) (k := i)
    have hCb : Gb[H.length + 1]? = some ⟨cs .u16 (cvr l x y i), 1, 0, false⟩ := by rw [pb.get hlC]; exact hC
    have rCb : rd Gb (H.length + 1) 0 0 12 = some (cs .u16 (cvr l x y i)) := by
      rw [rd_at hCb rfl (by simp [hcl])]; simp only [List.drop_zero]; rw [List.take_of_length_le (by simp [hcl])]
    have c3 := call349 (pu := true) lyM_W.len hcl rM rCb
    have hsn : mixF lessI (lyM (at0 l i) x y) (cvr l x y i) = snF l x y i := rfl
    rw [hsn] at c3
    have hff := fillF (snF_W (l := l) (x := x) (y := y) (i := i)).len
    obtain ⟨g', G', hpush, hg', hk⟩ := (hg.onto pb).push (c := cs .u16 (snF l x y i)) (bytes := 24) (by simp [snF_W.len]) (room24 (by omega)) (wb := false)
    rw [← snL_succ] at hg'
    have hC' : G'[H.length + 1]? = some ⟨cs .u16 (cvr l x y i), 1, 0, false⟩ := by rw [hk _ (by omega) (by have := pb.len; omega)]; exact hCb
    have hGbl : Gb.length = G.length + 1 := by rw [hGb]; simp
    have hM' : G'[G.length]? = some ⟨cs .u16 (lyM (at0 l i) x y), 1, 0, false⟩ := by rw [hk _ (by omega) (by omega), hGb]; exact get_last
    have rC' : rd G' (H.length + 1) 0 0 12 = some (cs .u16 (cvr l x y i)) := by
      rw [rd_at hC' rfl (by simp [hcl])]; simp only [List.drop_zero]; rw [List.take_of_length_le (by simp [hcl])]
    have rM' : rd G' G.length 0 0 12 = some (cs .u16 (lyM (at0 l i) x y)) := by
      rw [rd_at hM' rfl (by simp [lyM_W.len])]; simp only [List.drop_zero]; rw [List.take_of_length_le (by simp [lyM_W.len])]
    have c4 := call337 (pu := true) hcl lyM_W.len rC' rM'
    rw [← cvr_succ] at c4
    have hcl2 := cvr_len (l := l) (x := x) (y := y) (k := i + 1)
    obtain ⟨Gd, hGd⟩ : ∃ Gd, Gd = G'.set (H.length + 1) ⟨cs .u16 (cvr l x y (i + 1)), 1, 0, false⟩ := ⟨_, rfl⟩
    have hwd : wr H.length false G' (H.length + 1) 0 0 (cs .u16 (cvr l x y (i + 1))) = some Gd := by
      rw [wr_at hC' rfl rfl (by simp [may]) (by simp [hcl, hcl2]), hGd]
      have hdn : (cs .u16 (cvr l x y i)).drop 12 = [] := List.drop_eq_nil_of_le (by simp [hcl])
      simp [splice, hcl, hcl2, hdn]
    have hgd : GrB H Gd H.length g' 12 (i + 1) (bkC (snL l x y (i + 1))) := hg'.kept (by rw [hGd, List.getElem?_set_ne (by omega)]) (by rw [hGd]; exact hg'.pr.set (by omega))
    simp [b408_1, h9, h0, h1, h2, h8, h7, SlR.lenV hs, hii, ha, c1, c2, zs_cs, ← hGa, hwa, wbOf, lyM_W.len, c3, hff, hpush, c4, hcl2, hwd, e4]
    exact ⟨by rw [hGd]; exact get_set hC', hgd⟩
  · rintro e G _ h9 ⟨h0, h1, h2, h8, hC, g, h7, hg⟩
    have hfin := hg.gr.fin bkC_flat
    simp [b408_1, h9, h0, h7, SlR.lenV hs, hfin]
def trL' (l : List Ly) (x y : Int) (k : Nat) : List Ly := itN (fun i r => if 0 < cntF (snF l x y i) then r ++ [at0 l i] else r) [] k
theorem trL'_zero {l : List Ly} {x y : Int} : trL' l x y 0 = [] := itN_zero
theorem trL'_succ {l : List Ly} {x y : Int} {k : Nat} : trL' l x y (k + 1) = if 0 < cntF (snF l x y k) then trL' l x y k ++ [at0 l k] else trL' l x y k := itN_succ
theorem trL'_ok {l : List Ly} {x y : Int} (hw : ScW l) {k : Nat} (hk : k ≤ l.length) : (trL' l x y k).length ≤ k ∧ ScW (trL' l x y k) := by
  induction k with
  | zero => rw [trL'_zero]; exact ⟨Nat.le_refl _, fun s hs => by cases hs⟩
  | succ k ih =>
    obtain ⟨h1, h2⟩ := ih (by omega)
    rw [trL'_succ]
    split
    · refine ⟨by simp; omega, fun s hs => ?_⟩
      rcases List.mem_append.1 hs with h | h
      · exact h2 s h
      · rw [List.mem_singleton.1 h]; exact hw _ (at0_mem (by omega))
    · exact ⟨by omega, h2⟩
def tmL (l : List Ly) (x y : Int) : List Ly := if cmC l x y = 0 then trL' l x y l.length else []
theorem tmL_ok {l : List Ly} {x y : Int} (hw : ScW l) : (tmL l x y).length ≤ l.length ∧ ScW (tmL l x y) := by
  unfold tmL
  split
  · exact trL'_ok hw (Nat.le_refl _)
  · exact ⟨by simp, fun s hs => by cases hs⟩
theorem scC_push {l : List Ly} {s : Ly} : scC l ++ lyC s = scC (l ++ [s]) := by
  unfold scC
  rw [rowsC_app]; simp [rowsC]
theorem fill27 {s : Ly} (hw : LyW s) : fill (rep 1 lyZ) [(0, 27, agg (lyC s))] = some (lyC s) := fill_one (by rw [cellsOf_agg, lyC_len hw]) rfl
theorem room52 {n : Nat} (h : n ≤ 1000000) : (n + 1) * 52 ≤ roomMax := by have : roomMax = 140737488355328 := rfl; omega
theorem call192 {pu : Bool} {l : List Ly} {x y : Int} (hw : ScW l) (hn : l.length ≤ 1000000) {H : Heap} {z : Value} (hs : Sc H z l) :
    ∃ r G' β, Call tab pu 192 [z, .int .i64 x, .int .i64 y] H = some (tup [r, .int .i64 (cmC l x y)], G') ∧ Pre H G' ∧ Own G' r β H.length 27 (tmL l x y).length (scC (tmL l x y)) := by
  have h1 := call329 (pu := true) (x := x) (y := y) hs hw hn
  by_cases hc : cmC l x y = 0
  · obtain ⟨hok, hx, hy⟩ := cmC_ok hc
    have h8 := okSc_len hok
    have hT : tmL l x y = trL' l x y l.length := by rw [tmL, if_pos hc]
    obtain ⟨hT1, hT2⟩ := tmL_ok (x := x) (y := y) hw
    obtain ⟨G1, hG1⟩ : ∃ G1, G1 = H ++ [(⟨[], 27, 0, false⟩ : Blk)] := ⟨_, rfl⟩
    have p1 : Pre H G1 := by rw [hG1]; exact Pre.one
    have l1 : G1.length = H.length + 1 := by rw [hG1]; simp
    have h412 := call412 (pu := true) (SlR.pre p1 hs) hw hok hx hy
    rw [l1] at h412
    obtain ⟨G2, hG2⟩ : ∃ G2, G2 = G1 ++ [(⟨bkC (snL l x y l.length), 12, 0, false⟩ : Blk)] := ⟨_, rfl⟩
    rw [← hG2] at h412
    have p2 : Pre G1 G2 := by rw [hG2]; exact Pre.one
    have gS : G2[H.length + 1]? = some ⟨bkC (snL l x y l.length), 12, 0, false⟩ := by rw [hG2, ← l1]; exact get_last
    have gR : GrB H G2 H.length (slc H.length 0 0 0 0) 27 0 [] := GrB.mk' (by rw [p2.get (by omega), hG1]; exact get_last) (Nat.le_refl _) (p1.trans p2)
    refine ⟨slc H.length 0 0 (tmL l x y).length (tmL l x y).length, H ++ [⟨scC (tmL l x y), 27, 0, false⟩], some H.length, Call_wp t192 (.inr rfl) rfl ?_, Pre.one, own_new (scC_length hT2)⟩
    simp [c192, k192, h1, hc, fill, rep, ← hG1, h412]
    refine WP_count 25 l.length _ rfl (fun i e G => e 0 = z ∧ e 23 = slc (H.length + 1) 0 0 l.length l.length ∧ e 24 = .int .i64 l.length ∧ G[H.length + 1]? = some ⟨bkC (snL l x y l.length), 12, 0, false⟩ ∧ ∃ g, e 9 = g ∧ GrB H G H.length g 27 (trL' l x y i).length (scC (trL' l x y i))) (by omega) ?_ ?_ (by simp) ⟨by simp, by simp, by simp, gS, slc H.length 0 0 0 0, by simp, by rw [trL'_zero]; exact gR⟩
    · rintro i e G _ hi hii e4 h25 ⟨h0, h23, h24, hS, g, h9, hg⟩
      have hPG := hg.pr
      obtain ⟨q, off, ver, ha, hr, _⟩ := Sc.get (SlR.pre hPG hs) hw hi
      have hB : Bk G (slc (H.length + 1) 0 0 l.length l.length) (snL l x y l.length) := by
        unfold Bk
        rw [snL_len]
        exact ⟨by rw [bkC_length snL_W, snL_len], .inr ⟨_, 0, 0, _, rfl, Nat.le_refl _, by rw [rd_at hS rfl (by simp only [bkC_length snL_W, snL_len]; omega)]; simp only [List.drop_zero]; rw [List.take_of_length_le (by rw [bkC_length snL_W, snL_len]; omega)], _, hS, rfl, rfl⟩⟩
      obtain ⟨q2, off2, ver2, ha2, hr2⟩ := Bk.get hB snL_W (i := i) (by rw [snL_len]; exact hi)
      rw [snL_fr hi] at hr2
      have c1 := call393 (pu := true) (H := G) (snF_W (l := l) (x := x) (y := y) (i := i)) snF_ok
      have hsu := trL'_succ (l := l) (x := x) (y := y) (k := i)
      have hle := (trL'_ok (x := x) (y := y) hw (k := i) (by omega)).1
      have hst := stc_zr (k := .u16) (n := 12) (l := snF l x y i) (snF_W).len
      have hlS := (List.getElem?_eq_some_iff.1 hS).1
      by_cases hcn : 0 < cntF (snF l x y i)
      · rw [if_pos hcn] at hsu
        have hf := fill27 (hw _ (at0_mem hi))
        obtain ⟨g', G', hpush, hg', hk⟩ := hg.push (c := lyC (at0 l i)) (bytes := 52) (lyC_len (hw _ (at0_mem hi))) (room52 (by omega)) (wb := false)
        rw [scC_push, ← hsu] at hg'
        have hl : (trL' l x y i).length + 1 = (trL' l x y (i + 1)).length := by rw [hsu]; simp
        rw [hl] at hg'
        simp [b192_1, h25, h0, h23, h24, h9, hii, ha2, hr2, zs_cs, agg_cs, snF_W.len, hst, c1, hcn, ha, hr, z27, hf, hpush, wbOf, e4, -idxAV_slc]
        exact ⟨by rw [hk _ (by omega) hlS]; exact hS, hg'⟩
      · rw [if_neg hcn] at hsu
        simp [b192_1, h25, h0, h23, h24, h9, hii, ha2, hr2, zs_cs, agg_cs, snF_W.len, hst, c1, hcn, e4, -idxAV_slc]
        exact ⟨hS, by rw [hsu]; exact hg⟩
    · rintro e G _ h25 ⟨h0, h23, h24, hS, g, h9, hg⟩
      rw [← hT] at hg
      have hfin := hg.gr.fin2 (c := 0) scC_flat
      simp [b192_1, h25, h24, h9, hfin, hc]
  · have hb : (cmC l x y != 0) = true := by simpa using hc
    refine ⟨.slice none 0 0, H, none, Call_wp t192 (.inr rfl) rfl ?_, .refl, by rw [tmL, if_neg hc]; exact own_nil⟩
    simp [c192, k192, h1, hb, finish_nil2]
theorem call190 {pu : Bool} {l : List Ly} {x y : Int} (hw : ScW l) (hn : l.length ≤ 1000000) {H : Heap} {z : Value} (hs : Sc H z l) :
    ∃ r G' β, Call tab pu 190 [z, .int .i64 x, .int .i64 y] H = some (tup [r, .int .i64 (cmC l x y)], G') ∧ Pre H G' ∧ Own G' r β H.length 27 (tmL l x y).length (scC (tmL l x y)) := by
  have h1 := call331 (pu := true) (x := x) (y := y) hs hw hn
  by_cases hc : cmC l x y = 0
  · obtain ⟨hok, hx, hy⟩ := cmC_ok hc
    have h8 := okSc_len hok
    have hT : tmL l x y = trL' l x y l.length := by rw [tmL, if_pos hc]
    obtain ⟨hT1, hT2⟩ := tmL_ok (x := x) (y := y) hw
    obtain ⟨G1, hG1⟩ : ∃ G1, G1 = H ++ [(⟨[], 27, 0, false⟩ : Blk)] := ⟨_, rfl⟩
    have p1 : Pre H G1 := by rw [hG1]; exact Pre.one
    have l1 : G1.length = H.length + 1 := by rw [hG1]; simp
    have h408 := call408 (pu := true) (SlR.pre p1 hs) hw hok hx hy
    rw [l1] at h408
    obtain ⟨G2, hG2⟩ : ∃ G2, G2 = G1 ++ [(⟨bkC (snL l x y l.length), 12, 0, false⟩ : Blk)] := ⟨_, rfl⟩
    rw [← hG2] at h408
    have p2 : Pre G1 G2 := by rw [hG2]; exact Pre.one
    have gS : G2[H.length + 1]? = some ⟨bkC (snL l x y l.length), 12, 0, false⟩ := by rw [hG2, ← l1]; exact get_last
    have gR : GrB H G2 H.length (slc H.length 0 0 0 0) 27 0 [] := GrB.mk' (by rw [p2.get (by omega), hG1]; exact get_last) (Nat.le_refl _) (p1.trans p2)
    refine ⟨slc H.length 0 0 (tmL l x y).length (tmL l x y).length, H ++ [⟨scC (tmL l x y), 27, 0, false⟩], some H.length, Call_wp t190 (.inr rfl) rfl ?_, Pre.one, own_new (scC_length hT2)⟩
    simp [c190, k190, h1, hc, fill, rep, ← hG1, h408]
    refine WP_count 11 l.length _ rfl (fun i e G => e 0 = z ∧ e 10 = slc (H.length + 1) 0 0 l.length l.length ∧ G[H.length + 1]? = some ⟨bkC (snL l x y l.length), 12, 0, false⟩ ∧ ∃ g, e 9 = g ∧ GrB H G H.length g 27 (trL' l x y i).length (scC (trL' l x y i))) (by omega) ?_ ?_ (by simp) ⟨by simp, by simp, gS, slc H.length 0 0 0 0, by simp, by rw [trL'_zero]; exact gR⟩
    · rintro i e G _ hi hii e4 h11 ⟨h0, h10, hS, g, h9, hg⟩
      have hPG := hg.pr
      obtain ⟨q, off, ver, ha, hr, _⟩ := Sc.get (SlR.pre hPG hs) hw hi
      have hB : Bk G (slc (H.length + 1) 0 0 l.length l.length) (snL l x y l.length) := by
        unfold Bk
        rw [snL_len]
        exact ⟨by rw [bkC_length snL_W, snL_len], .inr ⟨_, 0, 0, _, rfl, Nat.le_refl _, by rw [rd_at hS rfl (by simp only [bkC_length snL_W, snL_len]; omega)]; simp only [List.drop_zero]; rw [List.take_of_length_le (by rw [bkC_length snL_W, snL_len]; omega)], _, hS, rfl, rfl⟩⟩
      obtain ⟨q2, off2, ver2, ha2, hr2⟩ := Bk.get hB snL_W (i := i) (by rw [snL_len]; exact hi)
      rw [snL_fr hi] at hr2
      have c1 := call409 (pu := true) (snF_W (l := l) (x := x) (y := y) (i := i)) hr2
      have hsu := trL'_succ (l := l) (x := x) (y := y) (k := i)
      have hle := (trL'_ok (x := x) (y := y) hw (k := i) (by omega)).1
      have hlS := (List.getElem?_eq_some_iff.1 hS).1
      by_cases hcn : 0 < cntF (snF l x y i)
      · rw [if_pos hcn] at hsu
        have hf := fill27 (hw _ (at0_mem hi))
        obtain ⟨g', G', hpush, hg', hk⟩ := hg.push (c := lyC (at0 l i)) (bytes := 52) (lyC_len (hw _ (at0_mem hi))) (room52 (by omega)) (wb := false)
        rw [scC_push, ← hsu] at hg'
        have hl : (trL' l x y i).length + 1 = (trL' l x y (i + 1)).length := by rw [hsu]; simp
        rw [hl] at hg'
        simp [b190_1, h11, h0, h10, h9, hii, ha2, c1, hcn, ha, hr, z27, hf, hpush, wbOf, e4, -idxAV_slc]
        exact ⟨by rw [hk _ (by omega) hlS]; exact hS, hg'⟩
      · rw [if_neg hcn] at hsu
        simp [b190_1, h11, h0, h10, h9, hii, ha2, c1, hcn, e4, -idxAV_slc]
        exact ⟨hS, by rw [hsu]; exact hg⟩
    · rintro e G _ h11 ⟨h0, h10, hS, g, h9, hg⟩
      rw [← hT] at hg
      have hfin := hg.gr.fin2 (c := 0) scC_flat
      simp [b190_1, h11, h10, h9, hfin, hc]
  · have hb : (cmC l x y != 0) = true := by simpa using hc
    have hfin := (Gr.new (H := H) (esz := 27) .refl).fin2 (c := cmC l x y) (by intro v hv; simp at hv)
    refine ⟨slc H.length 0 0 0 0, H ++ [⟨[], 27, 0, false⟩], some H.length, Call_wp t190 (.inr rfl) rfl ?_, Pre.one, by rw [tmL, if_neg hc]; exact own_new (n := 0) rfl⟩
    simp [c190, k190, h1, hb, fill, rep, hfin]
/-- The calls of a law from a list and more to a list. -/
theorem lsx_any {to it mA sp im eR mR hR wA wR : Nat} {extra : List Value} {H : Heap} {x : Value} {esz n eszR nR : Nat} {vs fc vsR : List Value} {c : Int} {msA msR : Int → Nat → Value}
    (hs : SlR H x esz n vs) (hn : n ≤ 1000000) (hl : vs.length = n * esz) (hfc : fc.length = esz)
    (hcp : ∀ G, SlR G x esz n vs → CpF to G x esz n vs fc) (hit : ∀ G y z, IsCp G y esz n vs fc → IsCp G z esz n vs fc → Call tab true it [y, z] G = some (.bool true, G))
    (hsp : ∀ G y, SlR G y esz n vs → ∃ r G' β, Call tab true sp (y :: extra) G = some (tup [r, .int .i64 c], G') ∧ Pre G G' ∧ Own G' r β G.length eszR nR vsR)
    (him : ∀ G y, SlR G y esz n vs → ∃ r G' β, Call tab true im (y :: extra) G = some (tup [r, .int .i64 c], G') ∧ Pre G G' ∧ Own G' r β G.length eszR nR vsR)
    (heq : EqF eR eszR nR vsR) (hmA : MkF mA esz wA msA) (hmR : MkF mR eszR wR msR) (hhR : HdF hR eszR wR msR) (hnR : nR ≤ 1000000) :
    ∃ x1 G1 rs G1' x2 G2 ri G2' x3 G3 G4 G5 x4 G6 r4 G7, Call tab true to [x, .bool false] H = some (x1, G1) ∧ Call tab true sp (x1 :: extra) G1 = some (tup [rs, .int .i64 c], G1') ∧
      Call tab true to [x, .bool false] G1' = some (x2, G2) ∧ Call tab true im (x2 :: extra) G2 = some (tup [ri, .int .i64 c], G2') ∧ Call tab true eR [ri, rs] G2' = some (.bool true, G2') ∧
      Call tab true to [x, .bool false] G2' = some (x3, G3) ∧ Call tab true it [x2, x3] G3 = some (.bool true, G3) ∧
      (Call tab false mA [x2, .int .i64 101] G3).bind (elder H.length false G3) = some (.int .i64 (101 + (n * wA : Nat)), G4) ∧ Call tab true eR [ri, rs] G4 = some (.bool true, G4) ∧
      (Call tab false mR [ri, .int .i64 101] G4).bind (elder H.length false G4) = some (.int .i64 (101 + (nR * wR : Nat)), G5) ∧ Call tab true hR [ri, .int .i64 101] G5 = some (.int .i64 (101 + (nR * wR : Nat)), G5) ∧
      Call tab true to [x, .bool true] G5 = some (x4, G6) ∧ Call tab true im (x4 :: extra) G6 = some (tup [r4, .int .i64 c], G7) ∧ Call tab true eR [r4, rs] G7 = some (.bool true, G7) ∧
      Call tab true hR [ri, .int .i64 101] G7 = some (.int .i64 (101 + (nR * wR : Nat)), G7) ∧ Pre H G7 := by
  obtain ⟨x1, G1, q1, k1, o1, p1⟩ := cp_own (pu := true) hl hfc (hcp H hs)
  obtain ⟨rs, G1', βs, w1, p1', os⟩ := hsp G1 x1 o1.sl
  have P1 := p1.trans p1'
  obtain ⟨x2, G2, q2, k2, o2, p2⟩ := cp_own (pu := true) hl hfc (hcp G1' (hs.pre P1))
  obtain ⟨ri, G2', βi, w2, p2', oi⟩ := him G2 x2 o2.sl
  have P2 := (P1.trans p2).trans p2'
  have os2 := (os.pre p2).pre p2'
  have e1 := heq G2' ri rs oi.sl os2.sl
  obtain ⟨x3, G3, q3, k3, o3, p3⟩ := cp_own (pu := true) hl hfc (hcp G2' (hs.pre P2))
  have P3 := P2.trans p3
  have e2 := hit G3 x2 x3 ((k2.pre p2').pre p3) k3
  have os3 := os2.pre p3
  have oi3 := oi.pre p3
  have o23 := (o2.pre p2').pre p3
  obtain ⟨G4, w3, s4, o24⟩ := hmA G3 x2 _ _ n _ 101 o23 hn (by omega) (by omega)
  have hG1 : H.length ≤ G1'.length := P1.len
  have P4 : Pre H G4 := s4.pre P3 fun b hb => by cases hb; exact hG1
  have hb2 : G1'.length < G2.length := o2.lt.2
  have os4 : Own G4 rs βs G1.length eszR nR vsR := os3.same s4 fun b hb he => by
    subst hb
    have := os.lt
    cases he; omega
  have oi4 : Own G4 ri βi G2.length eszR nR vsR := oi3.same s4 fun b hb he => by
    subst hb
    have := oi.lt
    cases he; omega
  have e3 := heq G4 ri rs oi4.sl os4.sl
  obtain ⟨G5, w4, s5, oi5⟩ := hmR G4 ri βi _ nR vsR 101 oi4 hnR (by omega) (by omega)
  have hG2 : H.length ≤ G2.length := (P1.trans p2).len
  have P5 : Pre H G5 := s5.pre P4 fun b hb => Nat.le_trans hG2 (oi.below b hb)
  have os5 : Own G5 rs βs G1.length eszR nR vsR := os4.same s5 fun b hb he => by
    subst hb
    have h1 := os.lt
    have h2 := oi.below b he
    have h3 := p2.len
    omega
  have w5 := hhR true G5 ri βi _ nR 101 oi5 hnR (by omega) (by omega)
  obtain ⟨x4, G6, q4, r4, p6⟩ := cp_true (pu := true) hl hfc (hcp G5 (hs.pre P5))
  obtain ⟨r4', G7, β4, w6, p7, o4⟩ := him G6 x4 r4
  have P7 := (P5.trans p6).trans p7
  have os7 := (os5.pre p6).pre p7
  have oi7 := (oi5.pre p6).pre p7
  have e4 := heq G7 r4' rs o4.sl os7.sl
  have w7 := hhR true G7 ri βi _ nR 101 oi7 hnR (by omega) (by omega)
  refine ⟨x1, G1, rs, G1', x2, G2, ri, G2', x3, G3, G4, G5, x4, G6, r4', G7, q1, w1, q2, w2, e1, q3, e2, ?_, e3, ?_, w5, q4, w6, e4, w7, P7⟩
  · rw [w3]; exact elder_pre P3 P4
  · rw [w4]; exact elder_pre P4 P5
theorem call35 {H : Heap} {z : Value} {l : List Ly} {x y : Int} (hs : Sc H z l) (hw : ScW l) (hn : l.length ≤ 9223372036854775807) : ∃ H', Call tab false 35 [z, .int .i64 x, .int .i64 y] H = some (.bool true, H') := by
  refine ⟨H, Call_wp t35 (.inl rfl) rfl ?_⟩
  have hsz := sz_call s189 (pu := true) hs (left := 1000000) (by omega) (by omega) hn
  by_cases hbig : l.length ≤ 1000000
  · have hsz' : ¬ (1000000 - (l.length : Int) < 0) := by omega
    rw [if_neg hsz'] at hsz
    obtain ⟨t1, t2⟩ := tmL_ok (x := x) (y := y) hw
    obtain ⟨x1, G1, rs, G1', x2, G2, ri, G2', x3, G3, G4, G5, x4, G6, r4, G7, q1, w1, q2, w2, e1, q3, i1, m2, e3, n5, d1, q4, w3, e4, d2, P7⟩ := lsx_any (to := 191) (it := 194) (mA := 195) (sp := 190) (im := 192) (extra := [.int .i64 x, .int .i64 y]) hs hbig (scC_length hw) (fc := lyC lyF) rfl
      (fun G h => call191 h hw hbig) (fun G y z h h' => call194 (pu := true) h h' hw hbig) (fun G y h => call190 (pu := true) hw hbig h) (fun G y h => call192 (pu := true) hw hbig h) (eqSc t2 (by omega)) mark195 mark195 held196 (by omega)
    have hneg : ¬ ((101 : Int) + (((tmL l x y).length * 27 : Nat) : Int) < 0) := by omega
    have hneg2 : ¬ ((101 : Int) + ((l.length * 27 : Nat) : Int) < 0) := by omega
    simp [c35, k35, hsz, hsz', wbOf, q1, w1, q2, w2, e1, q3, i1, m2, e3, n5, d1, q4, w3, e4, d2, hneg, hneg2, skip, P7.take, -Int.natCast_add, -Int.natCast_mul]
  · have hsz' : 1000000 - (l.length : Int) < 0 := by omega
    rw [if_pos hsz'] at hsz
    simp [c35, k35, hsz]
end Fb
