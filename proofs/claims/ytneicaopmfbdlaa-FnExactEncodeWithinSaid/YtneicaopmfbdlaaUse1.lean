/- What each function computes. -/
import Derived.Test.YtneicaopmfbdlaaUse0
set_option linter.unusedVariables false
set_option linter.unusedSimpArgs false
namespace Fb
open Go
theorem rowN_bit {q : Nat → Bool} {m x : Nat} : (rowN q m).testBit x = (decide (x < m) && q x) := by
  induction m with
  | zero => simp [rowN, itN_zero]
  | succ m ih =>
    rw [rowN_succ, Nat.testBit_or, ih]
    by_cases h : x = m
    · subst h
      cases hq : q x <;> simp
    · have h2 : decide (x < m + 1) = decide (x < m) := by apply decide_eq_decide.2; omega
      rw [h2]
      cases hq : q m
      · simp
      · simp [Nat.testBit_two_pow]; omega
theorem rowN_lt {q : Nat → Bool} {m : Nat} : rowN q m < 2 ^ m := by
  apply Nat.lt_pow_two_of_testBit
  intro i hi
  rw [rowN_bit]
  simp; omega
theorem rowN_eq {q : Nat → Bool} {n m : Nat} (hn : n < 2 ^ m) (h : ∀ x, x < m → n.testBit x = q x) : n = rowN q m := by
  apply Nat.eq_of_testBit_eq
  intro x
  rw [rowN_bit]
  by_cases hx : x < m
  · rw [h x hx]; simp [hx]
  · simp [hx]
    exact Nat.testBit_lt_two_pow (Nat.lt_of_lt_of_le hn (Nat.pow_le_pow_right (by omega) (by omega)))
/-- A frame from its dots. -/
def dotsF (p : Nat → Nat → Bool) : List Int := tabN 12 fun y => ((rowN (fun x => p x y) 12 : Nat) : Int)
theorem dotsF_length {p : Nat → Nat → Bool} : (dotsF p).length = 12 := by simp [dotsF, tabN]
theorem dotsF_nth {p : Nat → Nat → Bool} {y : Nat} (hy : y < 12) : nth (dotsF p) y = ((rowN (fun x => p x y) 12 : Nat) : Int) := nth_tabN hy
theorem dotsF_W {p : Nat → Nat → Bool} : FrW (dotsF p) := ⟨dotsF_length, fun n hn => by
  obtain ⟨i, hi, rfl⟩ := List.getElem_of_mem hn
  rw [dotsF_length] at hi
  have h1 := dotsF_nth (p := p) hi
  have h2 := rowN_lt (q := fun x => p x i) (m := 12)
  rw [nth_of (List.getElem?_eq_getElem (by rw [dotsF_length]; exact hi))] at h1
  rw [h1]; simp only [u16']; omega⟩
theorem dotsF_ok {p : Nat → Nat → Bool} : okF (dotsF p) = true := by
  apply List.all_eq_true.2
  intro n hn
  obtain ⟨i, hi, rfl⟩ := List.getElem_of_mem hn
  rw [dotsF_length] at hi
  have h1 := dotsF_nth (p := p) hi
  have h2 := rowN_lt (q := fun x => p x i) (m := 12)
  rw [nth_of (List.getElem?_eq_getElem (by rw [dotsF_length]; exact hi))] at h1
  rw [h1]; simp only [okRow, decide_eq_true_eq]; omega
theorem list12 {f g : List Int} (hf : f.length = 12) (hg : g.length = 12) (h : ∀ y, y < 12 → nth f y = nth g y) : f = g := by
  apply List.ext_getElem (by omega)
  intro i h1 h2
  have := h i (by omega)
  rw [nth_of (List.getElem?_eq_getElem h1), nth_of (List.getElem?_eq_getElem h2)] at this
  exact this
theorem dotsF_congr {p q : Nat → Nat → Bool} (h : ∀ x y, x < 12 → y < 12 → p x y = q x y) : dotsF p = dotsF q := by
  refine list12 dotsF_length dotsF_length fun y hy => ?_
  rw [dotsF_nth hy, dotsF_nth hy]
  congr 1
  apply rowN_eq rowN_lt
  intro x hx
  rw [rowN_bit]; simp [hx, h x y hx hy]
theorem dotsF_none : dotsF (fun _ _ => false) = zr 12 0 := by
  refine list12 dotsF_length (by simp) fun y hy => ?_
  rw [dotsF_nth hy, nth_zr]
  have : rowN (fun _ => false) 12 = 0 := (rowN_eq (by decide) fun x hx => by simp).symm
  simp [this]
/-- The dots of a frame that has been moved. -/
def mvP (f : List Int) (dx dy : Int) (x y : Nat) : Bool := decide (0 ≤ (x : Int) - dx ∧ (x : Int) - dx < 12 ∧ 0 ≤ (y : Int) - dy ∧ (y : Int) - dy < 12) && hasF f ((x : Int) - dx).toNat ((y : Int) - dy).toNat
def shF (f : List Int) (dx dy : Int) : List Int := dotsF (mvP f dx dy)
/- The rows, moved at once. -/
theorem and_4095 {n : Nat} (h : n ≤ 65535) : bitsOf .and .u16 (n : Int) 4095 = ((n % 4096 : Nat) : Int) := by
  have e0 : IntKind.bits .u16 = 16 := rfl
  unfold bitsOf
  simp only []
  have e1 : (BitVec.ofInt (IntKind.bits .u16) (n : Int) &&& BitVec.ofInt (IntKind.bits .u16) 4095).toNat = n % 4096 := by
    have e2 : n % 2 ^ 16 = n := Nat.mod_eq_of_lt (by omega)
    rw [BitVec.toNat_and, e0, BitVec.ofInt_natCast, BitVec.toNat_ofNat, show (BitVec.ofInt 16 4095).toNat = 2 ^ 12 - 1 from rfl, e2, Nat.and_two_pow_sub_one_eq_mod]
  rw [e1, wrapu16 (by omega)]
theorem shl_nat {n d : Nat} (hd : d ≤ 12) : shiftOf .shl .u16 (n : Int) (d : Int) = some (.int .u16 ((n * 2 ^ d % 65536 : Nat) : Int)) := by
  unfold shiftOf
  rw [if_neg (by omega)]
  have e1 : min ((d : Int).toNat) (IntKind.bits .u16) = d := by
    have : IntKind.bits .u16 = 16 := rfl
    omega
  simp only [e1]
  have e2 : (n : Int) * 2 ^ d = ((n * 2 ^ d : Nat) : Int) := by simp
  rw [e2]
  show some (Value.int .u16 (((n * 2 ^ d : Nat) : Int) % 65536)) = _
  congr 2
theorem shr_nat {n d : Nat} (hd : d ≤ 12) : shiftOf .shr .u16 (n : Int) (d : Int) = some (.int .u16 ((n / 2 ^ d : Nat) : Int)) := by
  unfold shiftOf
  rw [if_neg (by omega)]
  have e1 : min ((d : Int).toNat) (IntKind.bits .u16) = d := by
    have : IntKind.bits .u16 = 16 := rfl
    omega
  simp only [e1]
  have e2 : (2 : Int) ^ d = ((2 ^ d : Nat) : Int) := by simp
  rw [e2, Int.fdiv_eq_ediv_of_nonneg _ (Int.natCast_nonneg _), ← Int.natCast_ediv]
/-- One row of a frame that has been moved. -/
def mvR (f : List Int) (dx dy : Int) (y : Nat) : Int := nth (shF f dx dy) y
theorem mvR_shl {f : List Int} {d y n : Nat} {dy : Int} (hy : y < 12) (hsy : 0 ≤ (y : Int) - dy ∧ (y : Int) - dy < 12) (hn : nth f ((y : Int) - dy).toNat = n) : mvR f d dy y = ((n * 2 ^ d % 4096 : Nat) : Int) := by
  rw [mvR, shF, dotsF_nth hy]
  congr 1
  refine (rowN_eq (m := 12) (Nat.mod_lt _ (by decide)) fun x hx => ?_).symm
  rw [Nat.testBit_mod_two_pow, Nat.testBit_mul_two_pow]
  rw [Bool.eq_iff_iff]
  simp only [mvP, hasF, hn, dotB_bit, Bool.and_eq_true, decide_eq_true_eq]
  constructor
  · rintro ⟨_, h1, h2⟩
    refine ⟨by omega, ?_⟩
    rw [show ((x : Int) - d).toNat = x - d by omega]; exact h2
  · rintro ⟨h1, h2⟩
    refine ⟨hx, by omega, ?_⟩
    rw [show ((x : Int) - d).toNat = x - d by omega] at h2; exact h2
theorem mvR_shr {f : List Int} {d y n : Nat} {dy : Int} (hy : y < 12) (hsy : 0 ≤ (y : Int) - dy ∧ (y : Int) - dy < 12) (hn : nth f ((y : Int) - dy).toNat = n) (hlt : n < 4096) : mvR f (-(d : Int)) dy y = ((n / 2 ^ d : Nat) : Int) := by
  rw [mvR, shF, dotsF_nth hy]
  congr 1
  refine (rowN_eq (m := 12) (Nat.lt_of_le_of_lt (Nat.div_le_self _ _) hlt) fun x hx => ?_).symm
  rw [Nat.testBit_div_two_pow]
  rw [Bool.eq_iff_iff]
  simp only [mvP, hasF, hn, dotB_bit, Bool.and_eq_true, decide_eq_true_eq]
  have e1 : ((x : Int) - -(d : Int)).toNat = x + d := by omega
  rw [e1]
  constructor
  · intro h2
    refine ⟨?_, h2⟩
    have : ¬ (12 ≤ x + d) := fun h => by
      have := Nat.testBit_lt_two_pow (x := n) (i := x + d) (Nat.lt_of_lt_of_le hlt (Nat.pow_le_pow_right (n := 2) (by omega) h))
      rw [this] at h2; cases h2
    omega
  · rintro ⟨_, h2⟩
    exact h2
theorem mvR_off {f : List Int} {dx dy : Int} {y : Nat} (hy : y < 12) (h : ¬ (0 ≤ (y : Int) - dy ∧ (y : Int) - dy < 12)) : mvR f dx dy y = 0 := by
  rw [mvR, shF, dotsF_nth hy]
  have : rowN (fun x => mvP f dx dy x y) 12 = 0 := (rowN_eq (by decide) fun x hx => by
    simp only [mvP]
    rw [decide_eq_false (by omega)]; simp).symm
  rw [this]; rfl
theorem shF_far {f : List Int} {dx dy : Int} (h : ¬ (-12 ≤ dx ∧ dx ≤ 12)) : shF f dx dy = zr 12 0 := by
  rw [← dotsF_none]
  apply dotsF_congr
  intro x y hx hy
  simp only [mvP]
  rw [decide_eq_false (by omega)]; simp
/-- A moved frame, made so far. -/
def shU (f : List Int) (dx dy : Int) (k : Nat) : List Int := tabN 12 fun y => if y < k then mvR f dx dy y else 0
theorem shU_zero {f : List Int} {dx dy : Int} : shU f dx dy 0 = zr 12 0 :=
  (tabN_of (by simp) fun i _ => by rw [nth_zr]; simp).symm
theorem shU_all {f : List Int} {dx dy : Int} : shU f dx dy 12 = shF f dx dy :=
  (tabN_of (by rw [shF, dotsF_length]) fun i hi => by rw [if_pos hi]; rfl).symm
theorem shU_length {f : List Int} {dx dy : Int} {k : Nat} : (shU f dx dy k).length = 12 := tabN_length
theorem shU_set {f : List Int} {dx dy : Int} {k : Nat} (hk : k < 12) {v : Int} (hv : mvR f dx dy k = v) : (shU f dx dy k).set k v = shU f dx dy (k + 1) :=
  tabN_set hk (by rw [if_pos (by omega), hv]) fun i _ hi => by
    by_cases h : i < k
    · rw [if_pos h, if_pos (by omega)]
    · rw [if_neg h, if_neg (by omega)]
theorem shU_skip {f : List Int} {dx dy : Int} {k : Nat} (hk : k < 12) (h0 : mvR f dx dy k = 0) : shU f dx dy k = shU f dx dy (k + 1) :=
  tabN_ext fun i _ => by
    by_cases h : i < k
    · rw [if_pos h, if_pos (by omega)]
    · by_cases h2 : i = k
      · subst h2; rw [if_neg h, if_pos (by omega), h0]
      · rw [if_neg h, if_neg (by omega)]
theorem shF_length {f : List Int} {dx dy : Int} : (shF f dx dy).length = 12 := dotsF_length
theorem call358 {pu : Bool} {H : Heap} {f : List Int} {dx dy : Int} (hw : FrW f) (hk : okF f = true) (hx : -1000 ≤ dx ∧ dx ≤ 1000) (hy : -1000 ≤ dy ∧ dy ≤ 1000) : Call tab pu 358 [iv .u16 f, .int .i64 dx, .int .i64 dy] H = some (iv .u16 (shF f dx dy), H) := by
  refine Call_wp t358 (.inr rfl) rfl ?_
  have hl := hw.len
  have hz := stc_zr (k := .u16) (n := 12) (l := zr 12 0) (by simp)
  have hz2 := stc_zr (k := .u16) (n := 12) (l := shF f dx dy) shF_length
  cases hb : in1 dx (-12) 12 with
  | false =>
    have hf : shF f dx dy = zr 12 0 := shF_far (by simpa [in1] using hb)
    simp [c358, k358, zs_cs, agg_cs, fill, hz, in295, hb, hf]
  | true =>
    have hb' : -12 ≤ dx ∧ dx ≤ 12 := by simpa [in1] using hb
    simp [c358, k358, zs_cs, agg_cs, fill, hz, in295, hb]
    refine WP_forH 15 12 12 rfl (by omega) (fun i e => e 1 = .int .i64 dx ∧ e 2 = .int .i64 dy ∧ e 3 = iv .u16 f ∧ e 6 = iv .u16 (zr 12 0) ∧ e 7 = iv .u16 (shU f dx dy i)) ?_ ?_ (by simp) (by simp [shU_zero])
    · rintro y e hy12 hyy e4 h15 ⟨h1, h2, h3, h6, h7⟩
      have u1 : IntKind.wrap .i64 ((y : Int) - dy) = (y : Int) - dy := wrap64 (by omega)
      cases hs : in1 ((y : Int) - dy) 0 11 with
      | false =>
        have h0 := mvR_off (f := f) (dx := dx) (dy := dy) hy12 (by simp only [in1, decide_eq_false_iff_not] at hs; omega)
        have hsk := shU_skip hy12 h0
        simp [b358_1, h15, h1, h2, h3, h6, h7, hyy, u1, in295, hs, e4, hsk]
      | true =>
        have hs' : 0 ≤ (y : Int) - dy ∧ (y : Int) - dy < 12 := by simp only [in1, decide_eq_true_eq] at hs; omega
        obtain ⟨m, hm⟩ : ∃ m : Nat, (y : Int) - dy = m := ⟨((y : Int) - dy).toNat, by omega⟩
        have hm12 : m < 12 := by omega
        obtain ⟨n, hn, hn4⟩ := okF_row hk hw hm12
        have hn' : nth f ((y : Int) - dy).toNat = n := by rw [hm]; exact hn
        rw [hm] at hs u1
        have hlu := shU_length (f := f) (dx := dx) (dy := dy) (k := y)
        by_cases hd : 0 ≤ dx
        · obtain ⟨d, rfl⟩ := Int.eq_ofNat_of_zero_le hd
          have hd12 : d ≤ 12 := by omega
          have hv := mvR_shl (f := f) (d := d) (dy := dy) hy12 hs' hn'
          have hst := shU_set hy12 hv
          have q1 := shl_nat (n := n) hd12
          have q2 := and_4095 (n := n * 2 ^ d % 65536) (by omega)
          rw [Nat.mod_mod_of_dvd _ (by decide)] at q2
          have e9 := stc_at (k := .u16) (l := shU f d dy y) (by omega) hst
          simp (disch := omega) [b358_1, h15, h1, h2, h3, h6, h7, hyy, u1, hm, in295, hs, hm12, hl, hn, q1, q2, hy12, hlu, e9, e4, -Int.natCast_emod, -Int.natCast_mul, -Int.natCast_pow]
        · obtain ⟨d, rfl⟩ : ∃ d : Nat, dx = -(d : Int) := ⟨(-dx).toNat, by omega⟩
          have hd12 : d ≤ 12 := by omega
          have hv := mvR_shr (f := f) (d := d) (dy := dy) hy12 hs' hn' hn4
          have hst := shU_set hy12 hv
          have q1 := shr_nat (n := n) hd12
          have e9 := stc_at (k := .u16) (l := shU f (-(d : Int)) dy y) (by omega) hst
          have u2 : IntKind.wrap .i64 (d : Int) = (d : Int) := wrap64 (by omega)
          have hd0 : ¬ d = 0 := by omega
          simp (disch := omega) [b358_1, h15, h1, h2, h3, h6, h7, hyy, u1, hm, in295, hs, hm12, hl, hn, hd0, q1, u2, hy12, hlu, e9, e4, -Int.natCast_ediv, -Int.natCast_pow]
    · rintro e h15 ⟨h1, h2, h3, h6, h7⟩
      rw [shU_all] at h7
      simp [b358_1, h15, h6, h7, hz2, shF_length, agg_cs]
theorem zr_ok : FrW (zr 12 0) ∧ okF (zr 12 0) = true := by rw [← dotsF_none]; exact ⟨dotsF_W, dotsF_ok⟩
theorem xor_nat {a b : Nat} (ha : a < 65536) (hb : b < 65536) : xorI (a : Int) (b : Int) = ((a ^^^ b : Nat) : Int) := by
  have e0 : IntKind.bits .u16 = 16 := rfl
  unfold xorI bitsOf
  simp only []
  have hl : a ^^^ b < 2 ^ 16 := Nat.xor_lt_two_pow ha hb
  have e1 : (BitVec.ofInt (IntKind.bits .u16) (a : Int) ^^^ BitVec.ofInt (IntKind.bits .u16) (b : Int)).toNat = a ^^^ b := by
    rw [BitVec.toNat_xor, e0, BitVec.ofInt_natCast, BitVec.ofInt_natCast, BitVec.toNat_ofNat, BitVec.toNat_ofNat, Nat.mod_eq_of_lt (by omega), Nat.mod_eq_of_lt (by omega)]
  rw [e1, wrapu16 (by omega)]
theorem xor_zero {a b : Int} (ha : u16' a) (hb : u16' b) : (xorI a b != 0) = (a != b) := by
  obtain ⟨m, rfl⟩ := Int.eq_ofNat_of_zero_le ha.1
  obtain ⟨n, rfl⟩ := Int.eq_ofNat_of_zero_le hb.1
  have h1 := ha.2
  have h2 := hb.2
  have e := xor_nat (a := m) (b := n) (by omega) (by omega)
  show (xorI (m : Int) (n : Int) != 0) = ((m : Int) != (n : Int))
  rw [e, Bool.eq_iff_iff]
  simp only [bne_iff_ne, ne_eq]
  have : m ^^^ n = 0 ↔ m = n := by
    constructor
    · intro h
      apply Nat.eq_of_testBit_eq
      intro i
      have h2 : (m ^^^ n).testBit i = false := by rw [h]; exact Nat.zero_testBit i
      rw [Nat.testBit_xor] at h2
      simpa using h2
    · rintro rfl
      exact Nat.xor_self m
  omega
def chgL (f g : List Int) (k : Nat) : List (Int × Int) := itN (fun y v => if (nth f y != nth g y) = true then v ++ [((y : Int), xorI (nth f y) (nth g y))] else v) [] k
theorem chgL_zero {f g : List Int} : chgL f g 0 = [] := itN_zero
theorem chgL_succ {f g : List Int} {k : Nat} : chgL f g (k + 1) = if (nth f k != nth g k) = true then chgL f g k ++ [((k : Int), xorI (nth f k) (nth g k))] else chgL f g k := itN_succ
theorem chgL_len {f g : List Int} {k : Nat} : (chgL f g k).length ≤ k := by
  induction k with
  | zero => simp [chgL_zero]
  | succ k ih =>
    rw [chgL_succ]
    split
    · simp; omega
    · omega
theorem chsC_push {l : List (Int × Int)} {m : Int × Int} : chsC l ++ chC m = chsC (l ++ [m]) := by rw [chsC, chsC, rowsC_app]; simp [rowsC]
theorem roomC4 {i : Nat} (h : i ≤ 1000000) : (i + 1) * 4 ≤ roomMax := by have : roomMax = 140737488355328 := rfl; omega
theorem call525 {pu : Bool} {H : Heap} {p o v q o' v' : Nat} {f g : List Int} (hf : FrW f) (hg : FrW g) (h1 : rd H p o v 12 = some (cs .u16 f)) (h2 : rd H q o' v' 12 = some (cs .u16 g)) :
    Call tab pu 525 [adr p o v, adr q o' v'] H = some (slc H.length 0 0 (chgL f g 12).length (chgL f g 12).length, H ++ [⟨chsC (chgL f g 12), 2, 0, false⟩]) := by
  refine Call_wp t525 (.inr rfl) rfl ?_
  simp [c525, k525, fill, rep]
  refine WP_count 6 12 12 rfl (fun i e G => e 0 = adr p o v ∧ e 1 = adr q o' v' ∧ ∃ x, e 5 = x ∧ Gr H G x 2 (chgL f g i).length (chsC (chgL f g i))) (by omega) ?_ ?_ (by simp) (by simp [chgL_zero, chsC, rowsC]; exact Gr.new .refl)
  · rintro i e G _ hi hii e4 h6 ⟨h0, h1e, x, h5, hx⟩
    have r1 := rd_one (hx.pre.rd h1) hi
    have r2 := rd_one (hx.pre.rd h2) hi
    have hl := chgL_len (f := f) (g := g) (k := i)
    have hs := chgL_succ (f := f) (g := g) (k := i)
    have w1 : IntKind.wrap .i8 (i : Int) = i := wrap8 (by omega)
    cases hd : nth f i != nth g i with
    | false =>
      rw [hd, if_neg (by decide)] at hs
      simp [b525_1, h6, h0, h1e, h5, hii, hi, r1, r2, hd, e4, hs]
      exact hx
    | true =>
      rw [hd, if_pos rfl] at hs
      obtain ⟨x', G', hpush, hx'⟩ := hx.push (c := chC ((i : Int), xorI (nth f i) (nth g i))) (bytes := 4) rfl (roomC4 (by omega)) (wb := false)
      rw [chsC_push, ← hs] at hx'
      have hgl : (chgL f g (i + 1)).length = (chgL f g i).length + 1 := by rw [hs]; simp
      rw [← hgl] at hx'
      have hfa : fill [.int .i8 0, .int .u16 0] [(0, 1, .int .i8 (i : Int)), (1, 1, .int .u16 (xorI (nth f i) (nth g i)))] = some (chC ((i : Int), xorI (nth f i) (nth g i))) := rfl
      have hf1 := fill_one (z := [.int .i8 0, .int .u16 0]) (v := agg (chC ((i : Int), xorI (nth f i) (nth g i)))) (esz := 2) rfl rfl
      simp [b525_1, h6, h0, h1e, h5, hii, hi, r1, r2, hd, w1, xorI_eq, hfa, hf1, hpush, wbOf, e4]
      exact hx'
  · rintro e G _ h6 ⟨h0, h1e, x, h5, hx⟩
    have hfin := hx.fin chsC_flat
    simp [b525_1, h6, h5, hfin]
theorem call528 {pu : Bool} {H : Heap} {f g : List Int} (hf : f.length = 12) (hg : g.length = 12) : Call tab pu 528 [iv .u16 f, iv .u16 g] H = some (.int .i64 (chgL f g 12).length, H) := by
  refine Call_wp t528 (.inr rfl) rfl ?_
  simp [c528, k528, hf]
  refine WP_forH 9 12 12 rfl (by omega) (fun i e => e 3 = iv .u16 g ∧ e 8 = iv .u16 f ∧ e 5 = .int .i64 (chgL f g i).length) ?_ ?_ (by simp) (by simp [chgL_zero])
  · rintro i e hi hii e4 h9 ⟨h3, h8, h5⟩
    have hl := chgL_len (f := f) (g := g) (k := i)
    have hs := chgL_succ (f := f) (g := g) (k := i)
    cases hd : nth f i != nth g i with
    | false =>
      rw [hd, if_neg (by decide)] at hs
      simp [b528_1, h9, h3, h8, h5, hii, hi, hf, hg, hd, e4, hs]
    | true =>
      rw [hd, if_pos rfl] at hs
      have e5 : IntKind.wrap .i64 (((chgL f g i).length : Int) + 1) = ((chgL f g i).length : Int) + 1 := wrap64 (by omega)
      simp [b528_1, h9, h3, h8, h5, hii, hi, hf, hg, hd, e5, e4, hs]
  · rintro e h9 ⟨h3, h8, h5⟩
    simp [b528_1, h9, h5]
/-- A list that has grown, or is none yet. -/
def GrN (H G : Heap) (x : Value) (esz n : Nat) (vs : List Value) : Prop := Gr H G x esz n vs ∨ (x = .slice none 0 0 ∧ n = 0 ∧ vs = [] ∧ Pre H G)
theorem GrN.pre {H G : Heap} {x : Value} {esz n : Nat} {vs : List Value} (g : GrN H G x esz n vs) : Pre H G := by
  rcases g with g | ⟨_, _, _, p⟩
  · exact g.pre
  · exact p
theorem GrN.sl {H G : Heap} {x : Value} {esz n : Nat} {vs : List Value} (g : GrN H G x esz n vs) : SlR G x esz n vs := by
  rcases g with g | ⟨rfl, rfl, rfl, _⟩
  · exact g.sl
  · exact ⟨by simp, .inl ⟨rfl, rfl⟩⟩
theorem GrN.push {H G : Heap} {x : Value} {esz n bytes : Nat} {vs c : List Value} (g : GrN H G x esz n vs) (hc : c.length = esz) (hb : (n + 1) * bytes ≤ roomMax) {wb : Bool} :
    ∃ x' G', ((srcOf esz (G ++ [⟨c, esz, 0, false⟩]) (slc G.length 0 0 1 1)).bind fun q => appendTo H.length wb esz bytes (G ++ [⟨c, esz, 0, false⟩]) x q.1 q.2) = some (x', G') ∧ GrN H G' x' esz (n + 1) (vs ++ c) := by
  rcases g with g | ⟨rfl, rfl, rfl, p⟩
  · obtain ⟨x', G', h1, h2⟩ := g.push hc hb (wb := wb)
    exact ⟨x', G', h1, .inl h2⟩
  · have e1 : srcOf esz (G ++ [⟨c, esz, 0, false⟩]) (slc G.length 0 0 1 1) = some (1, c) := by
      show (rd (G ++ [⟨c, esz, 0, false⟩]) G.length 0 0 (1 * esz)).map (fun cs => (1, cs)) = _
      rw [Nat.one_mul, rd_last rfl (by simpa using hc)]; rfl
    refine ⟨slc (G ++ [(⟨c, esz, 0, false⟩ : Blk)]).length 0 0 1 1, G ++ [(⟨c, esz, 0, false⟩ : Blk)] ++ [⟨c, esz, 0, false⟩], ?_, .inl ⟨_, 0, rfl, get_last, ?_, by simp [hc], (p.app).app⟩⟩
    · rw [e1, Option.bind_some]
      unfold appendTo
      simp only []
      rw [if_neg (by decide), if_pos (by simpa using hb)]
    · have := p.len
      simp; omega
/-- A step's rows, of its own. -/
theorem call527 {pu : Bool} {H : Heap} {f g : List Int} {a b c d : Int} {y0 : Value} (hf : FrW f) (hg : FrW g) :
    ∃ r, Call tab pu 527 [agg [.int .i8 a, .int .i8 b, .int .i8 c, .int .i8 d, y0], iv .u16 f, iv .u16 g] H = some r ∧ ∃ y G, r = (agg [.int .i8 a, .int .i8 b, .int .i8 c, .int .i8 d, y], G) ∧ GrN H G y 2 (chgL f g 12).length (chsC (chgL f g 12)) := by
  refine Call_ex t527 (.inr rfl) rfl ?_
  have hm : (mixF xorI f g).length = 12 := mixF_length
  simp [c527, k527, stc5e, ldc5, stc5, call367 hf.len hg.len, hf.len, hg.len]
  refine WP_count 13 12 12 rfl (fun i e G => e 12 = iv .u16 (mixF xorI f g) ∧ e 6 = agg [.int .i8 0, .int .i8 0, .int .i8 0, .int .i8 0, .slice none 0 0] ∧ ∃ y, e 3 = agg [.int .i8 a, .int .i8 b, .int .i8 c, .int .i8 d, y] ∧ GrN H G y 2 (chgL f g i).length (chsC (chgL f g i))) (by omega) ?_ ?_ (by simp) ⟨by simp, by simp, .slice none 0 0, by simp, .inr ⟨rfl, by simp [chgL_zero], by simp [chgL_zero, chsC, rowsC], .refl⟩⟩
  · rintro i e G _ hi hii e4 h13 ⟨h12, h6, y, h3, hy⟩
    have hn : nth (mixF xorI f g) i = xorI (nth f i) (nth g i) := nth_tabN hi
    have hl := chgL_len (f := f) (g := g) (k := i)
    have hs := chgL_succ (f := f) (g := g) (k := i)
    have w1 : IntKind.wrap .i8 (i : Int) = i := wrap8 (by omega)
    have hxz := xor_zero (hf.nth hi) (hg.nth hi)
    cases hd : nth f i != nth g i with
    | false =>
      rw [hd] at hxz
      rw [hd, if_neg (by decide)] at hs
      simp [b527_1, h13, h12, h6, h3, hii, hi, hm, hn, hxz, e4, hs]
      exact ⟨y, rfl, hy⟩
    | true =>
      rw [hd] at hxz
      rw [hd, if_pos rfl] at hs
      obtain ⟨x', G', hpush, hx'⟩ := hy.push (c := chC ((i : Int), xorI (nth f i) (nth g i))) (bytes := 4) rfl (roomC4 (by omega)) (wb := false)
      rw [chsC_push, ← hs] at hx'
      have hgl : (chgL f g (i + 1)).length = (chgL f g i).length + 1 := by rw [hs]; simp
      rw [← hgl] at hx'
      have hcx : cellsOf x' = [x'] := by
        rcases hx' with ⟨_, _, rfl, _⟩ | ⟨rfl, _⟩ <;> rfl
      have hfa : fill [.int .i8 0, .int .u16 0] [(0, 1, .int .i8 (i : Int)), (1, 1, .int .u16 (xorI (nth f i) (nth g i)))] = some (chC ((i : Int), xorI (nth f i) (nth g i))) := rfl
      have hf1 := fill_one (z := [.int .i8 0, .int .u16 0]) (v := agg (chC ((i : Int), xorI (nth f i) (nth g i)))) (esz := 2) rfl rfl
      simp [b527_1, h13, h12, h6, h3, hii, hi, hm, hn, hxz, w1, ldc5e, stc5e, hcx, hfa, hf1, hpush, wbOf, e4]
      exact ⟨_, rfl, hx'⟩
  · rintro e G _ h13 ⟨h12, h6, y, h3, hy⟩
    rcases hy with hy | ⟨rfl, e1, e2, p⟩
    · have ho : old0 H.length y = false := by
        obtain ⟨b, ver, rfl, _, h, _⟩ := hy
        rw [old0_slc]; simp; omega
      have hfin := finish_keep (n0 := H.length) (G := G) (l := [.int .i8 a, .int .i8 b, .int .i8 c, .int .i8 d, y]) (by simp [ho])
      simp [b527_1, h13, h6, h3, ldc5, stc5, hfin]
      exact ⟨_, _, ⟨rfl, rfl⟩, _, _, ⟨rfl, rfl⟩, .inl hy⟩
    · have hfin : finish H.length G [agg [.int .i8 a, .int .i8 b, .int .i8 c, .int .i8 d, .slice none 0 0]] = (agg [.int .i8 a, .int .i8 b, .int .i8 c, .int .i8 d, .slice none 0 0], G.take H.length) := fin_agg rfl
      rw [p.take] at hfin
      simp [b527_1, h13, h6, h3, ldc5, stc5, hfin]
      exact ⟨_, _, ⟨rfl, rfl⟩, _, _, ⟨rfl, rfl⟩, .inr ⟨rfl, e1, e2, .refl⟩⟩
theorem call526 {pu : Bool} {H : Heap} {q off ver : Nat} {f : List Int} {dx dy : Int} (hw : FrW f) (hk : okF f = true) (hr : rd H q off ver 12 = some (cs .u16 f)) (hb' : -12 ≤ dx ∧ dx ≤ 12) (hy : -12 ≤ dy ∧ dy ≤ 12) :
    Call tab pu 526 [adr q off ver, .int .i64 dx, .int .i64 dy] H = some (iv .u16 (shF f dx dy), H) := by
  refine Call_wp t526 (.inr rfl) rfl ?_
  have hl := hw.len
  have hz := stc_zr (k := .u16) (n := 12) (l := zr 12 0) (by simp)
  have hz2 := stc_zr (k := .u16) (n := 12) (l := shF f dx dy) shF_length
  simp [c526, k526, zs_cs, agg_cs, fill, hz]
  refine WP_forH 8 12 12 rfl (by omega) (fun i e => e 0 = adr q off ver ∧ e 1 = .int .i64 dx ∧ e 2 = .int .i64 dy ∧ e 6 = iv .u16 (zr 12 0) ∧ e 7 = iv .u16 (shU f dx dy i)) ?_ ?_ (by simp) (by simp [shU_zero])
  · rintro y e hy12 hyy e4 h15 ⟨h0, h1, h2, h6, h7⟩
    have u1 : IntKind.wrap .i64 ((y : Int) - dy) = (y : Int) - dy := wrap64 (by omega)
    cases hs : in1 ((y : Int) - dy) 0 11 with
    | false =>
      have h0' := mvR_off (f := f) (dx := dx) (dy := dy) hy12 (by simp only [in1, decide_eq_false_iff_not] at hs; omega)
      have hsk := shU_skip hy12 h0'
      simp [b526_1, h15, h0, h1, h2, h6, h7, hyy, u1, in304, hs, e4, hsk]
    | true =>
      have hs' : 0 ≤ (y : Int) - dy ∧ (y : Int) - dy < 12 := by simp only [in1, decide_eq_true_eq] at hs; omega
      obtain ⟨m, hm⟩ : ∃ m : Nat, (y : Int) - dy = m := ⟨((y : Int) - dy).toNat, by omega⟩
      have hm12 : m < 12 := by omega
      obtain ⟨n, hn, hn4⟩ := okF_row hk hw hm12
      have hn' : nth f ((y : Int) - dy).toNat = n := by rw [hm]; exact hn
      rw [hm] at hs u1
      have hlu := shU_length (f := f) (dx := dx) (dy := dy) (k := y)
      have hr1 := rd_one hr hm12
      rw [hn] at hr1
      by_cases hd : 0 ≤ dx
      · obtain ⟨d, rfl⟩ := Int.eq_ofNat_of_zero_le hd
        have hd12 : d ≤ 12 := by omega
        have hv := mvR_shl (f := f) (d := d) (dy := dy) hy12 hs' hn'
        have hst := shU_set hy12 hv
        have q1 := shl_nat (n := n) hd12
        have q2 := and_4095 (n := n * 2 ^ d % 65536) (by omega)
        rw [Nat.mod_mod_of_dvd _ (by decide)] at q2
        have u3 : IntKind.wrap .u64 (d : Int) = (d : Int) := by
          show (d : Int) % 18446744073709551616 = d
          omega
        have e9 := stc_at (k := .u16) (l := shU f d dy y) (by omega) hst
        simp (disch := omega) [b526_1, h15, h0, h1, h2, h6, h7, hyy, u1, hm, in304, hs, hm12, hr1, q1, q2, u3, hy12, hlu, e9, e4, -Int.natCast_emod, -Int.natCast_mul, -Int.natCast_pow]
      · obtain ⟨d, rfl⟩ : ∃ d : Nat, dx = -(d : Int) := ⟨(-dx).toNat, by omega⟩
        have hd12 : d ≤ 12 := by omega
        have hv := mvR_shr (f := f) (d := d) (dy := dy) hy12 hs' hn' hn4
        have hst := shU_set hy12 hv
        have q1 := shr_nat (n := n) hd12
        have e9 := stc_at (k := .u16) (l := shU f (-(d : Int)) dy y) (by omega) hst
        have u2 : IntKind.wrap .i64 (d : Int) = (d : Int) := wrap64 (by omega)
        have u3 : IntKind.wrap .u64 (d : Int) = (d : Int) := by
          show (d : Int) % 18446744073709551616 = d
          omega
        have hd0 : ¬ d = 0 := by omega
        simp (disch := omega) [b526_1, h15, h0, h1, h2, h6, h7, hyy, u1, hm, in304, hs, hm12, hr1, hd0, q1, u2, u3, hy12, hlu, e9, e4, -Int.natCast_ediv, -Int.natCast_pow]
  · rintro e h15 ⟨h0, h1, h2, h6, h7⟩
    rw [shU_all] at h7
    simp [b526_1, h15, h6, h7, hz2, shF_length, agg_cs]
/-- The better of a step and a slide. -/
def stepB (f g : List Int) (base : Int) (s : Sted) (dx dy : Int) : Sted :=
  if (dx == 0 && dy == 0) = true then s else if 4 + 3 * ((chgL (shF f dx dy) g 12).length : Int) < stCost s then ⟨2, base, dx, dy, chgL (shF f dx dy) g 12⟩ else s
def inB (f g : List Int) (base dx : Int) (s : Sted) (k : Nat) : Sted := itN (fun j s => stepB f g base s dx ((j : Int) - 12)) s k
def outB (f g : List Int) (base : Int) (k : Nat) : Sted := itN (fun i s => inB f g base ((i : Int) - 12) s 25) ⟨1, base, 0, 0, chgL f g 12⟩ k
theorem inB_zero {f g : List Int} {base dx : Int} {s : Sted} : inB f g base dx s 0 = s := itN_zero
theorem inB_succ {f g : List Int} {base dx : Int} {s : Sted} {k : Nat} : inB f g base dx s (k + 1) = stepB f g base (inB f g base dx s k) dx ((k : Int) - 12) := itN_succ
theorem outB_zero {f g : List Int} {base : Int} : outB f g base 0 = ⟨1, base, 0, 0, chgL f g 12⟩ := itN_zero
theorem outB_succ {f g : List Int} {base : Int} {k : Nat} : outB f g base (k + 1) = inB f g base ((k : Int) - 12) (outB f g base k) 25 := itN_succ
def okS (s : Sted) : Prop := 0 ≤ s.a ∧ s.a ≤ 2 ∧ s.rows.length ≤ 12
theorem stepB_ok {f g : List Int} {base dx dy : Int} {s : Sted} (h : okS s) : okS (stepB f g base s dx dy) := by
  unfold stepB
  split
  · exact h
  · split
    · exact ⟨by simp only []; omega, by simp only []; omega, chgL_len⟩
    · exact h
theorem inB_ok {f g : List Int} {base dx : Int} {s : Sted} (h : okS s) {k : Nat} : okS (inB f g base dx s k) := by
  induction k with
  | zero => rw [inB_zero]; exact h
  | succ k ih => rw [inB_succ]; exact stepB_ok ih
theorem outB_ok {f g : List Int} {base : Int} {k : Nat} : okS (outB f g base k) := by
  induction k with
  | zero => rw [outB_zero]; exact ⟨by simp only []; omega, by simp only []; omega, chgL_len⟩
  | succ k ih => rw [outB_succ]; exact inB_ok ih
theorem inB_stop {f g : List Int} {base dx : Int} {s : Sted} (h : stCost s ≤ 4) {k : Nat} : inB f g base dx s k = s := by
  induction k with
  | zero => exact inB_zero
  | succ k ih =>
    rw [inB_succ, ih]
    unfold stepB
    split
    · rfl
    · rw [if_neg (by omega)]
theorem outB_stop {f g : List Int} {base : Int} {i k : Nat} (h : stCost (outB f g base i) ≤ 4) (hk : i ≤ k) : outB f g base k = outB f g base i := by
  induction k with
  | zero => obtain rfl : i = 0 := by omega
            rfl
  | succ k ih =>
    by_cases h1 : i = k + 1
    · rw [h1]
    · rw [outB_succ, ih (by omega), inB_stop h]
/-- A step in a block of its own. -/
structure StO (H G : Heap) (P : Nat) (s : Sted) (y : Value) : Prop where
  pre : Pre H G
  ge : H.length ≤ P
  blk : G[P]? = some ⟨stC s y, 1, 0, false⟩
  row : ∃ b, y = slc b 0 0 s.rows.length s.rows.length ∧ H.length ≤ b ∧ b ≠ P ∧ G[b]? = some ⟨chsC s.rows, 2, 0, false⟩
theorem StO.rw {H G : Heap} {P : Nat} {s : Sted} {y : Value} (h : StO H G P s y) : Rw G y s := by
  obtain ⟨b, rfl, _, _, hg⟩ := h.row
  exact ⟨chsC_length, .inr ⟨b, 0, 0, _, rfl, Nat.le_refl _, by rw [rd_at hg rfl (by simp only []; rw [chsC_length]; omega)]; simp only [List.drop_zero]; rw [List.take_of_length_le (by rw [chsC_length]; exact Nat.le_refl _)], _, hg, rfl, rfl⟩⟩
theorem StO.rd {H G : Heap} {P : Nat} {s : Sted} {y : Value} (h : StO H G P s y) : rd G P 0 0 5 = some (stC s y) := by
  rw [rd_at h.blk rfl (by simp [stC])]; rfl
theorem StO.app {H G G' : Heap} {P : Nat} {s : Sted} {y : Value} (p : Pre G G') (h : StO H G P s y) : StO H G' P s y := by
  refine ⟨h.pre.trans p, h.ge, by rw [p.get (List.getElem?_eq_some_iff.1 h.blk).1]; exact h.blk, ?_⟩
  obtain ⟨b, e, h1, h2, h3⟩ := h.row
  exact ⟨b, e, h1, h2, by rw [p.get (List.getElem?_eq_some_iff.1 h3).1]; exact h3⟩
theorem inner388 {H G : Heap} {f g : List Int} {q off ver q' off' ver' P : Nat} {base dx : Int} {s : Sted} {y : Value} (hw : FrW f) (hk : okF f = true) (hwg : FrW g) (hr : rd H q off ver 12 = some (cs .u16 f)) (hr' : rd H q' off' ver' 12 = some (cs .u16 g))
    (hb : 0 ≤ base ∧ base ≤ 39) (hdx : -12 ≤ dx ∧ dx ≤ 12) (hs : okS s) {fs : List Fr} {Q : Ex → Env → Heap → Prop} {e : Env}
    (h0 : e 0 = adr q off ver) (h1 : e 1 = adr q' off' ver') (h2 : e 2 = .int .i64 base) (h7 : e 7 = adr P 0 0) (h8 : e 8 = .int .i64 dx) (h9 : e 9 = .int .i64 (-12)) (hS : StO H G P s y)
    (hq : ∀ e' G' y', e' 0 = adr q off ver → e' 1 = adr q' off' ver' → e' 2 = .int .i64 base → e' 7 = adr P 0 0 → e' 8 = .int .i64 dx → StO H G' P (inB f g base dx s 25) y' → KK tab H.length false (.exit 2) fs e' G' Q) : WK tab H.length false (.loop b388_1) fs e G Q := by
  refine WK_loop (fun j e G => e 0 = adr q off ver ∧ e 1 = adr q' off' ver' ∧ e 2 = .int .i64 base ∧ e 7 = adr P 0 0 ∧ e 8 = .int .i64 dx ∧ e 9 = .int .i64 ((j : Int) - 12) ∧ ∃ y, StO H G P (inB f g base dx s j) y) 25 ?_ (Nat.zero_le _) ⟨h0, h1, h2, h7, h8, by rw [h9]; rfl, y, by rw [inB_zero]; exact hS⟩
  rintro j e G _ hj ⟨h0, h1, h2, h7, h8, h9, y, hS⟩
  by_cases hj25 : j = 25
  · subst hj25
    simp [b388_1, h9]
    exact hq _ _ y (by simp [h0]) (by simp [h1]) (by simp [h2]) (by simp [h7]) (by simp [h8]) hS
  have hle : (j : Int) - 12 ≤ 12 := by omega
  have e9 : IntKind.wrap .i64 ((j : Int) - 12 + 1) = ((j + 1 : Nat) : Int) - 12 := by rw [wrap64 (by omega)]; omega
  have hsucc := inB_succ (f := f) (g := g) (base := base) (dx := dx) (s := s) (k := j)
  have hok := inB_ok (f := f) (g := g) (base := base) (dx := dx) (k := j) hs
  generalize inB f g base dx s j = t at *
  cases hz : (dx == 0 && (j : Int) - 12 == 0) with
  | true =>
    rw [stepB, if_pos hz] at hsucc
    rw [Bool.and_eq_true] at hz
    have z1 := eq_of_beq hz.1
    have z2 := eq_of_beq hz.2
    obtain rfl : j = 12 := by omega
    subst z1
    have h9' : e 9 = .int .i64 0 := by rw [h9]; rfl
    simp [b388_1, h0, h1, h2, h7, h8, h9']
    exact ⟨y, by rw [show 12 + 1 = 13 from rfl] at hsucc; rw [hsucc]; exact hS⟩
  | false =>
    rw [stepB, if_neg (by rw [hz]; decide)] at hsucc
    obtain ⟨F, hF⟩ : ∃ F, F = shF f dx ((j : Int) - 12) := ⟨_, rfl⟩
    have hFW : FrW F := by rw [hF]; exact dotsF_W
    have h526 := call526 (pu := true) (dx := dx) (dy := (j : Int) - 12) hw hk (hS.pre.rd hr) hdx (by omega)
    rw [← hF] at h526 hsucc
    obtain ⟨L, hL⟩ : ∃ L, L = chgL F g 12 := ⟨_, rfl⟩
    have hL12 : L.length ≤ 12 := by rw [hL]; exact chgL_len
    rw [← hL] at hsucc
    obtain ⟨G1, hG1⟩ : ∃ G1, G1 = G ++ [(⟨cs .u16 F, 1, 0, false⟩ : Blk)] := ⟨_, rfl⟩
    have hwr : wr H.length false (G ++ [⟨cs .u16 (zr 12 0), 1, 0, false⟩]) G.length 0 0 (cs .u16 F) = some G1 := by
      rw [wr_at get_last rfl rfl (by simp [may]; exact hS.pre.len) (by simp [hFW.len]), hG1]
      simp [splice, hFW.len]
    have p1 : Pre G G1 := by rw [hG1]; exact Pre.one
    obtain ⟨G2, hG2⟩ : ∃ G2, G2 = G1 ++ [(⟨chsC L, 2, 0, false⟩ : Blk)] := ⟨_, rfl⟩
    have hrF : rd G1 G.length 0 0 12 = some (cs .u16 F) := by rw [hG1]; exact rd_last rfl (by simp [hFW.len])
    have h525 := call525 (pu := true) hFW hwg hrF ((hS.pre.trans p1).rd hr')
    rw [← hL, ← hG2] at h525
    have p2 : Pre G G2 := p1.trans (by rw [hG2]; exact Pre.one)
    have S2 := hS.app p2
    have h310 := cost310 (pu := true) S2.rd S2.rw ⟨hok.1, hok.2.1⟩ (by have := hok.2.2; omega)
    have w3 : IntKind.wrap .i64 (3 * (L.length : Int)) = 3 * (L.length : Int) := wrap64 (by omega)
    have w4 : IntKind.wrap .i64 (4 + 3 * (L.length : Int)) = 4 + 3 * (L.length : Int) := wrap64 (by omega)
    have c1 : IntKind.wrap .i8 base = base := wrap8 (by omega)
    have c2 : IntKind.wrap .i8 dx = dx := wrap8 (by omega)
    have c3 : IntKind.wrap .i8 ((j : Int) - 12) = (j : Int) - 12 := wrap8 (by omega)
    have hlt : G.length < G1.length := by rw [hG1]; simp
    by_cases hc : 4 + 3 * (L.length : Int) < stCost t
    · rw [if_pos hc] at hsucc
      obtain ⟨y', hy'⟩ : ∃ y', y' = slc G1.length 0 0 L.length L.length := ⟨_, rfl⟩
      obtain ⟨G3, hG3⟩ : ∃ G3, G3 = G2.set P ⟨stC ⟨2, base, dx, (j : Int) - 12, L⟩ y', 1, 0, false⟩ := ⟨_, rfl⟩
      have hset : wr H.length false G2 P 0 0 [.int .i8 2, .int .i8 base, .int .i8 dx, .int .i8 ((j : Int) - 12), y'] = some G3 := by
        rw [wr_at S2.blk rfl rfl (by simp [may, S2.ge]) (by simp [stC]), hG3]
        rfl
      have hfa : fill [.int .i8 0, .int .i8 0, .int .i8 0, .int .i8 0, .slice none 0 0] [(0, 1, .int .i8 2), (1, 1, .int .i8 base), (2, 1, .int .i8 dx), (3, 1, .int .i8 ((j : Int) - 12)), (4, 1, y')] = some [.int .i8 2, .int .i8 base, .int .i8 dx, .int .i8 ((j : Int) - 12), y'] := by rw [hy']; rfl
      have hP1 : P < G.length := (List.getElem?_eq_some_iff.1 hS.blk).1
      have S3 : StO H G3 P ⟨2, base, dx, (j : Int) - 12, L⟩ y' := by
        rw [hG3]
        refine ⟨S2.pre.set S2.ge, S2.ge, get_set S2.blk, G1.length, hy', ?_, by omega, ?_⟩
        · have := hS.pre.len
          omega
        · rw [List.getElem?_set_ne (by omega), hG2]
          exact get_last
      have hln : lenV y' = some (.int .i64 L.length) := by rw [hy']; rfl
      rw [← hy'] at h525
      cases hx0 : dx == 0 with
      | true =>
        have hj0 : ((j : Int) - 12 == 0) = false := by rw [hx0] at hz; simpa using hz
        simp [b388_1, h0, h1, h2, h7, h8, h9, hle, hx0, hj0, h526, zs_cs, hwr, wbOf, hFW.len, h525, hln, w3, w4, h310, hc, c1, c2, c3, hfa, hset, e9]
        exact ⟨by omega, y', by rw [hsucc]; exact S3⟩
      | false =>
        simp [b388_1, h0, h1, h2, h7, h8, h9, hle, hx0, skip, h526, zs_cs, hwr, wbOf, hFW.len, h525, hln, w3, w4, h310, hc, c1, c2, c3, hfa, hset, e9]
        exact ⟨by omega, y', by rw [hsucc]; exact S3⟩
    · rw [if_neg hc] at hsucc
      cases hx0 : dx == 0 with
      | true =>
        have hj0 : ((j : Int) - 12 == 0) = false := by rw [hx0] at hz; simpa using hz
        simp [b388_1, h0, h1, h2, h7, h8, h9, hle, hx0, hj0, h526, zs_cs, hwr, wbOf, hFW.len, h525, w3, w4, h310, hc, e9]
        exact ⟨by omega, y, by rw [hsucc]; exact S2⟩
      | false =>
        simp [b388_1, h0, h1, h2, h7, h8, h9, hle, hx0, skip, h526, zs_cs, hwr, wbOf, hFW.len, h525, w3, w4, h310, hc, e9]
        exact ⟨by omega, y, by rw [hsucc]; exact S2⟩
/-- What a search for a step hands back. -/
def RsS (H : Heap) (r : Value × Heap) (s : Sted) : Prop := ∃ y G, r = (agg (stC s y), G) ∧ Pre H G ∧ GrN H G y 2 s.rows.length (chsC s.rows)
theorem call388 {pu : Bool} {H : Heap} {f g : List Int} {q off ver q' off' ver' : Nat} {base : Int} (hw : FrW f) (hk : okF f = true) (hwg : FrW g) (hr : rd H q off ver 12 = some (cs .u16 f)) (hr' : rd H q' off' ver' 12 = some (cs .u16 g)) (hb : 0 ≤ base ∧ base ≤ 39) :
    ∃ r, Call tab pu 388 [adr q off ver, adr q' off' ver', .int .i64 base] H = some r ∧ RsS H r (outB f g base 25) := by
  refine Call_ex t388 (.inr rfl) rfl ?_
  obtain ⟨L, hL⟩ : ∃ L, L = chgL f g 12 := ⟨_, rfl⟩
  have hL12 : L.length ≤ 12 := by rw [hL]; exact chgL_len
  have h525 := call525 (pu := true) hw hwg hr hr'
  rw [← hL] at h525
  obtain ⟨G1, hG1⟩ : ∃ G1, G1 = H ++ [(⟨chsC L, 2, 0, false⟩ : Blk)] := ⟨_, rfl⟩
  obtain ⟨y, hy⟩ : ∃ y, y = slc H.length 0 0 L.length L.length := ⟨_, rfl⟩
  rw [← hy, ← hG1] at h525
  have c1 : IntKind.wrap .i8 base = base := wrap8 (by omega)
  have hfa : fill [.int .i8 0, .int .i8 0, .int .i8 0, .int .i8 0, .slice none 0 0] [(0, 1, .int .i8 1), (1, 1, .int .i8 base), (4, 1, y)] = some [.int .i8 1, .int .i8 base, .int .i8 0, .int .i8 0, y] := by rw [hy]; rfl
  obtain ⟨G2, hG2⟩ : ∃ G2, G2 = G1 ++ [(⟨stC ⟨1, base, 0, 0, L⟩ y, 1, 0, false⟩ : Blk)] := ⟨_, rfl⟩
  have p1 : Pre H G1 := by rw [hG1]; exact Pre.one
  have hwr : wr H.length false (G1 ++ [⟨[.int .i8 0, .int .i8 0, .int .i8 0, .int .i8 0, .slice none 0 0], 1, 0, false⟩]) G1.length 0 0 [.int .i8 1, .int .i8 base, .int .i8 0, .int .i8 0, y] = some G2 := by
    rw [wr_at get_last rfl rfl (by simp [may]; exact p1.len) (by simp), hG2]
    simp [splice, stC]
  have hlt : H.length < G1.length := by rw [hG1]; simp
  have S0 : StO H G2 G1.length ⟨1, base, 0, 0, L⟩ y := by
    refine ⟨p1.trans (by rw [hG2]; exact Pre.one), p1.len, by rw [hG2]; exact get_last, H.length, hy, Nat.le_refl _, by omega, ?_⟩
    rw [hG2, List.getElem?_append_left hlt, hG1]; exact get_last
  rw [hL] at S0
  simp [c388, k388, h525, c1, hfa, hwr, wbOf]
  refine WK_loop (fun i e G => e 0 = adr q off ver ∧ e 1 = adr q' off' ver' ∧ e 2 = .int .i64 base ∧ e 7 = adr G1.length 0 0 ∧ e 8 = .int .i64 ((i : Int) - 12) ∧ ∃ y, StO H G G1.length (outB f g base i) y) 25 ?_ (Nat.zero_le _) ⟨by simp, by simp, by simp, by simp, by simp, y, by rw [outB_zero]; exact S0⟩
  rintro i e G hfr hi ⟨h0, h1, h2, h7, h8, y, hS⟩
  have h6 := hfr 6 (by decide)
  simp at h6
  have hok := outB_ok (f := f) (g := g) (base := base) (k := i)
  have h310 := cost310 (pu := true) hS.rd hS.rw ⟨hok.1, hok.2.1⟩ (by have := hok.2.2; omega)
  have hend : outB f g base i = outB f g base 25 → GrN H G y 2 (outB f g base 25).rows.length (chsC (outB f g base 25).rows) ∧ old0 H.length y = false := fun he => by
    obtain ⟨b, e1, e2, _, e4⟩ := hS.row
    rw [← he]
    refine ⟨.inl ⟨b, 0, e1, e4, e2, chsC_length, hS.pre⟩, ?_⟩
    rw [e1, old0_slc]; simp; omega
  have hexit : outB f g base i = outB f g base 25 → ∃ a b, finish H.length G [agg (stC (outB f g base i) y)] = (a, b) ∧ RsS H (a, b) (outB f g base 25) := fun he => by
    obtain ⟨e1, e2⟩ := hend he
    rw [he]
    rw [finish_keep (n0 := H.length) (G := G) (l := stC (outB f g base 25) y) (by simp [stC, e2])]
    exact ⟨_, _, rfl, y, G, rfl, hS.pre, e1⟩
  by_cases hi25 : i = 25
  · subst hi25
    obtain ⟨a, b, e1, e2⟩ := hexit rfl
    have hrd := hS.rd
    simp only [stC] at hrd e1
    simp [b388_2, h7, h8, skip, h6, hrd, stc5, ldc5, e1]
    exact ⟨_, _, ⟨rfl, rfl⟩, e2⟩
  · have hi24 : (i : Int) - 12 ≤ 12 := by omega
    have e9 : IntKind.wrap .i64 ((i : Int) - 12 + 1) = ((i + 1 : Nat) : Int) - 12 := by rw [wrap64 (by omega)]; omega
    by_cases hst : stCost (outB f g base i) ≤ 4
    · obtain ⟨a, b, e1, e2⟩ := hexit (outB_stop hst hi).symm
      have hrd := hS.rd
      simp only [stC] at hrd e1
      have hst' : ¬ 4 < stCost (outB f g base i) := by omega
      simp [b388_2, h7, h8, hi24, h310, hst', h6, hrd, stc5, ldc5, e1]
      exact ⟨_, _, ⟨rfl, rfl⟩, e2⟩
    · have hst' : 4 < stCost (outB f g base i) := by omega
      simp [b388_2, h7, h8, hi24, h310, hst']
      refine inner388 (s := outB f g base i) (dx := (i : Int) - 12) (P := G1.length) hw hk hwg hr hr' hb ⟨by omega, by omega⟩ hok (by simp [h0]) (by simp [h1]) (by simp [h2]) (by simp [h7]) (by simp [h8]) (by simp) hS fun e' G' y' q0 q1 q2 q7 q8 hS' => ?_
      rw [← outB_succ] at hS'
      simp [q0, q1, q2, q7, q8, e9]
      exact ⟨by omega, y', hS'⟩
theorem GrN.app {H G G' : Heap} {x : Value} {esz n : Nat} {vs : List Value} (g : GrN H G x esz n vs) (p : Pre G G') : GrN H G' x esz n vs := by
  rcases g with g | ⟨e1, e2, e3, q⟩
  · obtain ⟨L, rfl⟩ := p
    exact .inl g.app
  · exact .inr ⟨e1, e2, e3, q.trans p⟩
theorem GrN.low {H G G' : Heap} {x : Value} {esz n : Nat} {vs : List Value} (g : GrN G G' x esz n vs) (p : Pre H G) : GrN H G' x esz n vs := by
  rcases g with ⟨b, ver, e1, e2, e3, e4, q⟩ | ⟨e1, e2, e3, q⟩
  · exact .inl ⟨b, ver, e1, e2, Nat.le_trans p.len e3, e4, p.trans q⟩
  · exact .inr ⟨e1, e2, e3, p.trans q⟩
theorem inner389 {H G : Heap} {f g : List Int} {base dx : Int} {s : Sted} {y : Value} (hw : FrW f) (hk : okF f = true) (hwg : FrW g)
    (hb : 0 ≤ base ∧ base ≤ 39) (hdx : -12 ≤ dx ∧ dx ≤ 12) (hs : okS s) {fs : List Fr} {Q : Ex → Env → Heap → Prop} {e : Env}
    (h3 : e 3 = iv .u16 f) (h4 : e 4 = iv .u16 g) (h2 : e 2 = .int .i64 base) (h7 : e 7 = agg (stC s y)) (h8 : e 8 = .int .i64 dx) (h9 : e 9 = .int .i64 (-12)) (hS : GrN H G y 2 s.rows.length (chsC s.rows))
    (hq : ∀ e' G' y', e' 3 = iv .u16 f → e' 4 = iv .u16 g → e' 2 = .int .i64 base → e' 8 = .int .i64 dx → e' 7 = agg (stC (inB f g base dx s 25) y') → GrN H G' y' 2 (inB f g base dx s 25).rows.length (chsC (inB f g base dx s 25).rows) → KK tab H.length false (.exit 2) fs e' G' Q) : WK tab H.length false (.loop b389_1) fs e G Q := by
  refine WK_loop (fun j e G => e 3 = iv .u16 f ∧ e 4 = iv .u16 g ∧ e 2 = .int .i64 base ∧ e 8 = .int .i64 dx ∧ e 9 = .int .i64 ((j : Int) - 12) ∧ ∃ y, e 7 = agg (stC (inB f g base dx s j) y) ∧ GrN H G y 2 (inB f g base dx s j).rows.length (chsC (inB f g base dx s j).rows)) 25 ?_ (Nat.zero_le _) ⟨h3, h4, h2, h8, by rw [h9]; rfl, y, by rw [inB_zero]; exact h7, by rw [inB_zero]; exact hS⟩
  rintro j e G _ hj ⟨h3, h4, h2, h8, h9, y, h7, hS⟩
  by_cases hj25 : j = 25
  · subst hj25
    simp [b389_1, h9]
    exact hq _ _ y (by simp [h3]) (by simp [h4]) (by simp [h2]) (by simp [h8]) (by simp [h7]) hS
  have hle : (j : Int) - 12 ≤ 12 := by omega
  have e9 : IntKind.wrap .i64 ((j : Int) - 12 + 1) = ((j + 1 : Nat) : Int) - 12 := by rw [wrap64 (by omega)]; omega
  have hsucc := inB_succ (f := f) (g := g) (base := base) (dx := dx) (s := s) (k := j)
  have hok := inB_ok (f := f) (g := g) (base := base) (dx := dx) (k := j) hs
  generalize inB f g base dx s j = t at *
  cases hz : (dx == 0 && (j : Int) - 12 == 0) with
  | true =>
    rw [stepB, if_pos hz] at hsucc
    rw [Bool.and_eq_true] at hz
    have z1 := eq_of_beq hz.1
    have z2 := eq_of_beq hz.2
    obtain rfl : j = 12 := by omega
    subst z1
    have h9' : e 9 = .int .i64 0 := by rw [h9]; rfl
    rw [show 12 + 1 = 13 from rfl] at hsucc
    simp [b389_1, h3, h4, h2, h7, h8, h9']
    rw [hsucc]
    exact ⟨y, rfl, hS⟩
  | false =>
    rw [stepB, if_neg (by rw [hz]; decide)] at hsucc
    obtain ⟨F, hF⟩ : ∃ F, F = shF f dx ((j : Int) - 12) := ⟨_, rfl⟩
    have hFW : FrW F := by rw [hF]; exact dotsF_W
    have h358 := call358 (pu := true) (H := G) (dx := dx) (dy := (j : Int) - 12) hw hk (by omega) (by omega)
    rw [← hF] at h358 hsucc
    have h528 := call528 (pu := true) (H := G) hFW.len hwg.len
    obtain ⟨L, hL⟩ : ∃ L, L = chgL F g 12 := ⟨_, rfl⟩
    have hL12 : L.length ≤ 12 := by rw [hL]; exact chgL_len
    have h312 := cost312 (pu := true) (H := G) (s := t) hS.sl ⟨hok.1, hok.2.1⟩ (by have := hok.2.2; omega)
    obtain ⟨_, h527, y', G', rfl, hY⟩ := call527 (pu := true) (H := G) (a := 2) (b := base) (c := dx) (d := (j : Int) - 12) (y0 := .slice none 0 0) hFW hwg
    rw [← hL] at hsucc h528 hY
    have w3 : IntKind.wrap .i64 (3 * (L.length : Int)) = 3 * (L.length : Int) := wrap64 (by omega)
    have w4 : IntKind.wrap .i64 (3 * (L.length : Int) + 4) = 4 + 3 * (L.length : Int) := by rw [wrap64 (by omega)]; omega
    have c1 : IntKind.wrap .i8 base = base := wrap8 (by omega)
    have c2 : IntKind.wrap .i8 dx = dx := wrap8 (by omega)
    have c3 : IntKind.wrap .i8 ((j : Int) - 12) = (j : Int) - 12 := wrap8 (by omega)
    have hz12 := stc_zr (k := .u16) (n := 12) (l := F) hFW.len
    have hfa : fill [.int .i8 0, .int .i8 0, .int .i8 0, .int .i8 0, .slice none 0 0] [(0, 1, .int .i8 2), (1, 1, .int .i8 base), (2, 1, .int .i8 dx), (3, 1, .int .i8 ((j : Int) - 12))] = some [.int .i8 2, .int .i8 base, .int .i8 dx, .int .i8 ((j : Int) - 12), .slice none 0 0] := rfl
    simp only [stC] at h7 h312
    by_cases hc : 4 + 3 * (L.length : Int) < stCost t
    · rw [if_pos hc] at hsucc
      have hY' := hY.low hS.pre
      cases hx0 : dx == 0 with
      | true =>
        have hj0 : ((j : Int) - 12 == 0) = false := by rw [hx0] at hz; simpa using hz
        simp [b389_1, h3, h4, h2, h7, h8, h9, hle, hx0, hj0, hw.len, hwg.len, h358, zs_cs, agg_cs, hz12, hFW.len, h528, w3, w4, ldc5, h312, hc, c1, c2, c3, hfa, h527, stc5, e9]
        rw [hsucc]
        exact ⟨by omega, y', rfl, hY'⟩
      | false =>
        simp [b389_1, h3, h4, h2, h7, h8, h9, hle, hx0, skip, hw.len, hwg.len, h358, zs_cs, agg_cs, hz12, hFW.len, h528, w3, w4, ldc5, h312, hc, c1, c2, c3, hfa, h527, stc5, e9]
        rw [hsucc]
        exact ⟨by omega, y', rfl, hY'⟩
    · rw [if_neg hc] at hsucc
      cases hx0 : dx == 0 with
      | true =>
        have hj0 : ((j : Int) - 12 == 0) = false := by rw [hx0] at hz; simpa using hz
        simp [b389_1, h3, h4, h2, h7, h8, h9, hle, hx0, hj0, hw.len, hwg.len, h358, zs_cs, agg_cs, hz12, hFW.len, h528, w3, w4, ldc5, h312, hc, e9]
        rw [hsucc]
        exact ⟨by omega, y, rfl, hS⟩
      | false =>
        simp [b389_1, h3, h4, h2, h7, h8, h9, hle, hx0, skip, hw.len, hwg.len, h358, zs_cs, agg_cs, hz12, hFW.len, h528, w3, w4, ldc5, h312, hc, e9]
        rw [hsucc]
        exact ⟨by omega, y, rfl, hS⟩
theorem fin_step {H G : Heap} {s : Sted} {y : Value} {n : Nat} {vs : List Value} (hy : GrN H G y 2 n vs) : ∃ G', finish H.length G [agg (stC s y)] = (agg (stC s y), G') ∧ GrN H G' y 2 n vs := by
  rcases hy with hy | ⟨rfl, e1, e2, p⟩
  · have ho : old0 H.length y = false := by
      obtain ⟨b, ver, rfl, _, h, _⟩ := hy
      rw [old0_slc]; simp; omega
    exact ⟨G, finish_keep (n0 := H.length) (G := G) (l := stC s y) (by simp [stC, ho]), .inl hy⟩
  · have hfin : finish H.length G [agg (stC s (.slice none 0 0))] = (agg (stC s (.slice none 0 0)), G.take H.length) := fin_agg rfl
    rw [p.take] at hfin
    exact ⟨H, hfin, .inr ⟨rfl, e1, e2, .refl⟩⟩
theorem call389 {pu : Bool} {H : Heap} {f g : List Int} {base : Int} (hw : FrW f) (hk : okF f = true) (hwg : FrW g) (hb : 0 ≤ base ∧ base ≤ 39) :
    ∃ r, Call tab pu 389 [iv .u16 f, iv .u16 g, .int .i64 base] H = some r ∧ RsS H r (outB f g base 25) := by
  refine Call_ex t389 (.inr rfl) rfl ?_
  obtain ⟨_, h527, y', G', rfl, hY⟩ := call527 (pu := true) (H := H) (a := 1) (b := base) (c := 0) (d := 0) (y0 := .slice none 0 0) hw hwg
  have c1 : IntKind.wrap .i8 base = base := wrap8 (by omega)
  have hfa : fill [.int .i8 0, .int .i8 0, .int .i8 0, .int .i8 0, .slice none 0 0] [(0, 1, .int .i8 1), (1, 1, .int .i8 base)] = some [.int .i8 1, .int .i8 base, .int .i8 0, .int .i8 0, .slice none 0 0] := rfl
  simp [c389, k389, hw.len, hwg.len, c1, hfa, h527, stc5]
  refine WK_loop (fun i e G => e 3 = iv .u16 f ∧ e 4 = iv .u16 g ∧ e 2 = .int .i64 base ∧ e 8 = .int .i64 ((i : Int) - 12) ∧ ∃ y, e 7 = agg (stC (outB f g base i) y) ∧ GrN H G y 2 (outB f g base i).rows.length (chsC (outB f g base i).rows)) 25 ?_ (Nat.zero_le _) ⟨by simp, by simp, by simp, by simp, y', by simp [outB_zero, stC], by rw [outB_zero]; exact hY⟩
  rintro i e G hfr hi ⟨h3, h4, h2, h8, y, h7, hS⟩
  have h6 := hfr 6 (by decide)
  simp at h6
  have hok := outB_ok (f := f) (g := g) (base := base) (k := i)
  by_cases hi25 : i = 25
  · subst hi25
    obtain ⟨G2, e1, e2⟩ := fin_step (s := outB f g base 25) hS
    simp only [stC] at h7 e1
    simp [b389_2, h7, h8, h6, stc5, ldc5, e1]
    exact ⟨_, _, ⟨rfl, rfl⟩, y, G2, rfl, e2.pre, e2⟩
  · have hi24 : (i : Int) - 12 ≤ 12 := by omega
    have e9 : IntKind.wrap .i64 ((i : Int) - 12 + 1) = ((i + 1 : Nat) : Int) - 12 := by rw [wrap64 (by omega)]; omega
    simp [b389_2, h7, h8, hi24]
    refine inner389 (s := outB f g base i) (dx := (i : Int) - 12) hw hk hwg hb ⟨by omega, by omega⟩ hok (by simp [h3]) (by simp [h4]) (by simp [h2]) (by simp [h7]) (by simp [h8]) (by simp) hS fun e' G' y' q3 q4 q2 q8 q7 hS' => ?_
    rw [← outB_succ] at hS' q7
    simp [q3, q4, q2, q8, q7, e9]
    exact ⟨by omega, y', rfl, hS'⟩
theorem mk391 : MkF 391 2 2 ms2 := by
  intro G r β n0 n vs c ho hn hc0 hc1
  cases β with
  | none =>
    obtain ⟨hl, rfl, rfl⟩ := ho
    refine ⟨G, Call_wp t391 (.inl rfl) rfl ?_, .refl, by simp [mkL], rfl, rfl⟩
    simp [c391, k391]
    refine WP_forH 5 0 0 rfl (by omega) (fun i e => e 0 = .slice none 0 0 ∧ e 1 = .int .i64 c) ?_ ?_ (by simp) (by simp)
    · intro i e hi; omega
    · rintro e h5 ⟨h0, h1⟩
      simp [b391_1, h5, h0, h1]
  | some b =>
    obtain ⟨hl, hb, ver, cap, rest, rfl, hcap, hg⟩ := ho
    have hD : n * 2 ≤ (vs ++ rest).length := by simp [hl]
    refine ⟨G.set b ⟨mkL (ms2 c) (n * 2) ++ rest, 2, ver, false⟩, Call_wp t391 (.inl rfl) rfl ?_, .set, mkL_length, hb, ver, cap, rest, rfl, hcap, get_set hg⟩
    simp [c391, k391]
    refine WP_count 5 n n rfl (fun i e G' => e 0 = slc b 0 ver n cap ∧ e 1 = .int .i64 (c + (i * 2 : Nat)) ∧ G' = G.set b ⟨mkC (ms2 c) (vs ++ rest) (i * 2), 2, ver, false⟩) (by omega) ?_ ?_ (by simp) ⟨by simp, by simp, by rw [Nat.zero_mul, mkC_zero]; exact (set_self hg).symm⟩
    · rintro i e _ _ hi hii e4 h5 ⟨h0, h1, rfl⟩
      have q0 := mk_wr (n0 := G.length) (ver := ver) (esz := 2) (k := i * 2) (ms := ms2 c) (D := vs ++ rest) ⟨_, hg⟩ (by omega) ms2_flat
      have q1 := mk_wr (n0 := G.length) (ver := ver) (esz := 2) (k := i * 2 + 1) (ms := ms2 c) (D := vs ++ rest) ⟨_, hg⟩ (by omega) ms2_flat
      rw [ms2_a (by omega)] at q0
      rw [ms2_b (by omega)] at q1
      have w1 : IntKind.wrap .i64 (c + (i * 2 : Nat) + 1) = c + (i * 2 + 1 : Nat) := by rw [wrap64 (by omega)]; omega
      have w2 : IntKind.wrap .i64 (c + (i * 2 + 1 : Nat) + 1) = c + ((i + 1) * 2 : Nat) := by rw [wrap64 (by omega)]; omega
      have e6 : (i + 1) * 2 = i * 2 + 1 + 1 := by omega
      simp (disch := decide) [b391_1, h5, h0, h1, hii, at_nat hi, q0, q1, wbOf, w1, w2, e4, e6, -Int.natCast_add, -Int.natCast_mul]
    · rintro e _ _ h5 ⟨h0, h1, rfl⟩
      simp [b391_1, h5, h0, h1, mkC_all hl]
theorem held392 : HdF 392 2 2 ms2 := by
  intro pu G r β n0 n c ho hn hc0 hc1
  have hs := ho.sl
  refine Call_wp t392 (.inr rfl) rfl ?_
  simp [c392, k392]
  refine WP_forH 5 n n rfl (by omega) (fun i e => e 0 = r ∧ e 1 = .int .i64 (c + (i * 2 : Nat))) ?_ ?_ (by simp) (by simp)
  · rintro i e hi hii e4 h5 ⟨h0, h1⟩
    obtain ⟨q, off, ver, ha, hr⟩ := hs.get1 hi
    have hd : ∀ o, o < 2 → rd G q (off + o) ver 1 = some [ms2 c (i * 2 + o)] := fun o ho => by
      rw [rd_part hr (by omega)]
      unfold elem
      rw [List.drop_take, List.take_take, List.drop_drop, Nat.min_eq_left (by omega), mkL_cell (by omega)]
    have d0 := hd 0 (by omega)
    have d1 := hd 1 (by omega)
    rw [ms2_a (by omega)] at d0
    rw [ms2_b (by omega)] at d1
    rw [Nat.add_zero, Nat.add_zero] at d0
    have w1 : IntKind.wrap .i64 (c + (i * 2 : Nat) + 1) = c + (i * 2 + 1 : Nat) := by rw [wrap64 (by omega)]; omega
    have w2 : IntKind.wrap .i64 (c + (i * 2 + 1 : Nat) + 1) = c + ((i + 1) * 2 : Nat) := by rw [wrap64 (by omega)]; omega
    simp (disch := decide) [b392_1, h5, h0, h1, hs.lenV, hii, ha, d0, d1, w1, w2, e4, -Int.natCast_add, -Int.natCast_mul]
  · rintro e h5 ⟨h0, h1⟩
    simp [b392_1, h5, h0, hs.lenV, h1]
/-- The better of a step and the cheapest step from a page. -/
def pickB (b : List (List Int)) (k : Nat) (p : Nat → Bool) (j : Nat) (s : Sted) : Sted :=
  if p j = true then if stCost (outB (fr b j) (fr b k) j 25) < stCost s then outB (fr b j) (fr b k) j 25 else s else s
def bestS (b : List (List Int)) (k : Nat) (p : Nat → Bool) (i : Nat) : Sted := itN (fun j s => pickB b k p j s) ⟨0, 0, 0, 0, chgL (zr 12 0) (fr b k) 12⟩ i
theorem bestS_zero {b : List (List Int)} {k : Nat} {p : Nat → Bool} : bestS b k p 0 = ⟨0, 0, 0, 0, chgL (zr 12 0) (fr b k) 12⟩ := itN_zero
theorem bestS_succ {b : List (List Int)} {k : Nat} {p : Nat → Bool} {i : Nat} : bestS b k p (i + 1) = pickB b k p i (bestS b k p i) := itN_succ
theorem pickB_ok {b : List (List Int)} {k : Nat} {p : Nat → Bool} {j : Nat} {s : Sted} (h : okS s) : okS (pickB b k p j s) := by
  unfold pickB
  split
  · split
    · exact outB_ok
    · exact h
  · exact h
theorem bestS_ok {b : List (List Int)} {k : Nat} {p : Nat → Bool} {i : Nat} : okS (bestS b k p i) := by
  induction i with
  | zero => rw [bestS_zero]; exact ⟨by simp only []; omega, by simp only []; omega, chgL_len⟩
  | succ i ih => rw [bestS_succ]; exact pickB_ok ih
theorem okFs_get {b : List (List Int)} (h : okFs b = true) {i : Nat} (hi : i < b.length) : okF (fr b i) = true := List.all_eq_true.1 (show b.all okF = true from h) _ (at0_mem hi)
/-- The impl's search over the pages, with a function that tells which may be used. -/
theorem call406 {pu : Bool} {H : Heap} {x F : Value} {b : List (List Int)} {k : Nat} {p : Nat → Bool} (h : Bk H x b) (hw : BkW b) (hok : okFs b = true) (hn : b.length ≤ 40) (hk : k < b.length)
    (hF : ∀ (G : Heap) (j : Nat), Pre H G → j < k → callV (Call tab) G F [.int .i64 (j : Int)] = some (.bool (p j), G)) :
    ∃ r, Call tab pu 406 [x, .int .i64 (k : Int), F] H = some r ∧ RsS H r (bestS b k p k) := by
  refine Call_ex t406 (.inr rfl) rfl ?_
  obtain ⟨q, off, ver, ha, hr⟩ := Bk.get h hw hk
  have hgW := hw.fr hk
  have hgl := hgW.len
  obtain ⟨_, h527, y', G', rfl, hY⟩ := call527 (pu := true) (H := H) (a := 0) (b := 0) (c := 0) (d := 0) (y0 := .slice none 0 0) zr_ok.1 hgW
  have hfa : fill [.int .i8 0, .int .i8 0, .int .i8 0, .int .i8 0, .slice none 0 0] [(0, 1, .int .i8 0)] = some [.int .i8 0, .int .i8 0, .int .i8 0, .int .i8 0, .slice none 0 0] := rfl
  simp [c406, k406, zs_cs, agg_cs, fill, ha, hr, h527, stc5, splice]
  refine WP_count 18 k k rfl (fun i e G => e 0 = x ∧ e 1 = .int .i64 k ∧ e 2 = F ∧ e 17 = .int .i64 k ∧ e 6 = agg [.int .i8 0, .int .i8 0, .int .i8 0, .int .i8 0, .slice none 0 0] ∧ ∃ y, e 7 = agg (stC (bestS b k p i) y) ∧ GrN H G y 2 (bestS b k p i).rows.length (chsC (bestS b k p i).rows)) (by omega) ?_ ?_ (by simp) ⟨by simp, by simp, by simp, by simp, by simp, y', by simp [bestS_zero, stC], by rw [bestS_zero]; exact hY⟩
  · rintro i e G _ hi hii e4 h18 ⟨h0, h1, h2, h17, h6, y, h7, hS⟩
    have hFi := hF G i hS.pre hi
    have hsucc := bestS_succ (b := b) (k := k) (p := p) (i := i)
    have hok2 := bestS_ok (b := b) (k := k) (p := p) (i := i)
    generalize bestS b k p i = t at *
    obtain ⟨q2, off2, ver2, ha2, hr2⟩ := Bk.get (SlR.pre hS.pre h) hw (i := i) (by omega)
    obtain ⟨q3, off3, ver3, ha3, hr3⟩ := Bk.get (SlR.pre hS.pre h) hw hk
    have hfW := hw.fr (i := i) (by omega)
    cases hp : p i with
    | false =>
      rw [hp] at hFi
      rw [pickB, hp, if_neg (by decide)] at hsucc
      simp [b406_1, h18, h0, h1, h2, h17, h6, h7, hii, hFi, e4]
      rw [hsucc]
      exact ⟨y, rfl, hS⟩
    | true =>
      rw [hp] at hFi
      rw [pickB, hp, if_pos rfl] at hsucc
      obtain ⟨_, h389, y2, G2, rfl, hP2, hY2⟩ := call389 (pu := true) (H := G) (base := (i : Int)) hfW (okFs_get hok (i := i) (by omega)) hgW ⟨by omega, by omega⟩
      have hY2' := hY2.low hS.pre
      have hS2 := hS.app hP2
      have hoo := outB_ok (f := fr b i) (g := fr b k) (base := (i : Int)) (k := 25)
      generalize outB (fr b i) (fr b k) (i : Int) 25 = u at *
      have c1 := cost312 (pu := true) (H := G2) (s := u) hY2.sl ⟨hoo.1, hoo.2.1⟩ (by have := hoo.2.2; omega)
      have c2 := cost312 (pu := true) (H := G2) (s := t) hS2.sl ⟨hok2.1, hok2.2.1⟩ (by have := hok2.2.2; omega)
      simp only [stC] at h7 h389 c1 c2
      by_cases hc : stCost u < stCost t
      · rw [if_pos hc] at hsucc
        simp [b406_1, h18, h0, h1, h2, h17, h6, h7, hii, hFi, ha2, hr2, ha3, hr3, agg_cs, h389, stc5, ldc5, c1, c2, hc, e4]
        rw [hsucc]
        exact ⟨y2, rfl, hY2'⟩
      · rw [if_neg hc] at hsucc
        simp [b406_1, h18, h0, h1, h2, h17, h6, h7, hii, hFi, ha2, hr2, ha3, hr3, agg_cs, h389, stc5, ldc5, c1, c2, hc, e4]
        rw [hsucc]
        exact ⟨y, rfl, hS2⟩
  · rintro e G _ h18 ⟨h0, h1, h2, h17, h6, y, h7, hS⟩
    obtain ⟨G2, e1, e2⟩ := fin_step (s := bestS b k p k) hS
    simp only [stC] at h7 e1
    simp [b406_1, h18, h17, h7, h6, stc5, ldc5, e1]
    exact ⟨_, _, ⟨rfl, rfl⟩, y, G2, rfl, e2.pre, e2⟩
structure StP (H G : Heap) (P : Nat) (s : Sted) (y : Value) : Prop where
  ge : H.length ≤ P
  blk : G[P]? = some ⟨stC s y, 1, 0, false⟩
  row : GrN H G y 2 s.rows.length (chsC s.rows)
theorem StP.rd {H G : Heap} {P : Nat} {s : Sted} {y : Value} (h : StP H G P s y) : rd G P 0 0 5 = some (stC s y) := by
  rw [rd_at h.blk rfl (by simp [stC])]; rfl
theorem StP.app {H G G' : Heap} {P : Nat} {s : Sted} {y : Value} (p : Pre G G') (h : StP H G P s y) : StP H G' P s y :=
  ⟨h.ge, by rw [p.get (List.getElem?_eq_some_iff.1 h.blk).1]; exact h.blk, h.row.app p⟩
theorem GrN.set {H G : Heap} {y : Value} {n P : Nat} {vs : List Value} {k k' : Blk} (g : GrN H G y 2 n vs) (ge : H.length ≤ P) (hP : G[P]? = some k) (hk : k.esz = 1) : GrN H (G.set P k') y 2 n vs := by
  rcases g with ⟨b, ver, e1, e2, e3, e4, q⟩ | ⟨e1, e2, e3, q⟩
  · have hne : P ≠ b := by
      rintro rfl
      rw [hP] at e2
      cases e2
      cases hk
    exact .inl ⟨b, ver, e1, by rw [List.getElem?_set_ne hne]; exact e2, e3, e4, q.set ge⟩
  · exact .inr ⟨e1, e2, e3, q.set ge⟩
theorem call404 {pu : Bool} {H : Heap} {x z : Value} {b : List (List Int)} {k : Nat} {ds : List Int} {lim : Int} (h : Bk H x b) (hw : BkW b) (hok : okFs b = true) (hn : b.length ≤ 40) (hk : k < b.length) (hz : SlR H z 1 ds.length (cs .i64 ds)) (hd : k ≤ ds.length) :
    ∃ r, Call tab pu 404 [x, .int .i64 (k : Int), z, .int .i64 lim] H = some r ∧ RsS H r (bestS b k (fun j => !decide (lim ≤ nth ds j)) k) := by
  refine Call_ex t404 (.inr rfl) rfl ?_
  obtain ⟨q, off, ver, ha, hr⟩ := Bk.get h hw hk
  have hgW := hw.fr hk
  have hgl := hgW.len
  obtain ⟨L, hL⟩ : ∃ L, L = chgL (zr 12 0) (fr b k) 12 := ⟨_, rfl⟩
  obtain ⟨G1, hG1⟩ : ∃ G1, G1 = H ++ [(⟨cs .u16 (zr 12 0), 1, 0, false⟩ : Blk)] := ⟨_, rfl⟩
  have p1 : Pre H G1 := by rw [hG1]; exact Pre.one
  have hwr1 : wr H.length false (H ++ [⟨cs .u16 (zr 12 0), 1, 0, false⟩]) H.length 0 0 (cs .u16 (zr 12 0)) = some G1 := by
    rw [wr_at get_last rfl rfl (by simp [may]) (by simp), hG1]
    simp [splice]
  have r1 : rd G1 H.length 0 0 12 = some (cs .u16 (zr 12 0)) := by rw [hG1]; exact rd_last rfl (by simp)
  have h525 := call525 (pu := true) zr_ok.1 hgW r1 (p1.rd hr)
  rw [← hL] at h525
  obtain ⟨G2, hG2⟩ : ∃ G2, G2 = G1 ++ [(⟨chsC L, 2, 0, false⟩ : Blk)] := ⟨_, rfl⟩
  obtain ⟨y, hy⟩ : ∃ y, y = slc G1.length 0 0 L.length L.length := ⟨_, rfl⟩
  rw [← hy, ← hG2] at h525
  have p2 : Pre H G2 := p1.trans (by rw [hG2]; exact Pre.one)
  have hfa : fill [.int .i8 0, .int .i8 0, .int .i8 0, .int .i8 0, .slice none 0 0] [(0, 1, .int .i8 0), (4, 1, y)] = some [.int .i8 0, .int .i8 0, .int .i8 0, .int .i8 0, y] := by rw [hy]; rfl
  obtain ⟨G3, hG3⟩ : ∃ G3, G3 = G2 ++ [(⟨stC ⟨0, 0, 0, 0, L⟩ y, 1, 0, false⟩ : Blk)] := ⟨_, rfl⟩
  have hwr2 : wr H.length false (G2 ++ [⟨[.int .i8 0, .int .i8 0, .int .i8 0, .int .i8 0, .slice none 0 0], 1, 0, false⟩]) G2.length 0 0 [.int .i8 0, .int .i8 0, .int .i8 0, .int .i8 0, y] = some G3 := by
    rw [wr_at get_last rfl rfl (by simp [may]; exact p2.len) (by simp), hG3]
    simp [splice, stC]
  have p3 : Pre H G3 := p2.trans (by rw [hG3]; exact Pre.one)
  have S0 : StP H G3 G2.length ⟨0, 0, 0, 0, L⟩ y := by
    refine ⟨p2.len, by rw [hG3]; exact get_last, .inl ⟨G1.length, 0, hy, ?_, p1.len, chsC_length, p3⟩⟩
    rw [hG3, List.getElem?_append_left (by rw [hG2]; simp), hG2]; exact get_last
  rw [hL] at S0
  simp [c404, k404, zs_cs, agg_cs, fill, hwr1, wbOf, ha, h525, hfa, hwr2]
  refine WP_count 11 k k rfl (fun i e G => e 0 = x ∧ e 1 = .int .i64 k ∧ e 2 = z ∧ e 3 = .int .i64 lim ∧ e 8 = agg [.int .i8 0, .int .i8 0, .int .i8 0, .int .i8 0, .slice none 0 0] ∧ e 10 = adr G2.length 0 0 ∧ ∃ y, StP H G G2.length (bestS b k (fun j => !decide (lim ≤ nth ds j)) i) y) (by omega) ?_ ?_ (by simp) ⟨by simp, by simp, by simp, by simp, by simp, by simp, y, by rw [bestS_zero]; exact S0⟩
  · rintro i e G _ hi hii e4 h11 ⟨h0, h1, h2, h3, h8, h10, y, hS⟩
    have hsucc := bestS_succ (b := b) (k := k) (p := fun j => !decide (lim ≤ nth ds j)) (i := i)
    have hok2 := bestS_ok (b := b) (k := k) (p := fun j => !decide (lim ≤ nth ds j)) (i := i)
    generalize bestS b k (fun j => !decide (lim ≤ nth ds j)) i = t at *
    have hPG := hS.row.pre
    obtain ⟨qz, oz, vz, haz, hrz⟩ := (SlR.pre hPG hz).get1 (i := i) (by omega)
    rw [elem_i (by omega)] at hrz
    cases hp : decide (lim ≤ nth ds i) with
    | true =>
      rw [pickB] at hsucc
      simp only [hp, Bool.not_true] at hsucc
      rw [if_neg (by decide)] at hsucc
      have hp' : lim ≤ nth ds i := by simpa using hp
      simp [b404_1, h11, h0, h1, h2, h3, h8, h10, hii, haz, hrz, hp', e4]
      exact ⟨y, by rw [hsucc]; exact hS⟩
    | false =>
      rw [pickB] at hsucc
      simp only [hp, Bool.not_false, if_true] at hsucc
      have hp' : ¬ lim ≤ nth ds i := by simpa using hp
      obtain ⟨Ga, hGa⟩ : ∃ Ga, Ga = G ++ [(⟨[.int .i8 0, .int .i8 0, .int .i8 0, .int .i8 0, .slice none 0 0], 1, 0, false⟩ : Blk)] := ⟨_, rfl⟩
      have pa : Pre G Ga := by rw [hGa]; exact Pre.one
      have pHa := hPG.trans pa
      obtain ⟨q2, off2, ver2, ha2, hr2⟩ := Bk.get h hw (i := i) (by omega)
      have hfW := hw.fr (i := i) (by omega)
      obtain ⟨_, h388, y2, Gb, rfl, hPb, hY2⟩ := call388 (pu := true) (H := Ga) (base := (i : Int)) hfW (okFs_get hok (i := i) (by omega)) hgW (pHa.rd hr2) (pHa.rd hr) ⟨by omega, by omega⟩
      have hoo := outB_ok (f := fr b i) (g := fr b k) (base := (i : Int)) (k := 25)
      generalize outB (fr b i) (fr b k) (i : Int) 25 = u at *
      have hlt : G.length < Ga.length := by rw [hGa]; simp
      have hQb : Gb[G.length]? = some ⟨[.int .i8 0, .int .i8 0, .int .i8 0, .int .i8 0, .slice none 0 0], 1, 0, false⟩ := by
        rw [hPb.get hlt, hGa]; exact get_last
      obtain ⟨Gc, hGc⟩ : ∃ Gc, Gc = Gb.set G.length ⟨stC u y2, 1, 0, false⟩ := ⟨_, rfl⟩
      have hgeQ : H.length ≤ G.length := hPG.len
      have hwr3 : wr H.length false Gb G.length 0 0 [.int .i8 u.a, .int .i8 u.b, .int .i8 u.c, .int .i8 u.d, y2] = some Gc := by
        rw [wr_at hQb rfl rfl (by simp [may]; exact hgeQ) (by simp), hGc]; rfl
      have Su : StP H Gc G.length u y2 := ⟨hgeQ, by rw [hGc]; exact get_set hQb, by rw [hGc]; exact (hY2.low pHa).set hgeQ hQb rfl⟩
      have hPlt : G2.length < G.length := (List.getElem?_eq_some_iff.1 hS.blk).1
      have hSb := hS.app (pa.trans hPb)
      have St : StP H Gc G2.length t y := ⟨hS.ge, by rw [hGc, List.getElem?_set_ne (by omega)]; exact hSb.blk, by rw [hGc]; exact hSb.row.set hgeQ hQb rfl⟩
      have c1 := cost310 (pu := true) Su.rd Su.row.sl ⟨hoo.1, hoo.2.1⟩ (by have := hoo.2.2; omega)
      have c2 := cost310 (pu := true) St.rd St.row.sl ⟨hok2.1, hok2.2.1⟩ (by have := hok2.2.2; omega)
      have rQ := Su.rd
      simp only [stC] at h388 rQ
      have haG : idxAV 12 x (.int .i64 (k : Int)) = some (adr q off ver) := ha
      by_cases hc : stCost u < stCost t
      · rw [if_pos hc] at hsucc
        obtain ⟨Gd, hGd⟩ : ∃ Gd, Gd = Gc.set G2.length ⟨stC u y2, 1, 0, false⟩ := ⟨_, rfl⟩
        have hwr4 : wr H.length false Gc G2.length 0 0 [.int .i8 u.a, .int .i8 u.b, .int .i8 u.c, .int .i8 u.d, y2] = some Gd := by
          rw [wr_at St.blk rfl rfl (by simp [may]; exact hS.ge) (by simp [stC]), hGd]; rfl
        have Sd : StP H Gd G2.length u y2 := ⟨hS.ge, by rw [hGd]; exact get_set St.blk, by rw [hGd]; exact Su.row.set hS.ge St.blk rfl⟩
        simp [b404_1, h11, h0, h1, h2, h3, h8, h10, hii, haz, hrz, hp', ha2, haG, ← hGa, h388, hwr3, wbOf, c1, c2, hc, rQ, hwr4, e4]
        exact ⟨y2, by rw [hsucc]; exact Sd⟩
      · rw [if_neg hc] at hsucc
        simp [b404_1, h11, h0, h1, h2, h3, h8, h10, hii, haz, hrz, hp', ha2, haG, ← hGa, h388, hwr3, wbOf, c1, c2, hc, e4]
        exact ⟨y, by rw [hsucc]; exact St⟩
  · rintro e G _ h11 ⟨h0, h1, h2, h3, h8, h10, y, hS⟩
    obtain ⟨G5, e1, e2⟩ := fin_step (s := bestS b k (fun j => !decide (lim ≤ nth ds j)) k) hS.row
    have hrd := hS.rd
    simp only [stC] at hrd e1
    simp [b404_1, h11, h1, h8, h10, hrd, stc5, ldc5, e1]
    exact ⟨_, _, ⟨rfl, rfl⟩, y, G5, rfl, e2.pre, e2⟩
theorem bestS_congr {b : List (List Int)} {k : Nat} {p q : Nat → Bool} {i : Nat} (h : ∀ j, j < i → p j = q j) : bestS b k p i = bestS b k q i := by
  induction i with
  | zero => rw [bestS_zero, bestS_zero]
  | succ i ih => rw [bestS_succ, bestS_succ, ih fun j hj => h j (by omega), pickB, pickB, h i (by omega)]
theorem call431 {pu : Bool} {G : Heap} {j P Q o o' v v' : Nat} {g : Value} {ds : List Int} {lim : Int} (hP : rd G P o v 1 = some [g]) (hz : SlR G g 1 ds.length (cs .i64 ds)) (hj : j < ds.length) (hQ : rd G Q o' v' 1 = some [.int .i64 lim]) :
    Call tab pu 431 [.int .i64 (j : Int), adr P o v, adr Q o' v'] G = some (.bool (decide (nth ds j < lim)), G) := by
  refine Call_wp t431 (.inr rfl) rfl ?_
  obtain ⟨q, off, ver, ha, hr⟩ := hz.get1 hj
  rw [elem_i hj] at hr
  simp [c431, k431, hP, ha, hr, hQ]
theorem call400 {pu : Bool} {G : Heap} {s : Sted} {y g : Value} {ds : List Int} (hz : SlR G g 1 ds.length (cs .i64 ds)) (hb : (s.a == 0) = false → ∃ m : Nat, s.b = m ∧ m < ds.length) (hd : ∀ j, j < ds.length → 0 ≤ nth ds j ∧ nth ds j ≤ 1000000) :
    Call tab pu 400 [agg (stC s y), g] G = some (.int .i64 (depV s ds), G) := by
  refine Call_wp t400 (.inr rfl) rfl ?_
  cases hz0 : s.a == 0 with
  | true =>
    have ev : depV s ds = 0 := by rw [depV, if_pos hz0]
    simp [c400, k400, stC, ldc5a, hz0, ev]
  | false =>
    obtain ⟨m, hm, hmi⟩ := hb hz0
    obtain ⟨q2, off2, ver2, ha2, hr2⟩ := hz.get1 hmi
    rw [elem_i hmi] at hr2
    rw [idxAV_k (k' := .i8)] at ha2
    have hb := hd m hmi
    have ev : depV s ds = nth ds m + 1 := by rw [depV, if_neg (by rw [hz0]; decide), hm]; rfl
    have w1 : IntKind.wrap .i64 (nth ds m + 1) = nth ds m + 1 := wrap64 (by omega)
    simp [c400, k400, stC, ldc5a, ldc5b, hz0, hm, ha2, hr2, w1, ev]
/-- A list of steps that grows: the rows stand in blocks of their own. -/
def GrS (H G : Heap) (x : Value) (l : List Sted) : Prop := ∃ b ver vs, x = slc b 0 ver l.length l.length ∧ G[b]? = some ⟨vs, 5, ver, false⟩ ∧ H.length ≤ b ∧ vs.length = l.length * 5 ∧ Pre H G ∧
  ∀ i, i < l.length → ∃ y, elem vs 5 i = stC (at0 l i) y ∧ GrN H G y 2 (at0 l i).rows.length (chsC (at0 l i).rows)
theorem GrN.put {H G : Heap} {y : Value} {n P : Nat} {vs : List Value} {k k' : Blk} (g : GrN H G y 2 n vs) (ge : H.length ≤ P) (hP : G[P]? = some k) (hk : k.esz ≠ 2) : GrN H (G.set P k') y 2 n vs := by
  rcases g with ⟨b, ver, e1, e2, e3, e4, q⟩ | ⟨e1, e2, e3, q⟩
  · have hne : P ≠ b := by
      rintro rfl
      rw [hP] at e2
      cases e2
      exact hk rfl
    exact .inl ⟨b, ver, e1, by rw [List.getElem?_set_ne hne]; exact e2, e3, e4, q.set ge⟩
  · exact .inr ⟨e1, e2, e3, q.set ge⟩
theorem GrS.new {H G : Heap} (p : Pre H G) : GrS H (G ++ [⟨[], 5, 0, false⟩]) (slc G.length 0 0 0 0) [] := ⟨_, _, _, rfl, get_last, p.len, by simp, p.app, fun i hi => by simp at hi⟩
theorem GrS.pre {H G : Heap} {x : Value} {l : List Sted} (g : GrS H G x l) : Pre H G := by obtain ⟨_, _, _, _, _, _, _, p, _⟩ := g; exact p
theorem at0_app {α : Type} [Inhabited α] {l : List α} {a : α} {i : Nat} : at0 (l ++ [a]) i = if i < l.length then at0 l i else if i = l.length then a else default := by
  unfold at0
  by_cases h : i < l.length
  · rw [if_pos h]; simp [List.getD_eq_getElem?_getD, List.getElem?_append_left h]
  · rw [if_neg h]
    by_cases h2 : i = l.length
    · rw [if_pos h2]; subst h2; simp [List.getD_eq_getElem?_getD]
    · rw [if_neg h2, List.getD_eq_getElem?_getD, List.getElem?_eq_none (by simp; omega)]; rfl
theorem GrS.push {H G : Heap} {x : Value} {l : List Sted} {s : Sted} {y : Value} (g : GrS H G x l) (hy : GrN H G y 2 s.rows.length (chsC s.rows)) (hb : (l.length + 1) * 32 ≤ roomMax) {wb : Bool} :
    ∃ x' G', ((srcOf 5 (G ++ [⟨stC s y, 5, 0, false⟩]) (slc G.length 0 0 1 1)).bind fun q => appendTo H.length wb 5 32 (G ++ [⟨stC s y, 5, 0, false⟩]) x q.1 q.2) = some (x', G') ∧ GrS H G' x' (l ++ [s]) ∧ ∀ (b' : Nat) (k : Blk), G[b']? = some k → k.esz ≠ 5 → G'[b']? = some k := by
  obtain ⟨b, ver, vs, rfl, h1, h2, h3, h4, h5⟩ := g
  obtain ⟨G1, hG1⟩ : ∃ G1, G1 = G ++ [(⟨stC s y, 5, 0, false⟩ : Blk)] := ⟨_, rfl⟩
  have p1 : Pre G G1 := by rw [hG1]; exact Pre.one
  have h1' : G1[b]? = some ⟨vs, 5, ver, false⟩ := by rw [p1.get (List.getElem?_eq_some_iff.1 h1).1]; exact h1
  have e1 : srcOf 5 G1 (slc G.length 0 0 1 1) = some (1, stC s y) := by
    show (rd G1 G.length 0 0 (1 * 5)).map (fun cs => (1, cs)) = _
    rw [Nat.one_mul, hG1, rd_last rfl (by simp [stC])]; rfl
  rw [← hG1]
  have hl : (stC s y).length = 5 := rfl
  refine ⟨slc b 0 (ver + 1) (l.length + 1) (l.length + 1), G1.set b ⟨vs ++ stC s y, 5, ver + 1, false⟩, ?_, ⟨b, ver + 1, vs ++ stC s y, by simp, get_set h1', h2, by simp [h3, hl]; omega, (h4.trans p1).set h2, fun i hi => ?_⟩, fun b' k hk he => ?_⟩
  · rw [e1, Option.bind_some]
    exact appendTo_grow h1' rfl rfl (by simp [may, h2]) rfl h3.symm (by omega) hb
  · rw [at0_app]
    by_cases hil : i < l.length
    · rw [if_pos hil]
      obtain ⟨y', e2, e3⟩ := h5 i hil
      have hm := mul_next (esz := 5) hil
      refine ⟨y', ?_, (e3.app p1).put h2 h1' (by simp)⟩
      rw [← e2]
      unfold elem
      rw [List.drop_append_of_le_length (by omega), List.take_append_of_le_length (by simp; omega)]
    · have hie : i = l.length := by simp at hi; omega
      rw [if_neg hil, if_pos hie]
      subst hie
      refine ⟨y, ?_, (hy.app p1).put h2 h1' (by simp)⟩
      unfold elem
      rw [← h3, List.drop_left, List.take_of_length_le (by rw [hl]; omega)]
  · have hne : b ≠ b' := by
      rintro rfl
      rw [h1] at hk
      cases hk
      exact he rfl
    rw [List.getElem?_set_ne hne, p1.get (List.getElem?_eq_some_iff.1 hk).1]
    exact hk
theorem stepB_b {f g : List Int} {base dx dy : Int} {s : Sted} (h : s.b = base) : (stepB f g base s dx dy).b = base := by
  unfold stepB
  split
  · exact h
  · split
    · rfl
    · exact h
theorem inB_b {f g : List Int} {base dx : Int} {s : Sted} (h : s.b = base) {k : Nat} : (inB f g base dx s k).b = base := by
  induction k with
  | zero => rw [inB_zero]; exact h
  | succ k ih => rw [inB_succ]; exact stepB_b ih
theorem outB_b {f g : List Int} {base : Int} {k : Nat} : (outB f g base k).b = base := by
  induction k with
  | zero => rw [outB_zero]
  | succ k ih => rw [outB_succ]; exact inB_b ih
theorem bestS_b {b : List (List Int)} {k : Nat} {p : Nat → Bool} {i : Nat} : (bestS b k p i).a = 0 ∨ ∃ m : Nat, (bestS b k p i).b = m ∧ m < i := by
  induction i with
  | zero => left; rw [bestS_zero]
  | succ i ih =>
    have keep : (bestS b k p i).a = 0 ∨ ∃ m : Nat, (bestS b k p i).b = m ∧ m < i + 1 := by
      rcases ih with h | ⟨m, h1, h2⟩
      · exact .inl h
      · exact .inr ⟨m, h1, by omega⟩
    rw [bestS_succ, pickB]
    split
    · split
      · exact .inr ⟨i, outB_b, by omega⟩
      · exact keep
    · exact keep
/-- The steps and the depths, page by page. -/
def encP (b : List (List Int)) (lim : Int) (i : Nat) : List Sted × List Int :=
  itN (fun i q => let s := bestS b i (fun j => !decide (lim ≤ nth q.2 j)) i; (q.1 ++ [s], q.2 ++ [depV s q.2])) ([], []) i
theorem encP_zero {b : List (List Int)} {lim : Int} : encP b lim 0 = ([], []) := itN_zero
def encS (b : List (List Int)) (lim : Int) (i : Nat) : Sted := bestS b i (fun j => !decide (lim ≤ nth (encP b lim i).2 j)) i
theorem encP_succ {b : List (List Int)} {lim : Int} {i : Nat} : encP b lim (i + 1) = ((encP b lim i).1 ++ [encS b lim i], (encP b lim i).2 ++ [depV (encS b lim i) (encP b lim i).2]) := itN_succ
theorem encP_len {b : List (List Int)} {lim : Int} {i : Nat} : (encP b lim i).1.length = i ∧ (encP b lim i).2.length = i := by
  induction i with
  | zero => simp [encP_zero]
  | succ i ih => rw [encP_succ]; simp [ih.1, ih.2]
theorem encP_ok {b : List (List Int)} {lim : Int} {i : Nat} : ∀ j, j < i → 0 ≤ nth (encP b lim i).2 j ∧ nth (encP b lim i).2 j ≤ j := by
  induction i with
  | zero => intro j hj; omega
  | succ i ih =>
    intro j hj
    rw [encP_succ]
    simp only []
    rw [nth_app, encP_len.2]
    by_cases h1 : j < i
    · rw [if_pos h1]; exact ih j h1
    · obtain rfl : j = i := by omega
      rw [if_neg h1, if_pos rfl]
      unfold depV
      split
      · omega
      · rename_i ha
        rcases bestS_b (b := b) (k := j) (p := fun q => !decide (lim ≤ nth (encP b lim j).2 q)) (i := j) with h | ⟨m, h2, h3⟩
        · exfalso; apply ha; simp [encS, h]
        · have : (encS b lim j).b.toNat = m := by simp only [encS, h2]; omega
          rw [this]
          have := ih m h3
          omega
/-- Only blocks of one kind have changed. -/
def KeepE (e : Nat) (G G' : Heap) : Prop := ∀ (b : Nat) (k : Blk), G[b]? = some k → k.esz ≠ e → G'[b]? = some k
theorem KeepE.pre {e : Nat} {G G' : Heap} (p : Pre G G') : KeepE e G G' := fun b k h _ => by rw [p.get (List.getElem?_eq_some_iff.1 h).1]; exact h
theorem KeepE.trans {e : Nat} {A B C : Heap} (h : KeepE e A B) (h' : KeepE e B C) : KeepE e A C := fun b k q n => h' b k (h b k q n) n
theorem GrN.keep {e : Nat} {H G G' : Heap} {y : Value} {n : Nat} {vs : List Value} (g : GrN H G y 2 n vs) (k : KeepE e G G') (he : e ≠ 2) (p : Pre H G') : GrN H G' y 2 n vs := by
  rcases g with ⟨b, ver, e1, e2, e3, e4, _⟩ | ⟨e1, e2, e3, _⟩
  · exact .inl ⟨b, ver, e1, k _ _ e2 (by simp only []; omega), e3, e4, p⟩
  · exact .inr ⟨e1, e2, e3, p⟩
theorem GrS.keep {e : Nat} {H G G' : Heap} {x : Value} {l : List Sted} (g : GrS H G x l) (k : KeepE e G G') (he : e ≠ 2) (he5 : e ≠ 5) (p : Pre H G') : GrS H G' x l := by
  obtain ⟨b, ver, vs, e1, h1, h2, h3, _, h5⟩ := g
  refine ⟨b, ver, vs, e1, k _ _ h1 (by simp only []; omega), h2, h3, p, fun i hi => ?_⟩
  obtain ⟨y, e2, e3⟩ := h5 i hi
  exact ⟨y, e2, e3.keep k he p⟩
theorem Gr.keep {e esz : Nat} {H G G' : Heap} {x : Value} {n : Nat} {vs : List Value} (g : Gr H G x esz n vs) (k : KeepE e G G') (he : e ≠ esz) (p : Pre H G') : Gr H G' x esz n vs := by
  obtain ⟨b, ver, e1, h1, h2, h3, _⟩ := g
  exact ⟨b, ver, e1, k _ _ h1 (by simp only []; omega), h2, h3, p⟩
theorem GrS.sts {H G : Heap} {x : Value} {l : List Sted} (g : GrS H G x l) : StS G x l := by
  obtain ⟨b, ver, vs, rfl, h1, h2, h3, h4, h5⟩ := g
  refine ⟨vs, ⟨h3, .inr ⟨b, 0, ver, _, rfl, Nat.le_refl _, by rw [rd_at h1 rfl (by simp only []; omega)]; simp only [List.drop_zero]; rw [List.take_of_length_le (by omega)], _, h1, rfl, rfl⟩⟩, fun i hi => ?_⟩
  obtain ⟨y, e2, e3⟩ := h5 i hi
  exact ⟨y, e2, e3.sl⟩
@[simp] theorem blkOf_adr {b o v : Nat} : blkOf (adr b o v) = some b := rfl
@[simp] theorem blkOf_slc {b o v n c : Nat} : blkOf (slc b o v n c) = some b := rfl
@[simp] theorem blkOf_nil {n c : Nat} : blkOf (.slice none n c) = none := rfl
/-- A piece appended to a list of a call's own. -/
theorem push_at {n0 b ver n esz bytes : Nat} {G : Heap} {vs c : List Value} {wb : Bool} (hg : G[b]? = some ⟨vs, esz, ver, false⟩) (hb : n0 ≤ b) (hl : vs.length = n * esz) (hc : c.length = esz) (hr : (n + 1) * bytes ≤ roomMax) :
    ((srcOf esz (G ++ [⟨c, esz, 0, false⟩]) (slc G.length 0 0 1 1)).bind fun q => appendTo n0 wb esz bytes (G ++ [⟨c, esz, 0, false⟩]) (slc b 0 ver n n) q.1 q.2) =
      some (slc b 0 (ver + 1) (n + 1) (n + 1), (G ++ [(⟨c, esz, 0, false⟩ : Blk)]).set b ⟨vs ++ c, esz, ver + 1, false⟩) := by
  have h1' : (G ++ [(⟨c, esz, 0, false⟩ : Blk)])[b]? = some ⟨vs, esz, ver, false⟩ := by rw [List.getElem?_append_left (List.getElem?_eq_some_iff.1 hg).1]; exact hg
  have e1 : srcOf esz (G ++ [⟨c, esz, 0, false⟩]) (slc G.length 0 0 1 1) = some (1, c) := by
    show (rd (G ++ [⟨c, esz, 0, false⟩]) G.length 0 0 (1 * esz)).map (fun cs => (1, cs)) = _
    rw [Nat.one_mul, rd_last rfl (by simpa using hc)]; rfl
  rw [e1, Option.bind_some]
  exact appendTo_grow h1' rfl rfl (by simp [may, hb]) rfl hl.symm (by omega) hr
theorem push_get {b b' : Nat} {G : Heap} {k k' : Blk} (hb : b' ≠ b) (hl : b' < G.length) : ((G ++ [k']).set b k)[b']? = G[b']? := by
  rw [List.getElem?_set_ne (Ne.symm hb), List.getElem?_append_left hl]
theorem push_self {b : Nat} {G : Heap} {k k' : Blk} (hl : b < G.length) : ((G ++ [k']).set b k)[b]? = some k := by
  rw [List.getElem?_set_self (by simp; omega)]
theorem push_pre {H G : Heap} {b : Nat} {k k' : Blk} (p : Pre H G) (hb : H.length ≤ b) : Pre H ((G ++ [k']).set b k) := (p.app).set hb
theorem GrN.ownC {H G : Heap} {x : Value} {esz n : Nat} {vs : List Value} (g : GrN H G x esz n vs) : Own G x (blkOf x) H.length esz n vs := by
  rcases g with ⟨b, ver, rfl, h1, h2, h3, _⟩ | ⟨rfl, rfl, rfl, _⟩
  · exact ⟨h3, h2, ver, n, [], rfl, Nat.le_refl _, by rw [List.append_nil]; exact h1⟩
  · exact ⟨by simp, rfl, rfl⟩
/-- Cells of records of five, the last of which leads to rows of its own. -/
structure RawD (n0 : Nat) (G : Heap) (b ver n : Nat) (ys : Nat → Value) (β : Nat → Option Nat) (hd : Nat → List Value) (m : Nat → Nat) (rc : Nat → List Value) : Prop where
  lo : n0 ≤ b
  out : ∃ vs, G[b]? = some ⟨vs, 5, ver, false⟩ ∧ vs.length = n * 5 ∧ ∀ i, i < n → elem vs 5 i = hd i ++ [ys i]
  hl : ∀ i, i < n → (hd i).length = 4
  row : ∀ i, i < n → Own G (ys i) (β i) n0 2 (m i) (rc i)
  dis : ∀ i j q, i < n → j < n → β i = some q → β j = some q → i = j
theorem RawD.lt {n0 b ver n : Nat} {G : Heap} {ys : Nat → Value} {β : Nat → Option Nat} {hd rc : Nat → List Value} {m : Nat → Nat} (h : RawD n0 G b ver n ys β hd m rc) : b < G.length := by
  obtain ⟨vs, hg, _⟩ := h.out
  exact (List.getElem?_eq_some_iff.1 hg).1
theorem RawD.ne {n0 b ver n : Nat} {G : Heap} {ys : Nat → Value} {β : Nat → Option Nat} {hd rc : Nat → List Value} {m : Nat → Nat} (h : RawD n0 G b ver n ys β hd m rc) {i q : Nat} (hi : i < n) (hq : β i = some q) : q ≠ b := by
  rintro rfl
  obtain ⟨vs, hg, _⟩ := h.out
  obtain ⟨_, h2⟩ := h.row i hi
  rw [hq] at h2
  obtain ⟨_, ver', cap, rest, _, _, hg'⟩ := h2
  rw [hg] at hg'
  cases hg'
/-- What keeps the blocks keeps the list. -/
theorem RawD.keep {n0 b ver n : Nat} {G G' : Heap} {ys : Nat → Value} {β : Nat → Option Nat} {hd rc : Nat → List Value} {m : Nat → Nat} (h : RawD n0 G b ver n ys β hd m rc)
    (k : ∀ (b' : Nat) (k : Blk), G[b']? = some k → k.esz ≠ 1 → G'[b']? = some k) : RawD n0 G' b ver n ys β hd m rc := by
  refine ⟨h.lo, ?_, h.hl, fun i hi => ?_, h.dis⟩
  · obtain ⟨vs, hg, h2⟩ := h.out
    exact ⟨vs, k _ _ hg (by simp), h2⟩
  · obtain ⟨h1, h2⟩ := h.row i hi
    refine ⟨h1, ?_⟩
    cases hb : β i with
    | none => rw [hb] at h2; exact h2
    | some q =>
      rw [hb] at h2
      obtain ⟨hb, ver', cap, rest, e1, hc, hg⟩ := h2
      exact ⟨hb, ver', cap, rest, e1, hc, k _ _ hg (by simp)⟩
theorem RawD.pre {n0 b ver n : Nat} {G G' : Heap} {ys : Nat → Value} {β : Nat → Option Nat} {hd rc : Nat → List Value} {m : Nat → Nat} (p : Pre G G') (h : RawD n0 G b ver n ys β hd m rc) : RawD n0 G' b ver n ys β hd m rc :=
  h.keep fun b' k hk _ => by rw [p.get (List.getElem?_eq_some_iff.1 hk).1]; exact hk
theorem RawD.low {n0 n1 b ver n : Nat} {G : Heap} {ys : Nat → Value} {β : Nat → Option Nat} {hd rc : Nat → List Value} {m : Nat → Nat} (h : RawD n0 G b ver n ys β hd m rc) (hn : n1 ≤ n0) : RawD n1 G b ver n ys β hd m rc :=
  ⟨Nat.le_trans hn h.lo, h.out, h.hl, fun i hi => (h.row i hi).low hn, h.dis⟩
theorem elem_set {vs : List Value} {esz i o j : Nat} {v : Value} (ho : o < esz) : elem (vs.set (i * esz + o) v) esz j = if j = i then (elem vs esz i).set o v else elem vs esz j := by
  unfold elem
  rw [List.drop_set]
  by_cases h : j = i
  · subst h
    rw [if_pos rfl, if_neg (by omega), List.take_set, show j * esz + o - j * esz = o by omega]
  · rw [if_neg h]
    rcases Nat.lt_or_ge i j with h1 | h1
    · have := mul_next (esz := esz) h1
      rw [if_pos (by omega)]
    · have := mul_next (esz := esz) (show j < i by omega)
      rw [if_neg (by omega), List.take_set, List.set_eq_of_length_le]
      rw [List.length_take]; omega
theorem RawD.cell {n0 b ver n n1 : Nat} {G : Heap} {ys : Nat → Value} {β : Nat → Option Nat} {hd rc : Nat → List Value} {m : Nat → Nat} (h : RawD n0 G b ver n ys β hd m rc) {i o : Nat} {v : Value} (hi : i < n) (ho : o < 4) (hv : old0 0 v = true) :
    ∃ G', wr n1 true G b (i * 5 + o) ver [v] = some G' ∧ SameB G G' (some b) ∧ RawD n0 G' b ver n ys β (fun j => if j = i then (hd i).set o v else hd j) m rc := by
  obtain ⟨vs, hg, hl, he⟩ := h.out
  have hm := mul_next (esz := 5) hi
  refine ⟨_, wr_at hg rfl rfl (by simp [may, hv]) (by simp; omega), .set, h.lo, ⟨_, get_set hg, ?_, fun j hj => ?_⟩, fun j hj => ?_, fun j hj => ?_, h.dis⟩
  · simp only []
    rw [splice_one (by omega)]; simpa using hl
  · simp only []
    rw [splice_one (by omega), elem_set (by omega), he i hi, he j hj, List.set_append_left _ _ (by rw [h.hl i hi]; exact ho)]
    by_cases hji : j = i
    · subst hji; rw [if_pos rfl, if_pos rfl]
    · rw [if_neg hji, if_neg hji]
  · split
    · rw [List.length_set]; exact h.hl i hi
    · exact h.hl j hj
  · exact (h.row j hj).agree fun q hq => by rw [List.getElem?_set_ne (Ne.symm (h.ne hj hq))]
theorem RawD.rows {n0 b ver n : Nat} {G G' : Heap} {ys : Nat → Value} {β : Nat → Option Nat} {hd rc : Nat → List Value} {m : Nat → Nat} (h : RawD n0 G b ver n ys β hd m rc) {i : Nat} {c : List Value} (hi : i < n) (s : SameB G G' (β i)) (ho : Own G' (ys i) (β i) n0 2 (m i) c) :
    RawD n0 G' b ver n ys β hd m (fun j => if j = i then c else rc j) := by
  refine ⟨h.lo, ?_, h.hl, fun j hj => ?_, h.dis⟩
  · obtain ⟨vs, hg, h2⟩ := h.out
    refine ⟨vs, ?_, h2⟩
    rw [s.get]
    · exact hg
    · intro hq; exact h.ne hi hq rfl
  · by_cases hji : j = i
    · subst hji; simp only [if_pos rfl]; exact ho
    · simp only [if_neg hji]
      exact (h.row j hj).agree fun q hq => s.get q fun he => hji (h.dis j i q hj hi hq he)
theorem RawD.congr {n0 b ver n : Nat} {G : Heap} {ys : Nat → Value} {β : Nat → Option Nat} {hd rc hd' rc' : Nat → List Value} {m : Nat → Nat} (h : RawD n0 G b ver n ys β hd m rc) (h1 : ∀ i, i < n → hd i = hd' i) (h2 : ∀ i, i < n → rc i = rc' i) : RawD n0 G b ver n ys β hd' m rc' := by
  refine ⟨h.lo, ?_, fun i hi => by rw [← h1 i hi]; exact h.hl i hi, fun i hi => by rw [← h2 i hi]; exact h.row i hi, h.dis⟩
  obtain ⟨vs, hg, hl, he⟩ := h.out
  exact ⟨vs, hg, hl, fun i hi => by rw [← h1 i hi]; exact he i hi⟩
/- Marks. -/
def msH (c : Int) : List Value := [.int .i8 (IntKind.wrap .i8 c), .int .i8 (IntKind.wrap .i8 (c + 1)), .int .i8 (IntKind.wrap .i8 (c + 2)), .int .i8 (IntKind.wrap .i8 (c + 3))]
def mkP (m : Nat → Nat) (i : Nat) : Int := 101 + (mkS m i : Nat)
theorem set4 {l : List Value} {a b c d : Value} (h : l.length = 4) : (((l.set 0 a).set 1 b).set 2 c).set 3 d = [a, b, c, d] := by
  match l, h with
  | [_, _, _, _], _ => rfl
theorem SameB.fr' {G G' : Heap} {β : Option Nat} (s : SameB G G' β) {n0 : Nat} (hb : ∀ b, β = some b → n0 ≤ b) {j : Nat} (hj : j < n0) : G'[j]? = G[j]? := s.get j fun h => by have := hb j h; omega
theorem markD {n0 b ver n cap : Nat} {G : Heap} {ys : Nat → Value} {β : Nat → Option Nat} {hd rc : Nat → List Value} {m : Nat → Nat} (h : RawD n0 G b ver n ys β hd m rc) (hn : n ≤ 1000) (hm : ∀ i, i < n → m i ≤ 100000) :
    ∃ r, Call tab false 181 [slc b 0 ver n cap, .int .i64 101] G = some r ∧ ∃ G', r = (.int .i64 (mkP m n), G') ∧ G'.length = G.length ∧ (∀ j, j < n0 → G'[j]? = G[j]?) ∧ RawD n0 G' b ver n ys β (fun i => msH (mkP m i)) m (fun i => mkL (ms2 (mkP m i + 4)) (m i * 2)) := by
  refine Call_ex t181 (.inl rfl) rfl ?_
  simp [c181, k181]
  refine WP_count 5 n n rfl (fun i e G' => e 0 = slc b 0 ver n cap ∧ e 1 = .int .i64 (mkP m i) ∧ G'.length = G.length ∧ (∀ j, j < n0 → G'[j]? = G[j]?) ∧ RawD n0 G' b ver n ys β (fun j => if j < i then msH (mkP m j) else hd j) m (fun j => if j < i then mkL (ms2 (mkP m j + 4)) (m j * 2) else rc j)) (by omega) ?_ ?_ (by simp) ⟨by simp, by simp [mkP, mkS, itN_zero], rfl, fun _ _ => rfl, h.congr (fun i hi => by simp) (fun i hi => by simp)⟩
  · rintro i e G' _ hi hii e4 h5 ⟨h0, h1, hlen, hfr, hI⟩
    have hmi := hm i hi
    have hS : mkS m i ≤ i * 200004 := by
      have : ∀ i, i ≤ n → mkS m i ≤ i * 200004 := by
        intro i
        induction i with
        | zero => intro _; simp [mkS, itN_zero]
        | succ i ih =>
          intro hi
          have h1 := ih (by omega)
          have h2 := hm i (by omega)
          rw [mkS_succ]; omega
      exact this i (by omega)
    have hPs : mkP m (i + 1) = mkP m i + 4 + (m i * 2 : Nat) := by unfold mkP; rw [mkS_succ]; omega
    have hP0 : 101 ≤ mkP m i ∧ mkP m i ≤ 300000000 := by unfold mkP; omega
    generalize hc : mkP m i = c at *
    obtain ⟨G1, q1, s1, I1⟩ := hI.cell (n1 := G.length) (i := i) (o := 0) (v := .int .i8 (IntKind.wrap .i8 c)) hi (by omega) old0_int
    obtain ⟨G2, q2, s2, I2⟩ := I1.cell (n1 := G.length) (i := i) (o := 1) (v := .int .i8 (IntKind.wrap .i8 (c + 1))) hi (by omega) old0_int
    obtain ⟨G3, q3, s3, I3⟩ := I2.cell (n1 := G.length) (i := i) (o := 2) (v := .int .i8 (IntKind.wrap .i8 (c + 2))) hi (by omega) old0_int
    obtain ⟨G4, q4, s4, I4⟩ := I3.cell (n1 := G.length) (i := i) (o := 3) (v := .int .i8 (IntKind.wrap .i8 (c + 3))) hi (by omega) old0_int
    obtain ⟨G5, w2, s5, o5⟩ := mk391 G4 (ys i) (β i) n0 (m i) _ (c + 4) (I4.row i hi) (by omega) (by omega) (by omega)
    have I5 := I4.rows hi s5 o5
    obtain ⟨vs, o1, o2, o3⟩ := I4.out
    have hrd : rd G4 b (i * 5 + 4) ver 1 = some [ys i] := by
      have hmn := mul_next (esz := 5) hi
      rw [rd_at o1 rfl (by simp only []; omega)]
      have he := elem_at (vs := vs) (esz := 5) (i := i) (o := 4) (by omega)
      rw [o3 i hi, List.getElem?_append_right (Nat.le_of_eq (I4.hl i hi)), I4.hl i hi] at he
      have he' : vs[i * 5 + 4]? = some (ys i) := by rw [← he]; rfl
      obtain ⟨hlt, hv⟩ := List.getElem?_eq_some_iff.1 he'
      simp only []
      rw [List.drop_eq_getElem_cons hlt, hv]; rfl
    have u1 : IntKind.wrap .i64 (c + 1) = c + 1 := wrap64 (by omega)
    have u2 : IntKind.wrap .i64 (c + 1 + 1) = c + 2 := by rw [wrap64 (by omega)]; omega
    have u3 : IntKind.wrap .i64 (c + 2 + 1) = c + 3 := by rw [wrap64 (by omega)]; omega
    have u4 : IntKind.wrap .i64 (c + 3 + 1) = c + 4 := by rw [wrap64 (by omega)]; omega
    have hlo := h.lo
    have hβ : ∀ q, β i = some q → n0 ≤ q := (I4.row i hi).below
    rw [Nat.add_zero] at q1
    simp [b181_1, h5, h0, h1, hii, at_nat hi, q1, q2, q3, q4, hrd, w2, wbOf, u1, u2, u3, u4, e4, hPs, -Int.natCast_add, -Int.natCast_mul]
    refine ⟨by rw [s5.len, s4.len, s3.len, s2.len, s1.len, hlen], fun j hj => ?_, I5.congr (fun j hj => ?_) fun j hj => ?_⟩
    · rw [s5.fr' hβ hj, s4.fr' (fun b hb => by cases hb; exact hlo) hj, s3.fr' (fun b hb => by cases hb; exact hlo) hj, s2.fr' (fun b hb => by cases hb; exact hlo) hj, s1.fr' (fun b hb => by cases hb; exact hlo) hj, hfr j hj]
    · by_cases hji : j = i
      · subst hji
        simp only [if_true, if_neg (Nat.lt_irrefl j)]
        rw [if_pos (Nat.lt_succ_self j), set4 (h.hl j hj), hc]; rfl
      · simp only [if_neg hji]
        by_cases hlt : j < i
        · rw [if_pos hlt, if_pos (by omega)]
        · rw [if_neg hlt, if_neg (by omega)]
    · by_cases hji : j = i
      · subst hji
        simp only [if_true]
        rw [if_pos (Nat.lt_succ_self j), hc]
      · simp only [if_neg hji]
        by_cases hlt : j < i
        · rw [if_pos hlt, if_pos (by omega)]
        · rw [if_neg hlt, if_neg (by omega)]
  · rintro e G' _ h5 ⟨h0, h1, hlen, hfr, hI⟩
    simp [b181_1, h5, h0, h1]
    have ht : List.take G.length G' = G' := List.take_of_length_le (by rw [hlen]; exact Nat.le_refl _)
    rw [ht]
    exact ⟨by rw [hlen]; omega, hfr, hI.congr (fun i hi => by rw [if_pos hi]) (fun i hi => by rw [if_pos hi])⟩
end Fb
