/- What each function computes. -/
import Derived.Test.YtholaggmhhjjkaaUse1
set_option linter.unusedVariables false
set_option linter.unusedSimpArgs false
namespace Fb
open Go
theorem call579 {pu : Bool} {H : Heap} {e a s : Int} (he : 0 ≤ e ∧ e ≤ 3) (h0 : 0 ≤ a) (h1 : a ≤ s) (hs : 0 < s) (hs2 : s ≤ 200) : Call tab pu 579 [.int .i64 e, .int .i64 a, .int .i64 s] H = some (.int .i64 (shV e a s), H) := by
  refine Call_wp t579 (.inr rfl) rfl ?_
  have hss : 0 < s * s := Int.mul_pos hs hs
  have hv := shV_ok (e := e) h0 h1 hs
  have k0 := mulB (a := s) (A := 200) ⟨by omega, hs2⟩ (b := s) (B := 200) ⟨by omega, hs2⟩
  have k1 := mulB (a := a) (A := 200) ⟨h0, by omega⟩ (b := a) (B := 200) ⟨h0, by omega⟩
  have k2 := mulB (a := s - a) (A := 200) ⟨by omega, by omega⟩ (b := s - a) (B := 200) ⟨by omega, by omega⟩
  have k3 := mulB (a := 2 * a) (A := 400) ⟨by omega, by omega⟩ (b := a) (B := 200) ⟨h0, by omega⟩
  have k4 := mulB (a := 2 * (s - a)) (A := 400) ⟨by omega, by omega⟩ (b := s - a) (B := 200) ⟨by omega, by omega⟩
  have w0 := wr6 (p := s - a) (by omega)
  have w1 := wr6 (p := s * s) (by omega)
  have w2 := wr6 (p := a * 1000) (by omega)
  have w3 := wr6 (p := a * a) (by omega)
  have w4 := wr6 (p := a * a * 1000) (by omega)
  have w5 := wr6 (p := (s - a) * (s - a)) (by omega)
  have w6 := wr6 (p := (s - a) * (s - a) * 1000) (by omega)
  have w7 := wr6 (p := 2 * a) (by omega)
  have w8 := wr6 (p := 2 * a * a) (by omega)
  have w9 := wr6 (p := 2 * a * a * 1000) (by omega)
  have wa := wr6 (p := 2 * (s - a)) (by omega)
  have wb := wr6 (p := 2 * (s - a) * (s - a)) (by omega)
  have wc := wr6 (p := 2 * (s - a) * (s - a) * 1000) (by omega)
  have hs0 : s ≠ 0 := by omega
  have hss0 : s * s ≠ 0 := by omega
  have d1 : (a * 1000).tdiv s = a * 1000 / s := Int.tdiv_eq_ediv_of_nonneg (by omega)
  have d2 : (a * a * 1000).tdiv (s * s) = a * a * 1000 / (s * s) := Int.tdiv_eq_ediv_of_nonneg (by omega)
  have d3 : ((s - a) * (s - a) * 1000).tdiv (s * s) = (s - a) * (s - a) * 1000 / (s * s) := Int.tdiv_eq_ediv_of_nonneg (by omega)
  have d4 : (2 * a * a * 1000).tdiv (s * s) = 2 * a * a * 1000 / (s * s) := Int.tdiv_eq_ediv_of_nonneg (by omega)
  have d5 : (2 * (s - a) * (s - a) * 1000).tdiv (s * s) = 2 * (s - a) * (s - a) * 1000 / (s * s) := Int.tdiv_eq_ediv_of_nonneg (by omega)
  have : e = 0 ∨ e = 1 ∨ e = 2 ∨ e = 3 := by omega
  rcases this with rfl | rfl | rfl | rfl
  · have e1 : shV 0 a s = a * 1000 / s := rfl
    rw [e1] at hv ⊢
    have we := wr6 (p := a * 1000 / s) (by omega)
    simp [c579, k579, w0, w1, w2, hs0, d1, we]
  · have e1 : shV 1 a s = a * a * 1000 / (s * s) := rfl
    rw [e1] at hv ⊢
    have we := wr6 (p := a * a * 1000 / (s * s)) (by omega)
    simp [c579, k579, w0, w1, w3, w4, hs0, d2, we]
  · have e1 : shV 2 a s = 1000 - (s - a) * (s - a) * 1000 / (s * s) := rfl
    have := quoB (p := (s - a) * (s - a) * 1000) (q := s * s) (by omega) hss (by have := mulB (a := s - a) (A := s) ⟨by omega, by omega⟩ (b := s - a) (B := s) ⟨by omega, by omega⟩; omega)
    have we := wr6 (p := (s - a) * (s - a) * 1000 / (s * s)) (by omega)
    have wf := wr6 (p := 1000 - (s - a) * (s - a) * 1000 / (s * s)) (by omega)
    simp [c579, k579, w0, w1, w5, w6, hs0, d3, we, wf, e1]
  · by_cases h2 : 2 * a < s
    · have e1 : shV 3 a s = 2 * a * a * 1000 / (s * s) := by unfold shV; rw [if_neg (by omega), if_neg (by omega), if_neg (by omega), if_pos h2]
      rw [e1] at hv ⊢
      have we := wr6 (p := 2 * a * a * 1000 / (s * s)) (by omega)
      simp [c579, k579, w0, w1, w7, w8, w9, hs0, h2, d4, we]
    · have e1 : shV 3 a s = 1000 - 2 * (s - a) * (s - a) * 1000 / (s * s) := by unfold shV; rw [if_neg (by omega), if_neg (by omega), if_neg (by omega), if_neg h2]
      have := quoB (p := 2 * (s - a) * (s - a) * 1000) (q := s * s) (by omega) hss (by have := mulB (a := 2 * (s - a)) (A := s) ⟨by omega, by omega⟩ (b := s - a) (B := s) ⟨by omega, by omega⟩; omega)
      have we := wr6 (p := 2 * (s - a) * (s - a) * 1000 / (s * s)) (by omega)
      have wf := wr6 (p := 1000 - 2 * (s - a) * (s - a) * 1000 / (s * s)) (by omega)
      simp [c579, k579, w0, w1, w7, wa, wb, wc, hs0, h2, d5, we, wf, e1]
def btw (a b w : Int) : Int := if b < a then a - ((a - b) * w + 500) / 1000 else a + ((b - a) * w + 500) / 1000
theorem btw_zero {a b : Int} : btw a b 0 = a := by unfold btw; split <;> simp
theorem btw_ok {a b w : Int} (ha : -24 ≤ a ∧ a ≤ 24) (hb : -24 ≤ b ∧ b ≤ 24) (hw : 0 ≤ w ∧ w ≤ 1000) : -100 ≤ btw a b w ∧ btw a b w ≤ 100 := by
  unfold btw
  split
  · have := mulB (a := a - b) (A := 48) ⟨by omega, by omega⟩ hw
    omega
  · have := mulB (a := b - a) (A := 48) ⟨by omega, by omega⟩ hw
    omega
theorem call577 {pu : Bool} {H : Heap} {a b w : Int} (ha : -24 ≤ a ∧ a ≤ 24) (hb : -24 ≤ b ∧ b ≤ 24) (hw : 0 ≤ w ∧ w ≤ 1000) : Call tab pu 577 [.int .i64 a, .int .i64 b, .int .i64 w] H = some (.int .i64 (btw a b w), H) := by
  refine Call_wp t577 (.inr rfl) rfl ?_
  have c606 : ∀ d : Int, -48 ≤ d ∧ d ≤ 48 → Call tab true 606 [.int .i64 d] H = some (.int .i64 (szI d), H) := fun d hd => by
    refine Call_wp t606 (.inr rfl) rfl ?_
    have w1 : IntKind.wrap .i64 (-d) = -d := wrap64 (by omega)
    have c1 := call549 (pu := true) (H := H) (a := d) (b := -d)
    rw [szI_max] at c1
    simp [c606, k606, w1, c1]
  have h6 := c606 (b - a) (by omega)
  have w1 : IntKind.wrap .i64 (b - a) = b - a := wrap64 (by omega)
  by_cases h : b < a
  · have hz : szI (b - a) = a - b := by unfold szI; rw [if_pos (by omega)]; omega
    rw [hz] at h6
    have k := mulB (a := a - b) (A := 48) ⟨by omega, by omega⟩ hw
    have w2 := wr6 (p := (a - b) * w) (by omega)
    have w3 := wr6 (p := (a - b) * w + 500) (by omega)
    have d1 : ((a - b) * w + 500).tdiv 1000 = ((a - b) * w + 500) / 1000 := Int.tdiv_eq_ediv_of_nonneg (by omega)
    have w4 := wr6 (p := ((a - b) * w + 500) / 1000) (by omega)
    have w5 : IntKind.wrap .i64 (a - ((a - b) * w + 500) / 1000) = a - ((a - b) * w + 500) / 1000 := wrap64 (by omega)
    simp [c577, k577, w1, h6, w2, w3, d1, w4, h, w5, btw]
  · have hz : szI (b - a) = b - a := by unfold szI; rw [if_neg (by omega)]
    rw [hz] at h6
    have k := mulB (a := b - a) (A := 48) ⟨by omega, by omega⟩ hw
    have w2 := wr6 (p := (b - a) * w) (by omega)
    have w3 := wr6 (p := (b - a) * w + 500) (by omega)
    have d1 : ((b - a) * w + 500).tdiv 1000 = ((b - a) * w + 500) / 1000 := Int.tdiv_eq_ediv_of_nonneg (by omega)
    have w4 := wr6 (p := ((b - a) * w + 500) / 1000) (by omega)
    have w5 : IntKind.wrap .i64 (a + ((b - a) * w + 500) / 1000) = a + ((b - a) * w + 500) / 1000 := wrap64 (by omega)
    simp [c577, k577, w1, h6, w2, w3, d1, w4, h, w5, btw]
theorem call580 {pu : Bool} {H : Heap} {a b w : Int} (ha : -24 ≤ a ∧ a ≤ 24) (hb : -24 ≤ b ∧ b ≤ 24) (hw : 0 ≤ w ∧ w ≤ 1000) : Call tab pu 580 [.int .i64 a, .int .i64 b, .int .i64 w] H = some (.int .i64 (btw a b w), H) := by
  refine Call_wp t580 (.inr rfl) rfl ?_
  by_cases h : b < a
  · have k := mulB (a := a - b) (A := 48) ⟨by omega, by omega⟩ hw
    have w1 := wr6 (p := a - b) (by omega)
    have w2 := wr6 (p := (a - b) * w) (by omega)
    have w3 := wr6 (p := (a - b) * w + 500) (by omega)
    have d1 : ((a - b) * w + 500).tdiv 1000 = ((a - b) * w + 500) / 1000 := Int.tdiv_eq_ediv_of_nonneg (by omega)
    have w4 := wr6 (p := ((a - b) * w + 500) / 1000) (by omega)
    have w5 : IntKind.wrap .i64 (a - ((a - b) * w + 500) / 1000) = a - ((a - b) * w + 500) / 1000 := wrap64 (by omega)
    simp [c580, k580, h, w1, w2, w3, d1, w4, w5, btw]
  · have k := mulB (a := b - a) (A := 48) ⟨by omega, by omega⟩ hw
    have w1 := wr6 (p := b - a) (by omega)
    have w2 := wr6 (p := (b - a) * w) (by omega)
    have w3 := wr6 (p := (b - a) * w + 500) (by omega)
    have d1 : ((b - a) * w + 500).tdiv 1000 = ((b - a) * w + 500) / 1000 := Int.tdiv_eq_ediv_of_nonneg (by omega)
    have w4 := wr6 (p := ((b - a) * w + 500) / 1000) (by omega)
    have w5 : IntKind.wrap .i64 (a + ((b - a) * w + 500) / 1000) = a + ((b - a) * w + 500) / 1000 := wrap64 (by omega)
    simp [c580, k580, h, w1, w2, w3, d1, w4, w5, btw]
/-- How many keys lie at or before a tick. -/
def ckK (ks : List Ky) (t : Int) (k : Nat) : Nat := itN (fun i c => if c = i ∧ (ky ks i).1 ≤ t then i + 1 else c) 0 k
theorem ckK_prop {ks : List Ky} {t : Int} {k : Nat} : ckK ks t k ≤ k ∧ (∀ j, j < ckK ks t k → (ky ks j).1 ≤ t) ∧ (ckK ks t k < k → t < (ky ks (ckK ks t k)).1) := by
  induction k with
  | zero =>
    have : ckK ks t 0 = 0 := itN_zero
    rw [this]
    exact ⟨Nat.le_refl _, fun j hj => by omega, fun h => by omega⟩
  | succ k ih =>
    obtain ⟨h1, h2, h3⟩ := ih
    have hs : ckK ks t (k + 1) = if ckK ks t k = k ∧ (ky ks k).1 ≤ t then k + 1 else ckK ks t k := itN_succ
    rw [hs]
    split
    · rename_i hc
      refine ⟨Nat.le_refl _, fun j hj => ?_, fun h => by omega⟩
      by_cases hjk : j < k
      · exact h2 j (by omega)
      · rw [show j = k by omega]; exact hc.2
    · rename_i hc
      refine ⟨by omega, h2, fun h => ?_⟩
      by_cases hk : ckK ks t k < k
      · exact h3 hk
      · have : ckK ks t k = k := by omega
        rw [this]
        have : ¬ (ky ks k).1 ≤ t := fun z => hc ⟨‹_›, z⟩
        omega
structure TkV (ks : List Ky) : Prop where
  n1 : 1 ≤ ks.length
  n20 : ks.length ≤ 20
  r : ∀ i, i < ks.length → (0 ≤ (ky ks i).1 ∧ (ky ks i).1 ≤ 200) ∧ (-24 ≤ (ky ks i).2.1 ∧ (ky ks i).2.1 ≤ 24) ∧ -24 ≤ (ky ks i).2.2 ∧ (ky ks i).2.2 ≤ 24
  s : ∀ i, i + 1 < ks.length → (ky ks i).1 < (ky ks (i + 1)).1
theorem okTk_V {ks : List Ky} (h : okTk ks = true) : TkV ks := by
  simp only [okTk, Bool.and_eq_true] at h
  obtain ⟨h1, h2⟩ := h
  have hl : 1 ≤ ks.length ∧ ks.length ≤ 20 := by simp [in1] at h2; omega
  refine ⟨hl.1, hl.2, fun i hi => ?_, fun i hi => ?_⟩
  · have := allN_get (p := kyB ks) h1 hi
    simp only [kyB, Bool.and_eq_true, in1, decide_eq_true_eq] at this
    exact ⟨this.1.1.1, this.1.1.2, this.1.2⟩
  · have := allN_get (p := kyB ks) h1 hi
    simp only [kyB, Bool.and_eq_true, in1, decide_eq_true_eq, Bool.or_eq_true] at this
    rcases this.2 with h | h
    · omega
    · exact h
def plW (ks : List Ky) (e t : Int) (c : Nat) : Int := shV e (t - (ky ks (c - 1)).1) ((ky ks c).1 - (ky ks (c - 1)).1)
def plc (ks : List Ky) (e t : Int) : Int × Int :=
  if ckK ks t ks.length = 0 then ((ky ks 0).2.1, (ky ks 0).2.2) else if ckK ks t ks.length = ks.length then ((ky ks (ks.length - 1)).2.1, (ky ks (ks.length - 1)).2.2)
  else (btw (ky ks (ckK ks t ks.length - 1)).2.1 (ky ks (ckK ks t ks.length)).2.1 (plW ks e t (ckK ks t ks.length)), btw (ky ks (ckK ks t ks.length - 1)).2.2 (ky ks (ckK ks t ks.length)).2.2 (plW ks e t (ckK ks t ks.length)))
theorem plc_ok {ks : List Ky} {e t : Int} (V : TkV ks) : (-100 ≤ (plc ks e t).1 ∧ (plc ks e t).1 ≤ 100) ∧ -100 ≤ (plc ks e t).2 ∧ (plc ks e t).2 ≤ 100 := by
  have n1 := V.n1
  obtain ⟨c1, c2, c3⟩ := ckK_prop (ks := ks) (t := t) (k := ks.length)
  unfold plc
  generalize ckK ks t ks.length = c at *
  split
  · have := V.r 0 (by omega)
    simp only []
    omega
  · split
    · have := V.r (ks.length - 1) (by omega)
      simp only []
      omega
    · have a1 := V.r (c - 1) (by omega)
      have a2 := V.r c (by omega)
      have a3 := V.s (c - 1) (by omega)
      rw [show c - 1 + 1 = c by omega] at a3
      have a4 := c2 (c - 1) (by omega)
      have a5 := c3 (by omega)
      have hw := shV_ok (e := e) (a := t - (ky ks (c - 1)).1) (s := (ky ks c).1 - (ky ks (c - 1)).1) (by omega) (by omega) (by omega)
      have h1 := btw_ok a1.2.1 a2.2.1 hw
      have h2 := btw_ok a1.2.2 a2.2.2 hw
      exact ⟨h1, h2⟩
theorem call543 {pu : Bool} {H : Heap} {y : Value} {ks : List Ky} {e t : Int} (h : SlR H y 3 ks.length (kysC ks)) (V : TkV ks) (he : 0 ≤ e ∧ e ≤ 3) (ht : 0 ≤ t ∧ t ≤ 200) :
    Call tab pu 543 [y, .int .i64 e, .int .i64 t] H = some (tup [.int .i64 (plc ks e t).1, .int .i64 (plc ks e t).2], H) := by
  refine Call_wp t543 (.inr rfl) rfl ?_
  have n1 := V.n1
  have n20 := V.n20
  obtain ⟨c1, c2, c3⟩ := ckK_prop (ks := ks) (t := t) (k := ks.length)
  have hpl : plc ks e t = plc ks e t := rfl
  unfold plc at hpl ⊢
  clear hpl
  generalize ckK ks t ks.length = c at *
  simp [c543, k543]
  refine WK_loop (fun i e' G => e' 0 = y ∧ e' 1 = .int .i64 e ∧ e' 2 = .int .i64 t ∧ e' 8 = .int .i64 i ∧ H = G) c ?_ (Nat.zero_le _) ⟨by simp, by simp, by simp, by simp, rfl⟩
  rintro i e' _ _ hi ⟨h0, h1, h2, h8, rfl⟩
  by_cases hic : i < c
  · obtain ⟨q, off, ver, ha, _, r0, _, _⟩ := Kr.at h (j := i) (by omega)
    obtain ⟨b1, _⟩ := V.r i (by omega)
    have w1 : IntKind.wrap .i64 (ky ks i).1 = (ky ks i).1 := wrap64 (by omega)
    have hle := c2 i hic
    have hlt : (i : Int) < ks.length := by omega
    have e9 : IntKind.wrap .i64 ((i : Int) + 1) = ((i + 1 : Nat) : Int) := by rw [wrap64 (by omega)]; omega
    simp [b543_1, h0, h1, h2, h8, SlR.lenV h, hlt, ha, r0, w1, hle, e9, -Int.natCast_add]
    exact hic
  · obtain rfl : i = c := by omega
    by_cases hic0 : i = 0
    · subst hic0
      obtain ⟨q, off, ver, ha, hr, r0, _, _⟩ := Kr.at h (j := 0) (by omega)
      obtain ⟨b1, b2, b3⟩ := V.r 0 (by omega)
      have w1 : IntKind.wrap .i64 (ky ks 0).1 = (ky ks 0).1 := wrap64 (by omega)
      have w2 : IntKind.wrap .i64 (ky ks 0).2.1 = (ky ks 0).2.1 := wrap64 (by omega)
      have w3 : IntKind.wrap .i64 (ky ks 0).2.2 = (ky ks 0).2.2 := wrap64 (by omega)
      have hnle : ¬ (ky ks 0).1 ≤ t := by have := c3 (by omega); omega
      have hlt : (0 : Int) < ks.length := by omega
      have hlt' : 0 < ks.length := by omega
      simp at h8 ha
      simp only [kyC] at hr
      simp [b543_1, h0, h1, h2, h8, SlR.lenV h, hlt', ha, r0, w1, hnle, hr, stc3, ldc3b, ldc3c, w2, w3, skip]
    · obtain ⟨m, rfl⟩ : ∃ m, i = m + 1 := ⟨i - 1, by omega⟩
      obtain ⟨q, off, ver, ha, hr, r0, _, _⟩ := Kr.at h (j := m) (by omega)
      obtain ⟨b1, b2, b3⟩ := V.r m (by omega)
      have w2 : IntKind.wrap .i64 (ky ks m).2.1 = (ky ks m).2.1 := wrap64 (by omega)
      have w3 : IntKind.wrap .i64 (ky ks m).2.2 = (ky ks m).2.2 := wrap64 (by omega)
      have w1 : IntKind.wrap .i64 (ky ks m).1 = (ky ks m).1 := wrap64 (by omega)
      have e5 : IntKind.wrap .i64 (((m + 1 : Nat) : Int) - 1) = (m : Int) := by rw [wrap64 (by omega)]; omega
      have z1 : (((m + 1 : Nat) : Int) == 0) = false := by rw [beq_eq_false_iff_ne]; omega
      have hm1 : m + 1 ≠ 0 := by omega
      simp only [kyC] at hr
      by_cases hn : m + 1 = ks.length
      · have hnl : ¬ (((m + 1 : Nat) : Int) < ks.length) := by omega
        have z2 : (((m + 1 : Nat) : Int) == ks.length) = true := by rw [beq_iff_eq]; omega
        have hmx : (if (m : Int) > 0 then (m : Int) else 0) = (m : Int) := by split <;> omega
        have hkl : ks.length - 1 = m := by omega
        have hnl2 : ¬ (m + 1 < ks.length) := by omega
        have hmx2 : (if 0 < m then (m : Int) else 0) = (m : Int) := by split <;> omega
        rw [if_neg hm1, if_pos hn, hkl]
        clear hn hkl hnl2
        simp [b543_1, h0, h1, h2, h8, SlR.lenV h, hnl, z1, z2, e5, hmx, hmx2, ha, hr, stc3, ldc3b, ldc3c, w2, w3, skip, -Int.natCast_add]
      · have hlt : ((m + 1 : Nat) : Int) < ks.length := by omega
        have z2 : (((m + 1 : Nat) : Int) == ks.length) = false := by rw [beq_eq_false_iff_ne]; omega
        obtain ⟨q', off', ver', ha', hr', r0', _, _⟩ := Kr.at h (j := m + 1) (by omega)
        obtain ⟨b1', b2', b3'⟩ := V.r (m + 1) (by omega)
        have w1' : IntKind.wrap .i64 (ky ks (m + 1)).1 = (ky ks (m + 1)).1 := wrap64 (by omega)
        have w2' : IntKind.wrap .i64 (ky ks (m + 1)).2.1 = (ky ks (m + 1)).2.1 := wrap64 (by omega)
        have w3' : IntKind.wrap .i64 (ky ks (m + 1)).2.2 = (ky ks (m + 1)).2.2 := wrap64 (by omega)
        have a3 := V.s m (by omega)
        have a4 := c2 m (by omega)
        have a5 := c3 (by omega)
        have hnle : ¬ (ky ks (m + 1)).1 ≤ t := by omega
        have w4 : IntKind.wrap .i64 (t - (ky ks m).1) = t - (ky ks m).1 := wrap64 (by omega)
        have w5 : IntKind.wrap .i16 ((ky ks (m + 1)).1 - (ky ks m).1) = (ky ks (m + 1)).1 - (ky ks m).1 := wrap16 (by omega)
        have w6 : IntKind.wrap .i64 ((ky ks (m + 1)).1 - (ky ks m).1) = (ky ks (m + 1)).1 - (ky ks m).1 := wrap64 (by omega)
        have hw := shV_ok (e := e) (a := t - (ky ks m).1) (s := (ky ks (m + 1)).1 - (ky ks m).1) (by omega) (by omega) (by omega)
        have k1 := call579 (pu := true) (H := H) (e := e) (a := t - (ky ks m).1) (s := (ky ks (m + 1)).1 - (ky ks m).1) he (by omega) (by omega) (by omega) (by omega)
        have k2 := call580 (pu := true) (H := H) b2 b2' hw
        have k3 := call580 (pu := true) (H := H) b3 b3' hw
        rw [if_neg hm1, if_neg hn]
        simp only [plW, show m + 1 - 1 = m from rfl]
        simp only [kyC] at hr'
        simp [b543_1, h0, h1, h2, h8, SlR.lenV h, hlt, ha', r0', w1', hnle, z1, z2, e5, ha, hr, hr', stc3, ldc3a, ldc3b, ldc3c, w1, w2, w3, w2', w3', w4, w5, w6, k1, k2, k3, -Int.natCast_add]
theorem call538 {pu : Bool} {H : Heap} {y : Value} {ks : List Ky} {e t : Int} (h : SlR H y 3 ks.length (kysC ks)) (V : TkV ks) (he : 0 ≤ e ∧ e ≤ 3) (ht : 0 ≤ t ∧ t ≤ 200) :
    Call tab pu 538 [y, .int .i64 e, .int .i64 t] H = some (tup [.int .i64 (plc ks e t).1, .int .i64 (plc ks e t).2], H) := by
  refine Call_wp t538 (.inr rfl) rfl ?_
  have n1 := V.n1
  have n20 := V.n20
  obtain ⟨c1, c2, c3⟩ := ckK_prop (ks := ks) (t := t) (k := ks.length)
  unfold plc
  generalize ckK ks t ks.length = c at *
  simp [c538, k538]
  refine WK_loop (fun i e' G => e' 0 = y ∧ e' 1 = .int .i64 e ∧ e' 2 = .int .i64 t ∧ e' 8 = .int .i64 i ∧ H = G) (c - 1) ?_ (Nat.zero_le _) ⟨by simp, by simp, by simp, by simp, rfl⟩
  rintro i e' _ _ hi ⟨h0, h1, h2, h8, rfl⟩
  have e9 : IntKind.wrap .i64 ((i : Int) + 1) = ((i + 1 : Nat) : Int) := by rw [wrap64 (by omega)]; omega
  obtain ⟨q, off, ver, ha, _, r0, r1, r2⟩ := Kr.at h (j := i) (by omega)
  obtain ⟨b1, b2, b3⟩ := V.r i (by omega)
  have w1 : IntKind.wrap .i64 (ky ks i).1 = (ky ks i).1 := wrap64 (by omega)
  have w2 : IntKind.wrap .i64 (ky ks i).2.1 = (ky ks i).2.1 := wrap64 (by omega)
  have w3 : IntKind.wrap .i64 (ky ks i).2.2 = (ky ks i).2.2 := wrap64 (by omega)
  by_cases hic : i < c - 1
  · obtain ⟨q', off', ver', ha', _, r0', _, _⟩ := Kr.at h (j := i + 1) (by omega)
    obtain ⟨b1', _⟩ := V.r (i + 1) (by omega)
    have w1' : IntKind.wrap .i64 (ky ks (i + 1)).1 = (ky ks (i + 1)).1 := wrap64 (by omega)
    have hle := c2 (i + 1) (by omega)
    have hlt : ((i + 1 : Nat) : Int) < ks.length := by omega
    simp [b538_1, h0, h1, h2, h8, e9, SlR.lenV h, hlt, ha', r0', w1', hle, -Int.natCast_add]
    exact hic
  · obtain rfl : i = c - 1 := by omega
    by_cases hn : c - 1 + 1 = ks.length
    · have hnl : ¬ (((c - 1 + 1 : Nat) : Int) < ks.length) := by omega
      have z2 : (((c - 1 + 1 : Nat) : Int) == ks.length) = true := by rw [beq_iff_eq]; omega
      have hval : (if c = 0 then ((ky ks 0).2.1, (ky ks 0).2.2) else if c = ks.length then ((ky ks (ks.length - 1)).2.1, (ky ks (ks.length - 1)).2.2) else (btw (ky ks (c - 1)).2.1 (ky ks c).2.1 (plW ks e t c), btw (ky ks (c - 1)).2.2 (ky ks c).2.2 (plW ks e t c))) = ((ky ks (c - 1)).2.1, (ky ks (c - 1)).2.2) := by
        by_cases hc0 : c = 0
        · rw [if_pos hc0, hc0]
        · have hcn : c = ks.length := by omega
          rw [if_neg hc0, if_pos hcn, ← hcn]
      rw [hval]
      simp [b538_1, h0, h1, h2, h8, e9, SlR.lenV h, hnl, z2, ha, r1, r2, w2, w3, skip, -Int.natCast_add]
    · have hlt : ((c - 1 + 1 : Nat) : Int) < ks.length := by omega
      have z2 : (((c - 1 + 1 : Nat) : Int) == ks.length) = false := by rw [beq_eq_false_iff_ne]; omega
      obtain ⟨q', off', ver', ha', _, r0', r1', r2'⟩ := Kr.at h (j := c - 1 + 1) (by omega)
      obtain ⟨b1', b2', b3'⟩ := V.r (c - 1 + 1) (by omega)
      have w1' : IntKind.wrap .i64 (ky ks (c - 1 + 1)).1 = (ky ks (c - 1 + 1)).1 := wrap64 (by omega)
      have w2' : IntKind.wrap .i64 (ky ks (c - 1 + 1)).2.1 = (ky ks (c - 1 + 1)).2.1 := wrap64 (by omega)
      have w3' : IntKind.wrap .i64 (ky ks (c - 1 + 1)).2.2 = (ky ks (c - 1 + 1)).2.2 := wrap64 (by omega)
      have a3 := V.s (c - 1) (by omega)
      have hnle : ¬ (ky ks (c - 1 + 1)).1 ≤ t := by
        by_cases hc0 : c = 0
        · subst hc0
          have := c3 (by omega)
          simp only [show (0 : Nat) - 1 = 0 from rfl] at a3 ⊢
          omega
        · have := c3 (by omega)
          rw [show c - 1 + 1 = c by omega]; omega
      by_cases hle : t ≤ (ky ks (c - 1)).1
      · have hval : (if c = 0 then ((ky ks 0).2.1, (ky ks 0).2.2) else if c = ks.length then ((ky ks (ks.length - 1)).2.1, (ky ks (ks.length - 1)).2.2) else (btw (ky ks (c - 1)).2.1 (ky ks c).2.1 (plW ks e t c), btw (ky ks (c - 1)).2.2 (ky ks c).2.2 (plW ks e t c))) = ((ky ks (c - 1)).2.1, (ky ks (c - 1)).2.2) := by
          by_cases hc0 : c = 0
          · rw [if_pos hc0, hc0]
          · have a4 := c2 (c - 1) (by omega)
            have e1 : t - (ky ks (c - 1)).1 = 0 := by omega
            rw [show c - 1 + 1 = c by omega] at a3
            have : plW ks e t c = 0 := by unfold plW; rw [e1]; exact shV_zero (by omega)
            rw [if_neg hc0, if_neg (by omega), this, btw_zero, btw_zero]
        rw [hval]
        simp [b538_1, h0, h1, h2, h8, e9, SlR.lenV h, hlt, ha', r0', w1', hnle, z2, ha, r0, r1, r2, w1, w2, w3, hle, -Int.natCast_add]
      · have hc0 : c ≠ 0 := fun hc => by
          subst hc
          have := c3 (by omega)
          simp only [show (0 : Nat) - 1 = 0 from rfl] at hle
          omega
        have hcc : c - 1 + 1 = c := by omega
        have hval : (if c = 0 then ((ky ks 0).2.1, (ky ks 0).2.2) else if c = ks.length then ((ky ks (ks.length - 1)).2.1, (ky ks (ks.length - 1)).2.2) else (btw (ky ks (c - 1)).2.1 (ky ks c).2.1 (plW ks e t c), btw (ky ks (c - 1)).2.2 (ky ks c).2.2 (plW ks e t c))) = (btw (ky ks (c - 1)).2.1 (ky ks (c - 1 + 1)).2.1 (shV e (t - (ky ks (c - 1)).1) ((ky ks (c - 1 + 1)).1 - (ky ks (c - 1)).1)), btw (ky ks (c - 1)).2.2 (ky ks (c - 1 + 1)).2.2 (shV e (t - (ky ks (c - 1)).1) ((ky ks (c - 1 + 1)).1 - (ky ks (c - 1)).1))) := by
          rw [if_neg hc0, if_neg (by omega), hcc]; rfl
        rw [hval]
        have w4 : IntKind.wrap .i64 (t - (ky ks (c - 1)).1) = t - (ky ks (c - 1)).1 := wrap64 (by omega)
        have w6 : IntKind.wrap .i64 ((ky ks (c - 1 + 1)).1 - (ky ks (c - 1)).1) = (ky ks (c - 1 + 1)).1 - (ky ks (c - 1)).1 := wrap64 (by omega)
        have hw := shV_ok (e := e) (a := t - (ky ks (c - 1)).1) (s := (ky ks (c - 1 + 1)).1 - (ky ks (c - 1)).1) (by omega) (by omega) (by omega)
        have k1 := call576 (pu := true) (H := H) (e := e) (a := t - (ky ks (c - 1)).1) (s := (ky ks (c - 1 + 1)).1 - (ky ks (c - 1)).1) he (by omega) (by omega) (by omega) (by omega)
        have k2 := call577 (pu := true) (H := H) b2 b2' hw
        have k3 := call577 (pu := true) (H := H) b3 b3' hw
        simp [b538_1, h0, h1, h2, h8, e9, SlR.lenV h, hlt, ha', r0', r1', r2', w1', w2', w3', hnle, z2, ha, r0, r1, r2, w1, w2, w3, hle, w4, w6, k1, k2, k3, -Int.natCast_add]
def ptFr (s : Pt) (t : Int) : List Int := shF s.f (plc s.ks s.e t).1 (plc s.ks s.e t).2
theorem ptFr_W {s : Pt} {t : Int} : FrW (ptFr s t) := dotsF_W
theorem ptFr_ok {s : Pt} {t : Int} : okF (ptFr s t) = true := dotsF_ok
theorem okPt_V {s : Pt} (h : okPt s = true) : okF s.f = true ∧ TkV s.ks ∧ 0 ≤ s.e ∧ s.e ≤ 3 := by
  simp only [okPt, Bool.and_eq_true] at h
  have := h.2
  simp [in1] at this
  exact ⟨h.1.1, okTk_V h.1.2, this⟩
theorem PtW.fr {s : Pt} (h : PtW s) : FrW s.f := ⟨s.len, h.ok⟩
theorem call427 {pu : Bool} {H : Heap} {s : Pt} {y : Value} {t : Int} (hy : Kr H y s) (hw : PtW s) (hk : okPt s = true) (ht : 0 ≤ t ∧ t ≤ 200) : Call tab pu 427 [agg (ptC s y), .int .i64 t] H = some (iv .u16 (ptFr s t), H) := by
  refine Call_wp t427 (.inr rfl) rfl ?_
  obtain ⟨h1, V, he⟩ := okPt_V hk
  have hl := s.len
  have w1 : IntKind.wrap .i64 s.e = s.e := wrap64 (by omega)
  have c1 := call543 (pu := true) hy V he ht
  obtain ⟨p1, p2⟩ := plc_ok (e := s.e) (t := t) V
  have c2 := call358 (pu := true) (H := H) (dx := (plc s.ks s.e t).1) (dy := (plc s.ks s.e t).2) hw.fr h1 (by omega) (by omega)
  have e1 : shF s.f (plc s.ks s.e t).1 (plc s.ks s.e t).2 = ptFr s t := rfl
  rw [e1] at c2
  have s3 := stc_zr (k := .u16) (n := 12) (l := ptFr s t) ptFr_W.len
  simp [c427, k427, ptC, ldP0 hl, ldP12 hl, ldP13 hl, w1, c1, c2, zs_cs, agg_cs, s3, ptFr_W.len]
theorem call423 {pu : Bool} {H : Heap} {q off ver : Nat} {s : Pt} {y : Value} {t : Int} (hr : PtR H q off ver s y) (hw : PtW s) (hk : okPt s = true) (ht : 0 ≤ t ∧ t ≤ 200) : Call tab pu 423 [adr q off ver, .int .i64 t] H = some (iv .u16 (ptFr s t), H) := by
  refine Call_wp t423 (.inr rfl) rfl ?_
  obtain ⟨h1, V, he⟩ := okPt_V hk
  have w1 : IntKind.wrap .i64 s.e = s.e := wrap64 (by omega)
  have c1 := call538 (pu := true) hr.rk V he ht
  obtain ⟨p1, p2⟩ := plc_ok (e := s.e) (t := t) V
  have c2 := call355 (pu := true) (H := H) (dx := (plc s.ks s.e t).1) (dy := (plc s.ks s.e t).2) hw.fr hr.rf (by omega) (by omega)
  have e1 : shF s.f (plc s.ks s.e t).1 (plc s.ks s.e t).2 = ptFr s t := rfl
  rw [e1] at c2
  have s3 := stc_zr (k := .u16) (n := 12) (l := ptFr s t) ptFr_W.len
  simp [c423, k423, hr.re, hr.ry, w1, c1, c2, zs_cs, agg_cs, s3, ptFr_W.len]
theorem okPts_get {l : List Pt} (h : okPts l = true) {i : Nat} (hi : i < l.length) : okPt (at0 l i) = true := allN_get (p := fun i => okPt (at0 l i)) h hi
def faC (l : List Pt) (b : Bool) : Int := if okPts l = true then if b = true then if 6 < l.length then 3 else 0 else 2 else 1
theorem faC_ok {l : List Pt} {b : Bool} (h : faC l b = 0) : okPts l = true ∧ b = true ∧ l.length ≤ 6 := by
  unfold faC at h
  split at h
  · rename_i h1
    split at h
    · rename_i h2
      split at h
      · omega
      · exact ⟨h1, h2, by omega⟩
    · omega
  · omega
def ms3 (c : Int) (i : Nat) : Value := if i % 3 = 0 then .int .i16 (IntKind.wrap .i16 (c + i)) else .int .i8 (IntKind.wrap .i8 (c + i))
theorem ms3_a {c : Int} {i : Nat} (h : i % 3 = 0) : ms3 c i = .int .i16 (IntKind.wrap .i16 (c + i)) := if_pos h
theorem ms3_b {c : Int} {i : Nat} (h : i % 3 ≠ 0) : ms3 c i = .int .i8 (IntKind.wrap .i8 (c + i)) := if_neg h
theorem ms3_flat {c : Int} {i : Nat} {n : Nat} : old0 n (ms3 c i) = true := by
  unfold ms3; split <;> exact old0_int
theorem mark429 {G : Heap} {b ver n cap : Nat} {ws : List Value} {c : Int} (hg : G[b]? = some ⟨ws, 3, ver, false⟩) (hD : n * 3 ≤ ws.length) (hn : n ≤ 1000000) (hc0 : 0 ≤ c) (hc1 : c ≤ 1000000000000000) :
    ∃ ws', ws'.length = ws.length ∧ Call tab false 429 [slc b 0 ver n cap, .int .i64 c] G = some (.int .i64 (c + (n * 3 : Nat)), G.set b ⟨ws', 3, ver, false⟩) := by
  refine ⟨mkC (ms3 c) ws (n * 3), mkC_length (by omega), Call_wp t429 (.inl rfl) rfl ?_⟩
  simp [c429, k429]
  refine WP_count 5 n n rfl (fun i e G' => e 0 = slc b 0 ver n cap ∧ e 1 = .int .i64 (c + (i * 3 : Nat)) ∧ G' = G.set b ⟨mkC (ms3 c) ws (i * 3), 3, ver, false⟩) (by omega) ?_ ?_ (by simp) ⟨by simp, by simp, by rw [Nat.zero_mul, mkC_zero]; exact (set_self hg).symm⟩
  · rintro i e _ _ hi hii e4 h5 ⟨h0, h1, rfl⟩
    have q0 := mk_wr (n0 := G.length) (ver := ver) (esz := 3) (k := i * 3) (ms := ms3 c) (D := ws) ⟨_, hg⟩ (by omega) ms3_flat
    have q1 := mk_wr (n0 := G.length) (ver := ver) (esz := 3) (k := i * 3 + 1) (ms := ms3 c) (D := ws) ⟨_, hg⟩ (by omega) ms3_flat
    have q2 := mk_wr (n0 := G.length) (ver := ver) (esz := 3) (k := i * 3 + 2) (ms := ms3 c) (D := ws) ⟨_, hg⟩ (by omega) ms3_flat
    rw [ms3_a (by omega)] at q0
    rw [ms3_b (by omega)] at q1 q2
    have w1 : IntKind.wrap .i64 (c + (i * 3 : Nat) + 1) = c + (i * 3 + 1 : Nat) := by rw [wrap64 (by omega)]; omega
    have w2 : IntKind.wrap .i64 (c + (i * 3 + 1 : Nat) + 1) = c + (i * 3 + 2 : Nat) := by rw [wrap64 (by omega)]; omega
    have w3 : IntKind.wrap .i64 (c + (i * 3 + 2 : Nat) + 1) = c + ((i + 1) * 3 : Nat) := by rw [wrap64 (by omega)]; omega
    have e5 : i * 3 + 1 + 1 = i * 3 + 2 := rfl
    have e6 : (i + 1) * 3 = i * 3 + 2 + 1 := by omega
    simp (disch := decide) [b429_1, h5, h0, h1, hii, at_nat hi, q0, q1, q2, wbOf, w1, w2, w3, e4, e6, -Int.natCast_add, -Int.natCast_mul]
  · rintro e _ _ h5 ⟨h0, h1, rfl⟩
    simp [b429_1, h5, h0, h1]
def spnB (a b : Int) : Bool := in1 a 0 200 && in1 b 0 200 && decide (a ≤ b)
theorem spnB_is {a b : Int} (h : spnB a b = true) : 0 ≤ a ∧ a ≤ b ∧ b ≤ 200 := by
  simp [spnB, in1] at h; omega
theorem call422 {pu : Bool} {H : Heap} {a b : Int} : Call tab pu 422 [.int .i64 a, .int .i64 b] H = some (.bool (spnB a b), H) := by
  refine Call_wp t422 (.inr rfl) rfl ?_
  cases k1 : in1 a 0 200 with
  | false => simp [c422, k422, call432, k1, skip, spnB]
  | true =>
    cases k2 : in1 b 0 200 with
    | false => simp [c422, k422, call432, k1, k2, skip, spnB]
    | true => simp [c422, k422, call432, k1, k2, spnB]
theorem call426 {pu : Bool} {H : Heap} {a b : Int} : Call tab pu 426 [.int .i64 a, .int .i64 b] H = some (.bool (spnB a b), H) := by
  refine Call_wp t426 (.inr rfl) rfl ?_
  cases k1 : in1 a 0 200 with
  | false => simp [c426, k426, call435, k1, skip, spnB]
  | true =>
    cases k2 : in1 b 0 200 with
    | false => simp [c426, k426, call435, k1, k2, skip, spnB]
    | true => simp [c426, k426, call435, k1, k2, spnB]
theorem andI_ok {a b : Int} : u16' (andI a b) := by
  have e0 : IntKind.bits .u16 = 16 := rfl
  unfold andI bitsOf
  simp only []
  have : (BitVec.ofInt (IntKind.bits .u16) a &&& BitVec.ofInt (IntKind.bits .u16) b).toNat < 2 ^ 16 := by rw [e0]; exact BitVec.isLt _
  rw [wrapu16 (by omega)]; omega
theorem andI_row {a b : Int} (ha : u16' a) (hb : u16' b) (h1 : okRow a = true) (h2 : okRow b = true) : okRow (andI a b) = true := by
  obtain ⟨n, rfl⟩ := Int.eq_ofNat_of_zero_le ha.1
  obtain ⟨m, rfl⟩ := Int.eq_ofNat_of_zero_le hb.1
  simp [okRow] at h1 h2 ⊢
  have e0 : IntKind.bits .u16 = 16 := rfl
  unfold andI bitsOf
  simp only []
  have e1 : (BitVec.ofInt (IntKind.bits .u16) (n : Int) &&& BitVec.ofInt (IntKind.bits .u16) (m : Int)).toNat = n &&& m := by
    rw [BitVec.toNat_and, e0, BitVec.ofInt_natCast, BitVec.ofInt_natCast, BitVec.toNat_ofNat, BitVec.toNat_ofNat, Nat.mod_eq_of_lt (show n < 2 ^ 16 by omega), Nat.mod_eq_of_lt (show m < 2 ^ 16 by omega)]
  have e2 : n &&& m < 2 ^ 12 := Nat.and_lt_two_pow n (show m < 2 ^ 12 by omega)
  rw [e1, wrapu16 (by omega)]; omega
theorem and_W {a b : List Int} : FrW (mixF andI a b) := mixF_W fun _ _ => andI_ok
theorem and_ok {a b : List Int} (ha : FrW a) (hb : FrW b) (h1 : okF a = true) (h2 : okF b = true) : okF (mixF andI a b) = true :=
  okF_true mixF_length fun i hi => by
    rw [mixF, nth_tabN hi]
    exact andI_row (ha.nth hi) (hb.nth hi) (List.all_eq_true.1 (show a.all okRow = true from h1) _ (nth_mem (by rw [ha.len]; exact hi))) (List.all_eq_true.1 (show b.all okRow = true from h2) _ (nth_mem (by rw [hb.len]; exact hi)))
theorem cntN_zero : ∀ v, v < 4096 → (cntN v = 0 ↔ v = 0) := by
  have : (List.range 4096).all (fun v => decide (cntN v = 0 ↔ v = 0)) = true := by decide +kernel
  intro v hv
  simpa using List.all_eq_true.1 this v (by simpa using hv)
theorem dotL_zrows {f : List Int} (hw : FrW f) (hk : okF f = true) {j : Nat} (hj : j ≤ 12) : (dotL f (j * 12)).length = 0 ↔ ∀ i, i < j → nth f i = 0 := by
  induction j with
  | zero =>
    rw [Nat.zero_mul, dotL_zero]
    exact ⟨fun _ i hi => by omega, fun _ => rfl⟩
  | succ j ih =>
    have ih := ih (by omega)
    obtain ⟨n, hn, hlt⟩ := okF_row hk hw (y := j) (by omega)
    have h1 := dotL_row (f := f) (y := j) (x := 12) (by omega)
    rw [row_cnt hn] at h1
    have h2 := cntN_zero n hlt
    rw [Nat.succ_mul, h1]
    constructor
    · intro h i hi
      by_cases hij : i < j
      · exact ih.1 (by omega) i hij
      · rw [show i = j by omega, hn]
        have := h2.1 (by omega)
        omega
    · intro h
      have h3 := ih.2 fun i hi => h i (by omega)
      have h4 := h j (by omega)
      have := h2.2 (by omega)
      omega
theorem cntF_zero {f : List Int} (hw : FrW f) (hk : okF f = true) : 0 < cntF f ↔ ¬ ∀ i, i < 12 → nth f i = 0 := by
  have := dotL_zrows hw hk (Nat.le_refl 12)
  rw [← this, show 12 * 12 = 144 from rfl]
  unfold cntF
  omega
def mtF (s1 s2 : Pt) (t : Int) : List Int := mixF andI (ptFr s1 t) (ptFr s2 t)
theorem mtF_W {s1 s2 : Pt} {t : Int} : FrW (mtF s1 s2 t) := and_W
theorem mtF_ok {s1 s2 : Pt} {t : Int} : okF (mtF s1 s2 t) = true := and_ok ptFr_W ptFr_W ptFr_ok ptFr_ok
def mtB (s1 s2 : Pt) (t : Int) : Bool := decide (0 < cntF (mtF s1 s2 t))
theorem mtB_true {s1 s2 : Pt} {t : Int} {j : Nat} (hj : j < 12) (h : nth (mtF s1 s2 t) j ≠ 0) : mtB s1 s2 t = true := by
  unfold mtB
  rw [decide_eq_true_eq, cntF_zero mtF_W mtF_ok]
  exact fun z => h (z j hj)
theorem mtB_false {s1 s2 : Pt} {t : Int} (h : ∀ i, i < 12 → nth (mtF s1 s2 t) i = 0) : mtB s1 s2 t = false := by
  unfold mtB
  rw [decide_eq_false_iff_not, cntF_zero mtF_W mtF_ok]
  exact fun z => z h
def mtL (s1 s2 : Pt) (A k : Nat) : List Int := itN (fun i r => if mtB s1 s2 (A + i : Nat) = true then r ++ [((A + i : Nat) : Int)] else r) [] k
theorem mtL_zero {s1 s2 : Pt} {A : Nat} : mtL s1 s2 A 0 = [] := itN_zero
theorem mtL_succ {s1 s2 : Pt} {A k : Nat} : mtL s1 s2 A (k + 1) = if mtB s1 s2 (A + k : Nat) = true then mtL s1 s2 A k ++ [((A + k : Nat) : Int)] else mtL s1 s2 A k := itN_succ
theorem mtL_len {s1 s2 : Pt} {A k : Nat} : (mtL s1 s2 A k).length ≤ k := by
  induction k with
  | zero => rw [mtL_zero]; exact Nat.le_refl _
  | succ k ih =>
    rw [mtL_succ]
    split
    · simp; exact ih
    · omega
def mtC (s1 s2 : Pt) (a b : Int) : Int := faC [s1, s2] (spnB a b)
def mtR (s1 s2 : Pt) (a b : Int) : List Int := if mtC s1 s2 a b = 0 then mtL s1 s2 a.toNat (b - a + 1).toNat else []
theorem mtR_len {s1 s2 : Pt} {a b : Int} : (mtR s1 s2 a b).length ≤ 1000000 := by
  unfold mtR
  split
  · rename_i h
    have := spnB_is (faC_ok h).2.1
    have := mtL_len (s1 := s1) (s2 := s2) (A := a.toNat) (k := (b - a + 1).toNat)
    omega
  · simp
theorem two_pts {G : Heap} {s1 s2 : Pt} {y1 y2 : Value} (h1 : Kr G y1 s1) (h2 : Kr G y2 s2) : PtS (G ++ [⟨ptC s1 y1 ++ ptC s2 y2, 14, 0, false⟩]) (slc G.length 0 0 2 2) [s1, s2] := by
  have l1 := ptC_len (s := s1) (y := y1)
  have l2 := ptC_len (s := s2) (y := y2)
  refine ⟨ptC s1 y1 ++ ptC s2 y2, SlR.of (by simp [l1, l2]) (.inr ⟨_, 2, rfl, Nat.le_refl _, rd_last rfl (by simp [l1, l2]), _, get_last, rfl, rfl⟩), fun i hi => ?_⟩
  rcases i with _ | _ | i
  · refine ⟨y1, ?_, h1.pre Pre.one⟩
    show ((ptC s1 y1 ++ ptC s2 y2).drop (0 * 14)).take 14 = _
    rw [Nat.zero_mul, List.drop_zero, List.take_left' l1]; rfl
  · refine ⟨y2, ?_, h2.pre Pre.one⟩
    show ((ptC s1 y1 ++ ptC s2 y2).drop (1 * 14)).take 14 = _
    rw [Nat.one_mul, List.drop_left' l1, List.take_of_length_le (by omega)]; rfl
  · simp at hi; omega
theorem fill_pts {s1 s2 : Pt} {y1 y2 : Value} : fill (rep 2 ptZ) [(0, 14, agg (ptC s1 y1)), (14, 14, agg (ptC s2 y2))] = some (ptC s1 y1 ++ ptC s2 y2) := by
  have l1 := ptC_len (s := s1) (y := y1)
  have l2 := ptC_len (s := s2) (y := y2)
  have e1 : (rep 2 ptZ).length = 28 := rfl
  show (if (cellsOf (agg (ptC s1 y1))).length = 14 ∧ 0 + 14 ≤ (rep 2 ptZ).length then fill (splice (rep 2 ptZ) 0 (cellsOf (agg (ptC s1 y1)))) [(14, 14, agg (ptC s2 y2))] else none) = _
  rw [if_pos ⟨by simpa using l1, by rw [e1]; omega⟩]
  have e2 : splice (rep 2 ptZ) 0 (cellsOf (agg (ptC s1 y1))) = ptC s1 y1 ++ ptZ := by
    simp [splice, l1]
    rfl
  rw [e2]
  show (if (cellsOf (agg (ptC s2 y2))).length = 14 ∧ 14 + 14 ≤ (ptC s1 y1 ++ ptZ).length then fill (splice (ptC s1 y1 ++ ptZ) 14 (cellsOf (agg (ptC s2 y2)))) [] else none) = _
  rw [if_pos ⟨by simpa using l2, by simp [l1, ptZ_len]⟩]
  have e3 : splice (ptC s1 y1 ++ ptZ) 14 (cellsOf (agg (ptC s2 y2))) = ptC s1 y1 ++ ptC s2 y2 := by
    unfold splice
    rw [cellsOf_agg, List.take_left' l1, List.drop_eq_nil_of_le (by simp [l1, l2, ptZ_len]), List.append_nil]
  rw [e3]; rfl
theorem two_W {s1 s2 : Pt} (w1 : PtW s1) (w2 : PtW s2) (n1 : s1.ks.length ≤ 1000000) (n2 : s2.ks.length ≤ 1000000) : PtsW [s1, s2] :=
  ⟨fun s hs => by simp at hs; rcases hs with rfl | rfl <;> assumption, by simp, fun s hs => by simp at hs; rcases hs with rfl | rfl <;> assumption⟩
theorem okPts_two {s1 s2 : Pt} (h : okPts [s1, s2] = true) : okPt s1 = true ∧ okPt s2 = true := ⟨okPts_get h (i := 0) (by simp), okPts_get h (i := 1) (by simp)⟩
/-- What a function makes of two parts and a span. -/
def RsJ (f : Nat) (s1 s2 : Pt) (a b : Int) : Prop := ∀ (G : Heap) (y1 y2 : Value), Kr G y1 s1 → Kr G y2 s2 →
  ∃ r G' β, Call tab true f [agg (ptC s1 y1), agg (ptC s2 y2), .int .i64 a, .int .i64 b] G = some (tup [r, .int .i64 (mtC s1 s2 a b)], G') ∧ Pre G G' ∧ Own G' r β G.length 1 (mtR s1 s2 a b).length (cs .i64 (mtR s1 s2 a b))
theorem rs208 {s1 s2 : Pt} {a b : Int} (w1 : PtW s1) (w2 : PtW s2) (n1 : s1.ks.length ≤ 1000000) (n2 : s2.ks.length ≤ 1000000) : RsJ 208 s1 s2 a b := by
  intro H y1 y2 h1 h2
  have ld1 : ldc 14 true (agg (ptC s1 y1)) 0 = some (agg (ptC s1 y1)) := ldPall s1.len
  have ld2 : ldc 14 true (agg (ptC s2 y2)) 0 = some (agg (ptC s2 y2)) := ldPall s2.len
  obtain ⟨H1, hH1⟩ : ∃ H1, H1 = H ++ [(⟨ptC s1 y1 ++ ptC s2 y2, 14, 0, false⟩ : Blk)] := ⟨_, rfl⟩
  have hP : Pre H H1 := by rw [hH1]; exact Pre.one
  have hts : PtS H1 (slc H.length 0 0 2 2) [s1, s2] := by rw [hH1]; exact two_pts h1 h2
  have c1 := call425 (pu := true) hts (two_W w1 w2 n1 n2)
  by_cases hc : mtC s1 s2 a b = 0
  · obtain ⟨k1, k2, _⟩ := faC_ok hc
    obtain ⟨s1', s2', s3'⟩ := spnB_is k2
    obtain ⟨o1, o2⟩ := okPts_two k1
    have eR : mtR s1 s2 a b = mtL s1 s2 a.toNat (b - a + 1).toNat := by rw [mtR, if_pos hc]
    obtain ⟨A, rfl⟩ := Int.eq_ofNat_of_zero_le s1'
    obtain ⟨n, hn⟩ : ∃ n : Nat, b = (A : Int) + n := ⟨(b - A).toNat, by omega⟩
    subst hn
    have eT : mtR s1 s2 A (A + n) = mtL s1 s2 A (n + 1) := by rw [eR]; congr 1; omega
    rw [eT, hc]
    refine ⟨slc H.length 0 0 (mtL s1 s2 A (n + 1)).length (mtL s1 s2 A (n + 1)).length, H ++ [⟨cs .i64 (mtL s1 s2 A (n + 1)), 1, 0, false⟩], some H.length, Call_wp t208 (.inr rfl) rfl ?_, Pre.one, own_new (by simp)⟩
    have hf0 : fill (rep 0 [.int .i64 0]) [] = some [] := rfl
    simp [c208, k208, z14, ld1, ld2, fill_pts, ← hH1, c1, k1, call426, k2, hf0]
    refine WP_from 11 A (A + n + 1) _ rfl (fun i e G => e 4 = agg (ptC s1 y1) ∧ e 5 = agg (ptC s2 y2) ∧ e 3 = .int .i64 (A + n : Nat) ∧ ∃ g, e 10 = g ∧ Gr H G g 1 (mtL s1 s2 A (i - A)).length (cs .i64 (mtL s1 s2 A (i - A)))) (by omega) (by omega) ?_ ?_ (by simp) ⟨by simp, by simp, by simp, by simp [mtL_zero]; exact Gr.new hP⟩
    · rintro i e G hai hi hii e4 h11 ⟨h4, h5, h3, g, h10, hg⟩
      obtain ⟨k, rfl⟩ : ∃ k, i = A + k := ⟨i - A, by omega⟩
      rw [show A + k - A = k by omega] at hg
      rw [show A + k + 1 - A = k + 1 by omega]
      have q1 := call427 (pu := true) (t := ((A + k : Nat) : Int)) (h1.pre hg.pre) w1 o1 (by omega)
      have q2 := call427 (pu := true) (t := ((A + k : Nat) : Int)) (h2.pre hg.pre) w2 o2 (by omega)
      have q3 := call348 (pu := true) (H := G) (ptFr_W (s := s1) (t := ((A + k : Nat) : Int))).len (ptFr_W (s := s2) (t := ((A + k : Nat) : Int))).len
      have q4 := call393 (pu := true) (H := G) (mtF_W (s1 := s1) (s2 := s2) (t := ((A + k : Nat) : Int))) mtF_ok
      have e6 : mixF andI (ptFr s1 ((A + k : Nat) : Int)) (ptFr s2 ((A + k : Nat) : Int)) = mtF s1 s2 ((A + k : Nat) : Int) := rfl
      rw [e6] at q3
      have hle : ((A + k : Nat) : Int) ≤ ((A + n : Nat) : Int) := by omega
      have hml := mtL_len (s1 := s1) (s2 := s2) (A := A) (k := k)
      have hsucc := mtL_succ (s1 := s1) (s2 := s2) (A := A) (k := k)
      by_cases hB : 0 < cntF (mtF s1 s2 ((A + k : Nat) : Int))
      · have hb : mtB s1 s2 ((A + k : Nat) : Int) = true := by unfold mtB; exact decide_eq_true hB
        rw [if_pos hb] at hsucc
        obtain ⟨g', G', hpush, hg'⟩ := hg.push (c := [.int .i64 ((A + k : Nat) : Int)]) (bytes := 8) rfl (room8 (by omega)) (wb := false)
        have hf1 := fill_one (z := [.int .i64 0]) (v := .int .i64 ((A + k : Nat) : Int)) (esz := 1) rfl rfl
        rw [cs_push, ← hsucc] at hg'
        have hgl : (mtL s1 s2 A (k + 1)).length = (mtL s1 s2 A k).length + 1 := by rw [hsucc]; simp
        rw [← hgl] at hg'
        simp [b208_1, h11, h4, h5, h3, h10, hle, ld1, ld2, q1, q2, q3, q4, hB, hf1, hpush, wbOf, e4, -Int.natCast_add]
        exact hg'
      · have hb : ¬ mtB s1 s2 ((A + k : Nat) : Int) = true := by unfold mtB; rw [decide_eq_true_eq]; exact hB
        rw [if_neg hb] at hsucc
        simp [b208_1, h11, h4, h5, h3, h10, hle, ld1, ld2, q1, q2, q3, q4, hB, e4, hsucc, -Int.natCast_add]
        exact hg
    · rintro e G h11 ⟨h4, h5, h3, g, h10, hg⟩
      rw [show A + n + 1 - A = n + 1 by omega] at hg
      have hfin := hg.fin2 (c := 0) flat_cs
      have hnle : ¬ ((A + n + 1 : Nat) : Int) ≤ ((A + n : Nat) : Int) := by omega
      simp [b208_1, h11, h3, h10, hnle, hfin, -Int.natCast_add]
  · have eR : mtR s1 s2 a b = [] := by rw [mtR, if_neg hc]
    rw [eR]
    refine ⟨.slice none 0 0, H, none, Call_wp t208 (.inr rfl) rfl ?_, .refl, by simp [cs, Own]⟩
    cases k1 : okPts [s1, s2] with
    | false =>
      have hf : mtC s1 s2 a b = 1 := by unfold mtC faC; rw [k1]; rfl
      simp [c208, k208, z14, ld1, ld2, fill_pts, ← hH1, c1, k1, finish_nil2, hf, hP.take]
    | true =>
      cases k2 : spnB a b with
      | false =>
        have hf : mtC s1 s2 a b = 2 := by unfold mtC faC; rw [k1, k2]; rfl
        simp [c208, k208, z14, ld1, ld2, fill_pts, ← hH1, c1, k1, call426, k2, finish_nil2, hf, hP.take]
      | true =>
        exfalso; apply hc
        unfold mtC faC; rw [k1, k2]; rfl
theorem Gr.base {H H' G : Heap} {x : Value} {esz n : Nat} {vs : List Value} (g : Gr H' G x esz n vs) (p : Pre H H') : Gr H G x esz n vs := by
  obtain ⟨b, ver, rfl, h1, h2, h3, h4⟩ := g
  exact ⟨b, ver, rfl, h1, Nat.le_trans p.len h2, h3, p.trans h4⟩
theorem Gr.push' {H G : Heap} {x : Value} {esz n bytes n0 : Nat} {vs c : List Value} (g : Gr H G x esz n vs) (hn0 : n0 ≤ H.length) (hc : c.length = esz) (hb : (n + 1) * bytes ≤ roomMax) {wb : Bool} :
    ∃ x' G', ((srcOf esz (G ++ [⟨c, esz, 0, false⟩]) (slc G.length 0 0 1 1)).bind fun q => appendTo n0 wb esz bytes (G ++ [⟨c, esz, 0, false⟩]) x q.1 q.2) = some (x', G') ∧ Gr H G' x' esz (n + 1) (vs ++ c) := by
  obtain ⟨b, ver, rfl, h1, h2, h3, h4⟩ := g
  have h1' : (G ++ [(⟨c, esz, 0, false⟩ : Blk)])[b]? = some ⟨vs, esz, ver, false⟩ := by rw [List.getElem?_append_left (List.getElem?_eq_some_iff.1 h1).1]; exact h1
  have e1 : srcOf esz (G ++ [⟨c, esz, 0, false⟩]) (slc G.length 0 0 1 1) = some (1, c) := by
    show (rd (G ++ [⟨c, esz, 0, false⟩]) G.length 0 0 (1 * esz)).map (fun cs => (1, cs)) = _
    rw [Nat.one_mul, rd_last rfl (by simpa using hc)]; rfl
  refine ⟨slc b 0 (ver + 1) (n + 1) (n + 1), (G ++ [(⟨c, esz, 0, false⟩ : Blk)]).set b ⟨vs ++ c, esz, ver + 1, false⟩, ?_, b, ver + 1, rfl, get_set h1', h2, by simp [h3, hc, Nat.succ_mul], (h4.app).set h2⟩
  have h5 : n0 ≤ b := Nat.le_trans hn0 h2
  rw [e1, Option.bind_some]
  exact appendTo_grow h1' rfl rfl (by simp [may, h5]) rfl h3.symm (by omega) hb
theorem PtR.new {H G : Heap} {s : Pt} {y : Value} (h : Kr H y s) (p : Pre (H ++ [⟨ptC s y, 1, 0, false⟩]) G) : PtR G H.length 0 0 s y := by
  have hr : rd (H ++ [(⟨ptC s y, 1, 0, false⟩ : Blk)]) H.length 0 0 14 = some (ptC s y) := rd_last rfl ptC_len
  exact PtR.of (p.rd hr) ((h.pre Pre.one).pre p)
theorem rs206 {s1 s2 : Pt} {a b : Int} (w1 : PtW s1) (w2 : PtW s2) (n1 : s1.ks.length ≤ 1000000) (n2 : s2.ks.length ≤ 1000000) : RsJ 206 s1 s2 a b := by
  intro H y1 y2 h1 h2
  have l1 := ptC_len (s := s1) (y := y1)
  have l2 := ptC_len (s := s2) (y := y2)
  obtain ⟨H1, hH1⟩ : ∃ H1, H1 = H ++ [(⟨ptC s1 y1, 1, 0, false⟩ : Blk)] := ⟨_, rfl⟩
  obtain ⟨H2, hH2⟩ : ∃ H2, H2 = H1 ++ [(⟨ptC s2 y2, 1, 0, false⟩ : Blk)] := ⟨_, rfl⟩
  obtain ⟨H3, hH3⟩ : ∃ H3, H3 = H2 ++ [(⟨ptC s1 y1 ++ ptC s2 y2, 14, 0, false⟩ : Blk)] := ⟨_, rfl⟩
  have P1 : Pre H H1 := by rw [hH1]; exact Pre.one
  have P2 : Pre H1 H2 := by rw [hH2]; exact Pre.one
  have P3 : Pre H2 H3 := by rw [hH3]; exact Pre.one
  have P13 := P2.trans P3
  have P03 := P1.trans P13
  have rd1 : rd H2 H.length 0 0 14 = some (ptC s1 y1) := P2.rd (by rw [hH1]; exact rd_last rfl l1)
  have rd2 : rd H2 H1.length 0 0 14 = some (ptC s2 y2) := by rw [hH2]; exact rd_last rfl l2
  have h1' := h1.pre (P1.trans P2)
  have h2' := h2.pre (P1.trans P2)
  have hts : PtS H3 (slc H2.length 0 0 2 2) [s1, s2] := by rw [hH3]; exact two_pts h1' h2'
  have c1 := call421 (pu := true) (b := spnB a b) hts (two_W w1 w2 n1 n2)
  have e1 : (if okPts [s1, s2] = true then if spnB a b = true then if 6 < [s1, s2].length then (3 : Int) else 0 else 2 else 1) = mtC s1 s2 a b := rfl
  rw [e1] at c1
  have hf0 : fill (rep 0 [.int .i64 0]) [] = some [] := rfl
  by_cases hc : mtC s1 s2 a b = 0
  · obtain ⟨k1, k2, _⟩ := faC_ok hc
    obtain ⟨s1', s2', s3'⟩ := spnB_is k2
    obtain ⟨o1, o2⟩ := okPts_two k1
    have eR : mtR s1 s2 a b = mtL s1 s2 a.toNat (b - a + 1).toNat := by rw [mtR, if_pos hc]
    obtain ⟨A, rfl⟩ := Int.eq_ofNat_of_zero_le s1'
    obtain ⟨n, hn⟩ : ∃ n : Nat, b = (A : Int) + n := ⟨(b - A).toNat, by omega⟩
    subst hn
    have eT : mtR s1 s2 A (A + n) = mtL s1 s2 A (n + 1) := by rw [eR]; congr 1; omega
    rw [eT, hc]
    refine ⟨slc H.length 0 0 (mtL s1 s2 A (n + 1)).length (mtL s1 s2 A (n + 1)).length, H ++ [⟨cs .i64 (mtL s1 s2 A (n + 1)), 1, 0, false⟩], some H.length, Call_wp t206 (.inr rfl) rfl ?_, Pre.one, own_new (by simp)⟩
    simp [c206, k206, z14, l1, l2, ← hH1, ← hH2, rd1, rd2, fill_pts, ← hH3, call422, c1, hc, hf0]
    refine WP_from 12 A (A + n + 1) _ rfl (fun i e G => e 4 = adr H.length 0 0 ∧ e 5 = adr H1.length 0 0 ∧ e 3 = .int .i64 (A + n : Nat) ∧ ∃ g, e 11 = g ∧ Gr H3 G g 1 (mtL s1 s2 A (i - A)).length (cs .i64 (mtL s1 s2 A (i - A)))) (by omega) (by omega) ?_ ?_ (by simp) ⟨by simp, by simp, by simp, by simp [mtL_zero]; exact Gr.new .refl⟩
    · rintro i e G hai hi hii e4 h12 ⟨h4, h5, h3, g, h11, hg⟩
      obtain ⟨k, rfl⟩ : ∃ k, i = A + k := ⟨i - A, by omega⟩
      rw [show A + k - A = k by omega] at hg
      rw [show A + k + 1 - A = k + 1 by omega]
      have p1 : PtR G H.length 0 0 s1 y1 := PtR.new h1 (by rw [← hH1]; exact P13.trans hg.pre)
      have p2 : PtR G H1.length 0 0 s2 y2 := PtR.new (h2.pre P1) (by rw [← hH2]; exact P3.trans hg.pre)
      have q1 := call423 (pu := true) (t := ((A + k : Nat) : Int)) p1 w1 o1 (by omega)
      have q2 := call423 (pu := true) (t := ((A + k : Nat) : Int)) p2 w2 o2 (by omega)
      have f1 := (ptFr_W (s := s1) (t := ((A + k : Nat) : Int))).len
      have f2 := (ptFr_W (s := s2) (t := ((A + k : Nat) : Int))).len
      have g1 := stc_zr (k := .u16) (n := 12) (l := ptFr s1 ((A + k : Nat) : Int)) f1
      have g2 := stc_zr (k := .u16) (n := 12) (l := ptFr s2 ((A + k : Nat) : Int)) f2
      have hle : ((A + k : Nat) : Int) ≤ ((A + n : Nat) : Int) := by omega
      have hml := mtL_len (s1 := s1) (s2 := s2) (A := A) (k := k)
      have hsucc := mtL_succ (s1 := s1) (s2 := s2) (A := A) (k := k)
      have hmt : ∀ j, j < 12 → nth (mtF s1 s2 ((A + k : Nat) : Int)) j = andI (nth (ptFr s1 ((A + k : Nat) : Int)) j) (nth (ptFr s2 ((A + k : Nat) : Int)) j) := fun j hj => by rw [mtF, mixF, nth_tabN hj]
      have hB1 := fun j => mtB_true (s1 := s1) (s2 := s2) (t := ((A + k : Nat) : Int)) (j := j)
      have hB0 := mtB_false (s1 := s1) (s2 := s2) (t := ((A + k : Nat) : Int))
      generalize hFm : mtF s1 s2 ((A + k : Nat) : Int) = Fm at *
      generalize hF1 : ptFr s1 ((A + k : Nat) : Int) = F1 at *
      generalize hF2 : ptFr s2 ((A + k : Nat) : Int) = F2 at *
      simp [b206_2, h12, h4, h5, h3, h11, hle, q1, q2, zs_cs, agg_cs, f1, f2, g1, g2, -Int.natCast_add]
      refine WP_forH 15 12 12 rfl (by omega) (fun j e => e 4 = adr H.length 0 0 ∧ e 5 = adr H1.length 0 0 ∧ e 3 = .int .i64 (A + n : Nat) ∧ e 12 = .int .i64 (A + k : Nat) ∧ e 13 = iv .u16 F1 ∧ e 14 = iv .u16 F2 ∧ e 11 = g ∧ ∀ i, i < j → nth Fm i = 0) ?_ ?_ (by simp) ⟨by simp [h4], by simp [h5], by simp [h3], by simp [h12], by simp, by simp, by simp [h11], fun i hi => by omega⟩
      · rintro j e hj hjj e15 h15 ⟨h4, h5, h3, h12, h13, h14, h11, hz⟩
        have hm := hmt j hj
        by_cases h0 : nth Fm j = 0
        · rw [h0] at hm
          simp (disch := omega) [b206_1, h15, hjj, hj, h13, h14, f1, f2, andI_eq, ← hm, h4, h5, h3, h12, h11, e15, -Int.natCast_add]
          exact upto_succ hz h0
        · have hb := hB1 j hj h0
          rw [if_pos hb] at hsucc
          obtain ⟨g', G', hpush, hg'⟩ := hg.push' P03.len (c := [.int .i64 ((A + k : Nat) : Int)]) (bytes := 8) rfl (room8 (by omega)) (wb := false)
          have hf1 := fill_one (z := [.int .i64 0]) (v := .int .i64 ((A + k : Nat) : Int)) (esz := 1) rfl rfl
          rw [cs_push, ← hsucc] at hg'
          have hgl : (mtL s1 s2 A (k + 1)).length = (mtL s1 s2 A k).length + 1 := by rw [hsucc]; simp
          rw [← hgl] at hg'
          have hne : (nth Fm j != 0) = true := by simpa using h0
          rw [hm] at hne
          simp (disch := omega) [b206_1, h15, hjj, hj, h13, h14, f1, f2, andI_eq, hne, h4, h5, h3, h12, h11, hf1, hpush, wbOf, e4, -Int.natCast_add]
          exact hg'
      · rintro e h15 ⟨h4, h5, h3, h12, h13, h14, h11, hz⟩
        have hb := hB0 hz
        rw [hb, if_neg (by decide)] at hsucc
        simp [b206_1, h15, h4, h5, h3, h12, h11, e4, hsucc, -Int.natCast_add]
        exact hg
    · rintro e G h12 ⟨h4, h5, h3, g, h11, hg⟩
      rw [show A + n + 1 - A = n + 1 by omega] at hg
      have hfin := (hg.base P03).fin2 (c := 0) flat_cs
      have hnle : ¬ ((A + n + 1 : Nat) : Int) ≤ ((A + n : Nat) : Int) := by omega
      simp [b206_2, h12, h3, h11, hnle, hfin, -Int.natCast_add]
  · have eR : mtR s1 s2 a b = [] := by rw [mtR, if_neg hc]
    rw [eR]
    have hb : (mtC s1 s2 a b != 0) = true := by simpa using hc
    have hfin := (Gr.new (H := H) (G := H3) (esz := 1) P03).fin2 (c := mtC s1 s2 a b) (by intro v hv; simp at hv)
    refine ⟨slc H.length 0 0 0 0, H ++ [⟨[], 1, 0, false⟩], some H.length, Call_wp t206 (.inr rfl) rfl ?_, Pre.one, own_new (n := 0) rfl⟩
    simp [c206, k206, z14, l1, l2, ← hH1, ← hH2, rd1, rd2, fill_pts, ← hH3, call422, c1, hb, hf0, hfin]
def kyK (s : Pt) : Blk := ⟨room (kysC s.ks) s.ks.length kyF, 3, 0, false⟩
def kyV (G : Heap) (s : Pt) : Value := slc G.length 0 0 s.ks.length (s.ks.length + roomN s.ks.length)
theorem kyV_C {G : Heap} {s : Pt} : KrC (G ++ [kyK s]) (kyV G s) s := IsCp.mk (H := G) (esz := 3) (n := s.ks.length) (vs := kysC s.ks) (fc := kyF)
theorem kyV_R {G : Heap} {s : Pt} : Kr (G ++ [kyK s]) (kyV G s) s := (kyV_C (G := G) (s := s)).sl kysC_length rfl
theorem cpF207 {pu : Bool} {G : Heap} {s : Pt} {x : Value} (hs : Kr G x s) (hn : s.ks.length ≤ 1000000) : Call tab pu 207 [agg (ptC s x), .bool false] G = some (agg (ptC s (kyV G s)), G ++ [kyK s]) := by
  have := cp207 (pu := pu) (flag := false) hs hn
  rw [if_neg (by intro h; cases h.1)] at this
  exact this
theorem cpT207 {pu : Bool} {G : Heap} {s : Pt} {x : Value} {flag : Bool} (hs : Kr G x s) (hn : s.ks.length ≤ 1000000) : ∃ y G', Call tab pu 207 [agg (ptC s x), .bool flag] G = some (agg (ptC s y), G') ∧ Kr G' y s ∧ Pre G G' := by
  have h := cp207 (pu := pu) (flag := flag) hs hn
  by_cases hc : flag = true ∧ s.ks.length = 0
  · rw [if_pos hc] at h
    exact ⟨_, _, h, ⟨by rw [kysC_length], .inl ⟨rfl, hc.2⟩⟩, .refl⟩
  · rw [if_neg hc] at h
    exact ⟨_, _, h, kyV_R, Pre.one⟩
theorem call210 {G : Heap} {s : Pt} {b ver cap : Nat} {ws : List Value} {c : Int} (hg : G[b]? = some ⟨ws, 3, ver, false⟩) (hD : s.ks.length * 3 ≤ ws.length) (hn : s.ks.length ≤ 1000000) (hc0 : 0 ≤ c) (hc1 : c ≤ 1000000000000000) :
    ∃ ws', ws'.length = ws.length ∧ Call tab false 210 [agg (ptC s (slc b 0 ver s.ks.length cap)), .int .i64 c] G = some (.int .i64 (c + (s.ks.length * 3 : Nat)), G.set b ⟨ws', 3, ver, false⟩) := by
  obtain ⟨ws', h1, h2⟩ := mark429 (cap := cap) hg hD hn hc0 hc1
  refine ⟨ws', h1, Call_wp t210 (.inl rfl) rfl ?_⟩
  have hl := s.len
  simp [c210, k210, ptC, ldP13 hl, h2, wbOf, -Int.natCast_mul]
theorem kyK_len {s : Pt} : s.ks.length * 3 ≤ (room (kysC s.ks) s.ks.length kyF).length := by
  rw [room_length kysC_length rfl, Nat.add_mul]; omega
theorem call41 {H : Heap} {y1 y2 : Value} {s1 s2 : Pt} {a b : Int} (h1 : Kr H y1 s1) (h2 : Kr H y2 s2) (w1 : PtW s1) (w2 : PtW s2) (b1 : s1.ks.length ≤ 9223372036854775807) (b2 : s2.ks.length ≤ 9223372036854775807) :
    ∃ H', Call tab false 41 [agg (ptC s1 y1), agg (ptC s2 y2), .int .i64 a, .int .i64 b] H = some (.bool true, H') := by
  refine ⟨H, Call_wp t41 (.inl rfl) rfl ?_⟩
  have ld1 : ∀ y, ldc 14 true (agg (ptC s1 y)) 0 = some (agg (ptC s1 y)) := fun y => ldPall s1.len
  have ld2 : ∀ y, ldc 14 true (agg (ptC s2 y)) 0 = some (agg (ptC s2 y)) := fun y => ldPall s2.len
  have z1 := call205 (pu := true) h1 b1 (left := 1000000) (by omega) (by omega)
  by_cases n1 : (1000000 : Int) - s1.ks.length < 0
  · rw [if_pos n1] at z1
    simp [c41, k41, ld1, z1]
  rw [if_neg n1] at z1
  have z2 := call205 (pu := true) h2 b2 (left := 1000000 - s1.ks.length) (by omega) (by omega)
  by_cases n2 : (1000000 : Int) - s1.ks.length - s2.ks.length < 0
  · rw [if_pos n2] at z2
    simp [c41, k41, ld1, ld2, z1, n1, z2]
  rw [if_neg n2] at z2
  have m1 : s1.ks.length ≤ 1000000 := by omega
  have m2 : s2.ks.length ≤ 1000000 := by omega
  have st : ∀ (s : Pt) y, stc (agg ptZ) 0 (ptC s y) = some (agg (ptC s y)) := fun s y => stPall (by rfl) s.len
  have pl1 : ∀ y, (ptC s1 y).length = 14 := fun y => ptC_len
  have pl2 : ∀ y, (ptC s2 y).length = 14 := fun y => ptC_len
  -- copies for what should be
  have q1 := cpF207 (pu := true) h1 m1
  obtain ⟨G1, hG1⟩ : ∃ G1, G1 = H ++ [kyK s1] := ⟨_, rfl⟩
  have P1 : Pre H G1 := by rw [hG1]; exact Pre.one
  have r1 := kyV_R (G := H) (s := s1)
  rw [← hG1] at q1 r1
  have q2 := cpF207 (pu := true) (h2.pre P1) m2
  obtain ⟨G2, hG2⟩ : ∃ G2, G2 = G1 ++ [kyK s2] := ⟨_, rfl⟩
  have P2 : Pre G1 G2 := by rw [hG2]; exact Pre.one
  have r2 := kyV_R (G := G1) (s := s2)
  rw [← hG2] at q2 r2
  obtain ⟨rs, G3, βs, ws, P3, os⟩ := rs206 (a := a) (b := b) w1 w2 m1 m2 G2 _ _ (r1.pre P2) r2
  have PP3 := (P1.trans P2).trans P3
  -- copies for what is
  have q3 := cpF207 (pu := true) (h1.pre PP3) m1
  obtain ⟨G4, hG4⟩ : ∃ G4, G4 = G3 ++ [kyK s1] := ⟨_, rfl⟩
  have P4 : Pre G3 G4 := by rw [hG4]; exact Pre.one
  have r3 := kyV_C (G := G3) (s := s1)
  rw [← hG4] at q3 r3
  have q4 := cpF207 (pu := true) (h2.pre (PP3.trans P4)) m2
  obtain ⟨G5, hG5⟩ : ∃ G5, G5 = G4 ++ [kyK s2] := ⟨_, rfl⟩
  have P5 : Pre G4 G5 := by rw [hG5]; exact Pre.one
  have r4 := kyV_C (G := G4) (s := s2)
  rw [← hG5] at q4 r4
  have k1 : G4[G3.length]? = some (kyK s1) := by rw [hG4]; exact get_last
  have k2 : G5[G4.length]? = some (kyK s2) := by rw [hG5]; exact get_last
  have l4 : G4.length = G3.length + 1 := by rw [hG4]; simp
  have l5 : G5.length = G4.length + 1 := by rw [hG5]; simp
  obtain ⟨ri, G6, βi, wi, P6, oi⟩ := rs208 (a := a) (b := b) w1 w2 m1 m2 G5 _ _ ((r3.pre P5).sl kysC_length rfl) (r4.sl kysC_length rfl)
  have P36 := (P4.trans P5).trans P6
  have PP6 := PP3.trans P36
  have hnR := mtR_len (s1 := s1) (s2 := s2) (a := a) (b := b)
  have heq := eq180 hnR
  have os6 := os.pre P36
  have e1 := heq G6 ri rs oi.sl os6.sl
  -- intact
  have q5 := cpF207 (pu := true) (h1.pre PP6) m1
  obtain ⟨G7, hG7⟩ : ∃ G7, G7 = G6 ++ [kyK s1] := ⟨_, rfl⟩
  have P7 : Pre G6 G7 := by rw [hG7]; exact Pre.one
  have r5 := kyV_C (G := G6) (s := s1)
  rw [← hG7] at q5 r5
  have i1 := call209 (pu := true) (r3.pre ((P5.trans P6).trans P7)) r5 m1
  have q6 := cpF207 (pu := true) (h2.pre (PP6.trans P7)) m2
  obtain ⟨G8, hG8⟩ : ∃ G8, G8 = G7 ++ [kyK s2] := ⟨_, rfl⟩
  have P8 : Pre G7 G8 := by rw [hG8]; exact Pre.one
  have r6 := kyV_C (G := G7) (s := s2)
  rw [← hG8] at q6 r6
  have i2 := call209 (pu := true) (r4.pre ((P6.trans P7).trans P8)) r6 m2
  have P68 := P7.trans P8
  have PP8 := PP6.trans P68
  have os8 := os6.pre P68
  have oi8 := oi.pre P68
  have P48 : Pre G4 G8 := (P5.trans P6).trans P68
  have P58 : Pre G5 G8 := P6.trans P68
  have k1' : G8[G3.length]? = some (kyK s1) := by rw [P48.get (by omega)]; exact k1
  have k2' : G8[G4.length]? = some (kyK s2) := by rw [P58.get (by omega)]; exact k2
  -- written over
  obtain ⟨v1, _, c1⟩ := call210 (s := s1) (cap := s1.ks.length + roomN s1.ks.length) (c := 101) k1' kyK_len m1 (by omega) (by omega)
  obtain ⟨G9, hG9⟩ : ∃ G9, G9 = G8.set G3.length ⟨v1, 3, 0, false⟩ := ⟨_, rfl⟩
  rw [← hG9] at c1
  have k2'' : G9[G4.length]? = some (kyK s2) := by rw [hG9, List.getElem?_set_ne (by omega)]; exact k2'
  obtain ⟨v2, _, c2⟩ := call210 (s := s2) (cap := s2.ks.length + roomN s2.ks.length) (c := 101 + (s1.ks.length * 3 : Nat)) k2'' kyK_len m2 (by omega) (by omega)
  obtain ⟨G10, hG10⟩ : ∃ G10, G10 = G9.set G4.length ⟨v2, 3, 0, false⟩ := ⟨_, rfl⟩
  rw [← hG10] at c2
  have lH3 : H.length ≤ G3.length := PP3.len
  have PP9 : Pre H G9 := by rw [hG9]; exact PP8.set lH3
  have PP10 : Pre H G10 := by rw [hG10]; exact PP9.set (by omega)
  have x1 : elder H.length false G8 (.int .i64 (101 + (s1.ks.length * 3 : Nat)), G9) = some (.int .i64 (101 + (s1.ks.length * 3 : Nat)), G9) := elder_pre PP8 PP9
  have x2 : elder H.length false G9 (.int .i64 (101 + (s1.ks.length * 3 : Nat) + (s2.ks.length * 3 : Nat)), G10) = some (.int .i64 (101 + (s1.ks.length * 3 : Nat) + (s2.ks.length * 3 : Nat)), G10) := elder_pre PP9 PP10
  have hsame : ∀ j, j < G3.length ∨ G5.length ≤ j → G10[j]? = G8[j]? := fun j hj => by
    rw [hG10, List.getElem?_set_ne (by omega), hG9, List.getElem?_set_ne (by omega)]
  have os10 : Own G10 rs βs G2.length 1 (mtR s1 s2 a b).length (cs .i64 (mtR s1 s2 a b)) := os8.agree fun j hj => by
    subst hj
    exact hsame j (.inl os.lt.2)
  have oi10 : Own G10 ri βi G5.length 1 (mtR s1 s2 a b).length (cs .i64 (mtR s1 s2 a b)) := oi8.agree fun j hj => hsame j (.inr (oi.below j hj))
  have e2 := heq G10 ri rs oi10.sl os10.sl
  obtain ⟨G11, d1, s5, oi11⟩ := mark182 G10 ri βi _ (mtR s1 s2 a b).length (cs .i64 (mtR s1 s2 a b)) 101 oi10 hnR (by omega) (by omega)
  have lH5 : H.length ≤ G5.length := by omega
  have PP11 : Pre H G11 := s5.pre PP10 fun b hb => Nat.le_trans lH5 (oi.below b hb)
  have os11 : Own G11 rs βs G2.length 1 (mtR s1 s2 a b).length (cs .i64 (mtR s1 s2 a b)) := os10.same s5 fun b hb he => by
    subst hb
    have h1 := os.lt
    have h2 := oi.below b he
    omega
  have x3 : elder H.length false G10 (.int .i64 (101 + ((mtR s1 s2 a b).length * 1 : Nat)), G11) = some (.int .i64 (101 + ((mtR s1 s2 a b).length * 1 : Nat)), G11) := elder_pre PP10 PP11
  have d2 := held183 true G11 ri βi _ (mtR s1 s2 a b).length 101 oi11 hnR (by omega) (by omega)
  -- once more
  obtain ⟨u1, G12, q7, t1, P12⟩ := cpT207 (pu := true) (flag := true) (h1.pre PP11) m1
  obtain ⟨u2, G13, q8, t2, P13⟩ := cpT207 (pu := true) (flag := true) (h2.pre (PP11.trans P12)) m2
  obtain ⟨r4', G14, β4, wf, P14, o4⟩ := rs208 (a := a) (b := b) w1 w2 m1 m2 G13 _ _ (t1.pre P13) t2
  have P1114 := (P12.trans P13).trans P14
  have e3 := heq G14 r4' rs o4.sl (os11.pre P1114).sl
  have d3 := held183 true G14 ri βi _ (mtR s1 s2 a b).length 101 (oi11.pre P1114) hnR (by omega) (by omega)
  have PP14 := PP11.trans P1114
  have hneg1 : ¬ (101 + ((s1.ks.length * 3 : Nat) : Int) + ((s2.ks.length * 3 : Nat) : Int)) < 0 := by omega
  have hneg2 : ¬ (101 + (((mtR s1 s2 a b).length * 1 : Nat) : Int)) < 0 := by omega
  have v1' : ∀ G s, kyV G s = slc G.length 0 0 s.ks.length (s.ks.length + roomN s.ks.length) := fun _ _ => rfl
  rw [← v1'] at c1 c2
  simp [c41, k41, wbOf, z14, ld1, ld2, st, pl1, pl2, z1, n1, z2, n2, q1, q2, ws, q3, q4, wi, e1, q5, i1, q6, i2, c1, x1, c2, x2, hneg1, e2, d1, x3, d2, hneg2, q7, q8, wf, e3, d3, skip, PP14.take, -Int.natCast_mul, -Nat.mul_one, -Int.natCast_add]
end Fb
