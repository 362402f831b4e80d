/- What each function computes. -/
import Derived.Test.YtholaggmhhjjkaaUse1
set_option linter.unusedVariables false
set_option linter.unusedSimpArgs false
namespace Fb
open Go
theorem call577 {pu : Bool} {H : Heap} {a b w : Int} (ha : -24 ≤ a ∧ a ≤ 24) (hb : -24 ≤ b ∧ b ≤ 24) (hw : 0 ≤ w ∧ w ≤ 1000) : Call tab pu 577 [.int .i64 a, .int .i64 b, .int .i64 w] H = some (.int .i64 (btw a b w), H) := by
  refine Call_wp t577 (.inr rfl) rfl ?_
  have c606 : ∀ d : Int, -48 ≤ d ∧ d ≤ 48 → Call tab true 606 [.int .i64 d] H = some (.int .i64 (szI d), H) := fun d hd => by
    refine Call_wp t606 (.inr rfl) rfl ?_
    have w1 : IntKind.wrap .i64 (-d) = -d := wrap64 (by omega)
    have c1 := call549 (pu := true) (H := H) (a := d) (b := -d)
    rw [szI_max] at c1
    simp [c606, k606, w1, c1]
  have h6 := c606 (b - a) (by omega)
  have w1 : IntKind.wrap .i64 (b - a) = b - a := wrap64 (by omega)
  by_cases h : b < a
  · have hz : szI (b - a) = a - b := by unfold szI; rw [if_pos (by omega)]; omega
    rw [hz] at h6
    have k := mulB (a := a - b) (A := 48) ⟨by omega, by omega⟩ hw
    have w2 := wr6 (p := (a - b) * w) (by omega)
    have w3 := wr6 (p := (a - b) * w + 500) (by omega)
    have d1 : ((a - b) * w + 500).tdiv 1000 = ((a - b) * w + 500) / 1000 := Int.tdiv_eq_ediv_of_nonneg (by omega)
    have w4 := wr6 (p := ((a - b) * w + 500) / 1000) (by omega)
    have w5 : IntKind.wrap .i64 (a - ((a - b) * w + 500) / 1000) = a - ((a - b) * w + 500) / 1000 := wrap64 (by omega)
    simp [c577, k577, w1, h6, w2, w3, d1, w4, h, w5, btw]
  · have hz : szI (b - a) = b - a := by unfold szI; rw [if_neg (by omega)]
    rw [hz] at h6
    have k := mulB (a := b - a) (A := 48) ⟨by omega, by omega⟩ hw
    have w2 := wr6 (p := (b - a) * w) (by omega)
    have w3 := wr6 (p := (b - a) * w + 500) (by omega)
    have d1 : ((b - a) * w + 500).tdiv 1000 = ((b - a) * w + 500) / 1000 := Int.tdiv_eq_ediv_of_nonneg (by omega)
    have w4 := wr6 (p := ((b - a) * w + 500) / 1000) (by omega)
    have w5 : IntKind.wrap .i64 (a + ((b - a) * w + 500) / 1000) = a + ((b - a) * w + 500) / 1000 := wrap64 (by omega)
    simp [c577, k577, w1, h6, w2, w3, d1, w4, h, w5, btw]
theorem call580 {pu : Bool} {H : Heap} {a b w : Int} (ha : -24 ≤ a ∧ a ≤ 24) (hb : -24 ≤ b ∧ b ≤ 24) (hw : 0 ≤ w ∧ w ≤ 1000) : Call tab pu 580 [.int .i64 a, .int .i64 b, .int .i64 w] H = some (.int .i64 (btw a b w), H) := by
  refine Call_wp t580 (.inr rfl) rfl ?_
  by_cases h : b < a
  · have k := mulB (a := a - b) (A := 48) ⟨by omega, by omega⟩ hw
    have w1 := wr6 (p := a - b) (by omega)
    have w2 := wr6 (p := (a - b) * w) (by omega)
    have w3 := wr6 (p := (a - b) * w + 500) (by omega)
    have d1 : ((a - b) * w + 500).tdiv 1000 = ((a - b) * w + 500) / 1000 := Int.tdiv_eq_ediv_of_nonneg (by omega)
    have w4 := wr6 (p := ((a - b) * w + 500) / 1000) (by omega)
    have w5 : IntKind.wrap .i64 (a - ((a - b) * w + 500) / 1000) = a - ((a - b) * w + 500) / 1000 := wrap64 (by omega)
    simp [c580, k580, h, w1, w2, w3, d1, w4, w5, btw]
  · have k := mulB (a := b - a) (A := 48) ⟨by omega, by omega⟩ hw
    have w1 := wr6 (p := b - a) (by omega)
    have w2 := wr6 (p := (b - a) * w) (by omega)
    have w3 := wr6 (p := (b - a) * w + 500) (by omega)
    have d1 : ((b - a) * w + 500).tdiv 1000 = ((b - a) * w + 500) / 1000 := Int.tdiv_eq_ediv_of_nonneg (by omega)
    have w4 := wr6 (p := ((b - a) * w + 500) / 1000) (by omega)
    have w5 : IntKind.wrap .i64 (a + ((b - a) * w + 500) / 1000) = a + ((b - a) * w + 500) / 1000 := wrap64 (by omega)
    simp [c580, k580, h, w1, w2, w3, d1, w4, w5, btw]
/-- How many keys lie at or before a tick. -/
def ckK (ks : List Ky) (t : Int) (k : Nat) : Nat := itN (fun i c => if c = i ∧ (ky ks i).1 ≤ t then i + 1 else c) 0 k
theorem ckK_prop {ks : List Ky} {t : Int} {k : Nat} : ckK ks t k ≤ k ∧ (∀ j, j < ckK ks t k → (ky ks j).1 ≤ t) ∧ (ckK ks t k < k → t < (ky ks (ckK ks t k)).1) := by
  induction k with
  | zero =>
    have : ckK ks t 0 = 0 := itN_zero
    rw [this]
    exact ⟨Nat.le_refl _, fun j hj => by omega, fun h => by omega⟩
  | succ k ih =>
    obtain ⟨h1, h2, h3⟩ := ih
    have hs : ckK ks t (k + 1) = if ckK ks t k = k ∧ (ky ks k).1 ≤ t then k + 1 else ckK ks t k := itN_succ
    rw [hs]
    split
    · rename_i hc
      refine ⟨Nat.le_refl _, fun j hj => ?_, fun h => by omega⟩
      by_cases hjk : j < k
      · exact h2 j (by omega)
      · rw [show j = k by omega]; exact hc.2
    · rename_i hc
      refine ⟨by omega, h2, fun h => ?_⟩
      by_cases hk : ckK ks t k < k
      · exact h3 hk
      · have : ckK ks t k = k := by omega
        rw [this]
        have : ¬ (ky ks k).1 ≤ t := fun z => hc ⟨‹_›, z⟩
        omega
structure TkV (ks : List Ky) : Prop where
  n1 : 1 ≤ ks.length
  n20 : ks.length ≤ 20
  r : ∀ i, i < ks.length → (0 ≤ (ky ks i).1 ∧ (ky ks i).1 ≤ 200) ∧ (-24 ≤ (ky ks i).2.1 ∧ (ky ks i).2.1 ≤ 24) ∧ -24 ≤ (ky ks i).2.2 ∧ (ky ks i).2.2 ≤ 24
  s : ∀ i, i + 1 < ks.length → (ky ks i).1 < (ky ks (i + 1)).1
theorem okTk_V {ks : List Ky} (h : okTk ks = true) : TkV ks := by
  simp only [okTk, Bool.and_eq_true] at h
  obtain ⟨h1, h2⟩ := h
  have hl : 1 ≤ ks.length ∧ ks.length ≤ 20 := by simp [in1] at h2; omega
  refine ⟨hl.1, hl.2, fun i hi => ?_, fun i hi => ?_⟩
  · have := allN_get (p := kyB ks) h1 hi
    simp only [kyB, Bool.and_eq_true, in1, decide_eq_true_eq] at this
    exact ⟨this.1.1.1, this.1.1.2, this.1.2⟩
  · have := allN_get (p := kyB ks) h1 hi
    simp only [kyB, Bool.and_eq_true, in1, decide_eq_true_eq, Bool.or_eq_true] at this
    rcases this.2 with h | h
    · omega
    · exact h
def plW (ks : List Ky) (e t : Int) (c : Nat) : Int := shV e (t - (ky ks (c - 1)).1) ((ky ks c).1 - (ky ks (c - 1)).1)
def plc (ks : List Ky) (e t : Int) : Int × Int :=
  if ckK ks t ks.length = 0 then ((ky ks 0).2.1, (ky ks 0).2.2) else if ckK ks t ks.length = ks.length then ((ky ks (ks.length - 1)).2.1, (ky ks (ks.length - 1)).2.2)
  else (btw (ky ks (ckK ks t ks.length - 1)).2.1 (ky ks (ckK ks t ks.length)).2.1 (plW ks e t (ckK ks t ks.length)), btw (ky ks (ckK ks t ks.length - 1)).2.2 (ky ks (ckK ks t ks.length)).2.2 (plW ks e t (ckK ks t ks.length)))
theorem plc_ok {ks : List Ky} {e t : Int} (V : TkV ks) : (-100 ≤ (plc ks e t).1 ∧ (plc ks e t).1 ≤ 100) ∧ -100 ≤ (plc ks e t).2 ∧ (plc ks e t).2 ≤ 100 := by
  have n1 := V.n1
  obtain ⟨c1, c2, c3⟩ := ckK_prop (ks := ks) (t := t) (k := ks.length)
  unfold plc
  generalize ckK ks t ks.length = c at *
  split
  · have := V.r 0 (by omega)
    simp only []
    omega
  · split
    · have := V.r (ks.length - 1) (by omega)
      simp only []
      omega
    · have a1 := V.r (c - 1) (by omega)
      have a2 := V.r c (by omega)
      have a3 := V.s (c - 1) (by omega)
      rw [show c - 1 + 1 = c by omega] at a3
      have a4 := c2 (c - 1) (by omega)
      have a5 := c3 (by omega)
      have hw := shV_ok (e := e) (a := t - (ky ks (c - 1)).1) (s := (ky ks c).1 - (ky ks (c - 1)).1) (by omega) (by omega) (by omega)
      have h1 := btw_ok a1.2.1 a2.2.1 hw
      have h2 := btw_ok a1.2.2 a2.2.2 hw
      exact ⟨h1, h2⟩
theorem call543 {pu : Bool} {H : Heap} {y : Value} {ks : List Ky} {e t : Int} (h : SlR H y 3 ks.length (kysC ks)) (V : TkV ks) (he : 0 ≤ e ∧ e ≤ 3) (ht : 0 ≤ t ∧ t ≤ 200) :
    Call tab pu 543 [y, .int .i64 e, .int .i64 t] H = some (tup [.int .i64 (plc ks e t).1, .int .i64 (plc ks e t).2], H) := by
  refine Call_wp t543 (.inr rfl) rfl ?_
  have n1 := V.n1
  have n20 := V.n20
  obtain ⟨c1, c2, c3⟩ := ckK_prop (ks := ks) (t := t) (k := ks.length)
  have hpl : plc ks e t = plc ks e t := rfl
  unfold plc at hpl ⊢
  clear hpl
  generalize ckK ks t ks.length = c at *
  simp [c543, k543]
  refine WK_loop (fun i e' G => e' 0 = y ∧ e' 1 = .int .i64 e ∧ e' 2 = .int .i64 t ∧ e' 8 = .int .i64 i ∧ H = G) c ?_ (Nat.zero_le _) ⟨by simp, by simp, by simp, by simp, rfl⟩
  rintro i e' _ _ hi ⟨h0, h1, h2, h8, rfl⟩
  by_cases hic : i < c
  · obtain ⟨q, off, ver, ha, _, r0, _, _⟩ := Kr.at h (j := i) (by omega)
    obtain ⟨b1, _⟩ := V.r i (by omega)
    have w1 : IntKind.wrap .i64 (ky ks i).1 = (ky ks i).1 := wrap64 (by omega)
    have hle := c2 i hic
    have hlt : (i : Int) < ks.length := by omega
    have e9 : IntKind.wrap .i64 ((i : Int) + 1) = ((i + 1 : Nat) : Int) := by rw [wrap64 (by omega)]; omega
    simp [b543_1, h0, h1, h2, h8, SlR.lenV h, hlt, ha, r0, w1, hle, e9, -Int.natCast_add]
    exact hic
  · obtain rfl : i = c := by omega
    by_cases hic0 : i = 0
    · subst hic0
      obtain ⟨q, off, ver, ha, hr, r0, _, _⟩ := Kr.at h (j := 0) (by omega)
      obtain ⟨b1, b2, b3⟩ := V.r 0 (by omega)
      have w1 : IntKind.wrap .i64 (ky ks 0).1 = (ky ks 0).1 := wrap64 (by omega)
      have w2 : IntKind.wrap .i64 (ky ks 0).2.1 = (ky ks 0).2.1 := wrap64 (by omega)
      have w3 : IntKind.wrap .i64 (ky ks 0).2.2 = (ky ks 0).2.2 := wrap64 (by omega)
      have hnle : ¬ (ky ks 0).1 ≤ t := by have := c3 (by omega); omega
      have hlt : (0 : Int) < ks.length := by omega
      have hlt' : 0 < ks.length := by omega
      simp at h8 ha
      simp only [kyC] at hr
      simp [b543_1, h0, h1, h2, h8, SlR.lenV h, hlt', ha, r0, w1, hnle, hr, stc3, ldc3b, ldc3c, w2, w3, skip]
    · obtain ⟨m, rfl⟩ : ∃ m, i = m + 1 := ⟨i - 1, by omega⟩
      obtain ⟨q, off, ver, ha, hr, r0, _, _⟩ := Kr.at h (j := m) (by omega)
      obtain ⟨b1, b2, b3⟩ := V.r m (by omega)
      have w2 : IntKind.wrap .i64 (ky ks m).2.1 = (ky ks m).2.1 := wrap64 (by omega)
      have w3 : IntKind.wrap .i64 (ky ks m).2.2 = (ky ks m).2.2 := wrap64 (by omega)
      have w1 : IntKind.wrap .i64 (ky ks m).1 = (ky ks m).1 := wrap64 (by omega)
      have e5 : IntKind.wrap .i64 (((m + 1 : Nat) : Int) - 1) = (m : Int) := by rw [wrap64 (by omega)]; omega
      have z1 : (((m + 1 : Nat) : Int) == 0) = false := by rw [beq_eq_false_iff_ne]; omega
      have hm1 : m + 1 ≠ 0 := by omega
      simp only [kyC] at hr
      by_cases hn : m + 1 = ks.length
      · have hnl : ¬ (((m + 1 : Nat) : Int) < ks.length) := by omega
        have z2 : (((m + 1 : Nat) : Int) == ks.length) = true := by rw [beq_iff_eq]; omega
        have hmx : (if (m : Int) > 0 then (m : Int) else 0) = (m : Int) := by split <;> omega
        have hkl : ks.length - 1 = m := by omega
        have hnl2 : ¬ (m + 1 < ks.length) := by omega
        have hmx2 : (if 0 < m then (m : Int) else 0) = (m : Int) := by split <;> omega
        rw [if_neg hm1, if_pos hn, hkl]
        clear hn hkl hnl2
        simp [b543_1, h0, h1, h2, h8, SlR.lenV h, hnl, z1, z2, e5, hmx, hmx2, ha, hr, stc3, ldc3b, ldc3c, w2, w3, skip, -Int.natCast_add]
      · have hlt : ((m + 1 : Nat) : Int) < ks.length := by omega
        have z2 : (((m + 1 : Nat) : Int) == ks.length) = false := by rw [beq_eq_false_iff_ne]; omega
        obtain ⟨q', off', ver', ha', hr', r0', _, _⟩ := Kr.at h (j := m + 1) (by omega)
        obtain ⟨b1', b2', b3'⟩ := V.r (m + 1) (by omega)
        have w1' : IntKind.wrap .i64 (ky ks (m + 1)).1 = (ky ks (m + 1)).1 := wrap64 (by omega)
        have w2' : IntKind.wrap .i64 (ky ks (m + 1)).2.1 = (ky ks (m + 1)).2.1 := wrap64 (by omega)
        have w3' : IntKind.wrap .i64 (ky ks (m + 1)).2.2 = (ky ks (m + 1)).2.2 := wrap64 (by omega)
        have a3 := V.s m (by omega)
        have a4 := c2 m (by omega)
        have a5 := c3 (by omega)
        have hnle : ¬ (ky ks (m + 1)).1 ≤ t := by omega
        have w4 : IntKind.wrap .i64 (t - (ky ks m).1) = t - (ky ks m).1 := wrap64 (by omega)
        have w5 : IntKind.wrap .i16 ((ky ks (m + 1)).1 - (ky ks m).1) = (ky ks (m + 1)).1 - (ky ks m).1 := wrap16 (by omega)
        have w6 : IntKind.wrap .i64 ((ky ks (m + 1)).1 - (ky ks m).1) = (ky ks (m + 1)).1 - (ky ks m).1 := wrap64 (by omega)
        have hw := shV_ok (e := e) (a := t - (ky ks m).1) (s := (ky ks (m + 1)).1 - (ky ks m).1) (by omega) (by omega) (by omega)
        have k1 := call579 (pu := true) (H := H) (e := e) (a := t - (ky ks m).1) (s := (ky ks (m + 1)).1 - (ky ks m).1) he (by omega) (by omega) (by omega) (by omega)
        have k2 := call580 (pu := true) (H := H) b2 b2' hw
        have k3 := call580 (pu := true) (H := H) b3 b3' hw
        rw [if_neg hm1, if_neg hn]
        simp only [plW, show m + 1 - 1 = m from rfl]
        simp only [kyC] at hr'
        simp [b543_1, h0, h1, h2, h8, SlR.lenV h, hlt, ha', r0', w1', hnle, z1, z2, e5, ha, hr, hr', stc3, ldc3a, ldc3b, ldc3c, w1, w2, w3, w2', w3', w4, w5, w6, k1, k2, k3, -Int.natCast_add]
theorem call538 {pu : Bool} {H : Heap} {y : Value} {ks : List Ky} {e t : Int} (h : SlR H y 3 ks.length (kysC ks)) (V : TkV ks) (he : 0 ≤ e ∧ e ≤ 3) (ht : 0 ≤ t ∧ t ≤ 200) :
    Call tab pu 538 [y, .int .i64 e, .int .i64 t] H = some (tup [.int .i64 (plc ks e t).1, .int .i64 (plc ks e t).2], H) := by
  refine Call_wp t538 (.inr rfl) rfl ?_
  have n1 := V.n1
  have n20 := V.n20
  obtain ⟨c1, c2, c3⟩ := ckK_prop (ks := ks) (t := t) (k := ks.length)
  unfold plc
  generalize ckK ks t ks.length = c at *
  simp [c538, k538]
  refine WK_loop (fun i e' G => e' 0 = y ∧ e' 1 = .int .i64 e ∧ e' 2 = .int .i64 t ∧ e' 8 = .int .i64 i ∧ H = G) (c - 1) ?_ (Nat.zero_le _) ⟨by simp, by simp, by simp, by simp, rfl⟩
  rintro i e' _ _ hi ⟨h0, h1, h2, h8, rfl⟩
  have e9 : IntKind.wrap .i64 ((i : Int) + 1) = ((i + 1 : Nat) : Int) := by rw [wrap64 (by omega)]; omega
  obtain ⟨q, off, ver, ha, _, r0, r1, r2⟩ := Kr.at h (j := i) (by omega)
  obtain ⟨b1, b2, b3⟩ := V.r i (by omega)
  have w1 : IntKind.wrap .i64 (ky ks i).1 = (ky ks i).1 := wrap64 (by omega)
  have w2 : IntKind.wrap .i64 (ky ks i).2.1 = (ky ks i).2.1 := wrap64 (by omega)
  have w3 : IntKind.wrap .i64 (ky ks i).2.2 = (ky ks i).2.2 := wrap64 (by omega)
  by_cases hic : i < c - 1
  · obtain ⟨q', off', ver', ha', _, r0', _, _⟩ := Kr.at h (j := i + 1) (by omega)
    obtain ⟨b1', _⟩ := V.r (i + 1) (by omega)
    have w1' : IntKind.wrap .i64 (ky ks (i + 1)).1 = (ky ks (i + 1)).1 := wrap64 (by omega)
    have hle := c2 (i + 1) (by omega)
    have hlt : ((i + 1 : Nat) : Int) < ks.length := by omega
    simp [b538_1, h0, h1, h2, h8, e9, SlR.lenV h, hlt, ha', r0', w1', hle, -Int.natCast_add]
    exact hic
  · obtain rfl : i = c - 1 := by omega
    by_cases hn : c - 1 + 1 = ks.length
    · have hnl : ¬ (((c - 1 + 1 : Nat) : Int) < ks.length) := by omega
      have z2 : (((c - 1 + 1 : Nat) : Int) == ks.length) = true := by rw [beq_iff_eq]; omega
      have hval : (if c = 0 then ((ky ks 0).2.1, (ky ks 0).2.2) else if c = ks.length then ((ky ks (ks.length - 1)).2.1, (ky ks (ks.length - 1)).2.2) else (btw (ky ks (c - 1)).2.1 (ky ks c).2.1 (plW ks e t c), btw (ky ks (c - 1)).2.2 (ky ks c).2.2 (plW ks e t c))) = ((ky ks (c - 1)).2.1, (ky ks (c - 1)).2.2) := by
        by_cases hc0 : c = 0
        · rw [if_pos hc0, hc0]
        · have hcn : c = ks.length := by omega
          rw [if_neg hc0, if_pos hcn, ← hcn]
      rw [hval]
      simp [b538_1, h0, h1, h2, h8, e9, SlR.lenV h, hnl, z2, ha, r1, r2, w2, w3, skip, -Int.natCast_add]
    · have hlt : ((c - 1 + 1 : Nat) : Int) < ks.length := by omega
      have z2 : (((c - 1 + 1 : Nat) : Int) == ks.length) = false := by rw [beq_eq_false_iff_ne]; omega
      obtain ⟨q', off', ver', ha', _, r0', r1', r2'⟩ := Kr.at h (j := c - 1 + 1) (by omega)
      obtain ⟨b1', b2', b3'⟩ := V.r (c - 1 + 1) (by omega)
      have w1' : IntKind.wrap .i64 (ky ks (c - 1 + 1)).1 = (ky ks (c - 1 + 1)).1 := wrap64 (by omega)
      have w2' : IntKind.wrap .i64 (ky ks (c - 1 + 1)).2.1 = (ky ks (c - 1 + 1)).2.1 := wrap64 (by omega)
      have w3' : IntKind.wrap .i64 (ky ks (c - 1 + 1)).2.2 = (ky ks (c - 1 + 1)).2.2 := wrap64 (by omega)
      have a3 := V.s (c - 1) (by omega)
      have hnle : ¬ (ky ks (c - 1 + 1)).1 ≤ t := by
        by_cases hc0 : c = 0
        · subst hc0
          have := c3 (by omega)
          simp only [show (0 : Nat) - 1 = 0 from rfl] at a3 ⊢
          omega
        · have := c3 (by omega)
          rw [show c - 1 + 1 = c by omega]; omega
      by_cases hle : t ≤ (ky ks (c - 1)).1
      · have hval : (if c = 0 then ((ky ks 0).2.1, (ky ks 0).2.2) else if c = ks.length then ((ky ks (ks.length - 1)).2.1, (ky ks (ks.length - 1)).2.2) else (btw (ky ks (c - 1)).2.1 (ky ks c).2.1 (plW ks e t c), btw (ky ks (c - 1)).2.2 (ky ks c).2.2 (plW ks e t c))) = ((ky ks (c - 1)).2.1, (ky ks (c - 1)).2.2) := by
          by_cases hc0 : c = 0
          · rw [if_pos hc0, hc0]
          · have a4 := c2 (c - 1) (by omega)
            have e1 : t - (ky ks (c - 1)).1 = 0 := by omega
            rw [show c - 1 + 1 = c by omega] at a3
            have : plW ks e t c = 0 := by unfold plW; rw [e1]; exact shV_zero (by omega)
            rw [if_neg hc0, if_neg (by omega), this, btw_zero, btw_zero]
        rw [hval]
        simp [b538_1, h0, h1, h2, h8, e9, SlR.lenV h, hlt, ha', r0', w1', hnle, z2, ha, r0, r1, r2, w1, w2, w3, hle, -Int.natCast_add]
      · have hc0 : c ≠ 0 := fun hc => by
          subst hc
          have := c3 (by omega)
          simp only [show (0 : Nat) - 1 = 0 from rfl] at hle
          omega
        have hcc : c - 1 + 1 = c := by omega
        have hval : (if c = 0 then ((ky ks 0).2.1, (ky ks 0).2.2) else if c = ks.length then ((ky ks (ks.length - 1)).2.1, (ky ks (ks.length - 1)).2.2) else (btw (ky ks (c - 1)).2.1 (ky ks c).2.1 (plW ks e t c), btw (ky ks (c - 1)).2.2 (ky ks c).2.2 (plW ks e t c))) = (btw (ky ks (c - 1)).2.1 (ky ks (c - 1 + 1)).2.1 (shV e (t - (ky ks (c - 1)).1) ((ky ks (c - 1 + 1)).1 - (ky ks (c - 1)).1)), btw (ky ks (c - 1)).2.2 (ky ks (c - 1 + 1)).2.2 (shV e (t - (ky ks (c - 1)).1) ((ky ks (c - 1 + 1)).1 - (ky ks (c - 1)).1))) := by
          rw [if_neg hc0, if_neg (by omega), hcc]; rfl
        rw [hval]
        have w4 : IntKind.wrap .i64 (t - (ky ks (c - 1)).1) = t - (ky ks (c - 1)).1 := wrap64 (by omega)
        have w6 : IntKind.wrap .i64 ((ky ks (c - 1 + 1)).1 - (ky ks (c - 1)).1) = (ky ks (c - 1 + 1)).1 - (ky ks (c - 1)).1 := wrap64 (by omega)
        have hw := shV_ok (e := e) (a := t - (ky ks (c - 1)).1) (s := (ky ks (c - 1 + 1)).1 - (ky ks (c - 1)).1) (by omega) (by omega) (by omega)
        have k1 := call576 (pu := true) (H := H) (e := e) (a := t - (ky ks (c - 1)).1) (s := (ky ks (c - 1 + 1)).1 - (ky ks (c - 1)).1) he (by omega) (by omega) (by omega) (by omega)
        have k2 := call577 (pu := true) (H := H) b2 b2' hw
        have k3 := call577 (pu := true) (H := H) b3 b3' hw
        simp [b538_1, h0, h1, h2, h8, e9, SlR.lenV h, hlt, ha', r0', r1', r2', w1', w2', w3', hnle, z2, ha, r0, r1, r2, w1, w2, w3, hle, w4, w6, k1, k2, k3, -Int.natCast_add]
def ptFr (s : Pt) (t : Int) : List Int := shF s.f (plc s.ks s.e t).1 (plc s.ks s.e t).2
theorem ptFr_W {s : Pt} {t : Int} : FrW (ptFr s t) := dotsF_W
theorem okPt_V {s : Pt} (h : okPt s = true) : okF s.f = true ∧ TkV s.ks ∧ 0 ≤ s.e ∧ s.e ≤ 3 := by
  simp only [okPt, Bool.and_eq_true] at h
  have := h.2
  simp [in1] at this
  exact ⟨h.1.1, okTk_V h.1.2, this⟩
theorem PtW.fr {s : Pt} (h : PtW s) : FrW s.f := ⟨s.len, h.ok⟩
theorem call427 {pu : Bool} {H : Heap} {s : Pt} {y : Value} {t : Int} (hy : Kr H y s) (hw : PtW s) (hk : okPt s = true) (ht : 0 ≤ t ∧ t ≤ 200) : Call tab pu 427 [agg (ptC s y), .int .i64 t] H = some (iv .u16 (ptFr s t), H) := by
  refine Call_wp t427 (.inr rfl) rfl ?_
  obtain ⟨h1, V, he⟩ := okPt_V hk
  have hl := s.len
  have w1 : IntKind.wrap .i64 s.e = s.e := wrap64 (by omega)
  have c1 := call543 (pu := true) hy V he ht
  obtain ⟨p1, p2⟩ := plc_ok (e := s.e) (t := t) V
  have c2 := call358 (pu := true) (H := H) (dx := (plc s.ks s.e t).1) (dy := (plc s.ks s.e t).2) hw.fr h1 (by omega) (by omega)
  have e1 : shF s.f (plc s.ks s.e t).1 (plc s.ks s.e t).2 = ptFr s t := rfl
  rw [e1] at c2
  have s3 := stc_zr (k := .u16) (n := 12) (l := ptFr s t) ptFr_W.len
  simp [c427, k427, ptC, ldP0 hl, ldP12 hl, ldP13 hl, w1, c1, c2, zs_cs, agg_cs, s3, ptFr_W.len]
theorem call423 {pu : Bool} {H : Heap} {q off ver : Nat} {s : Pt} {y : Value} {t : Int} (hr : PtR H q off ver s y) (hw : PtW s) (hk : okPt s = true) (ht : 0 ≤ t ∧ t ≤ 200) : Call tab pu 423 [adr q off ver, .int .i64 t] H = some (iv .u16 (ptFr s t), H) := by
  refine Call_wp t423 (.inr rfl) rfl ?_
  obtain ⟨h1, V, he⟩ := okPt_V hk
  have w1 : IntKind.wrap .i64 s.e = s.e := wrap64 (by omega)
  have c1 := call538 (pu := true) hr.rk V he ht
  obtain ⟨p1, p2⟩ := plc_ok (e := s.e) (t := t) V
  have c2 := call355 (pu := true) (H := H) (dx := (plc s.ks s.e t).1) (dy := (plc s.ks s.e t).2) hw.fr hr.rf (by omega) (by omega)
  have e1 : shF s.f (plc s.ks s.e t).1 (plc s.ks s.e t).2 = ptFr s t := rfl
  rw [e1] at c2
  have s3 := stc_zr (k := .u16) (n := 12) (l := ptFr s t) ptFr_W.len
  simp [c423, k423, hr.re, hr.ry, w1, c1, c2, zs_cs, agg_cs, s3, ptFr_W.len]
/-- The frame of parts at a tick. -/
def prF (l : List Pt) (t : Int) (k : Nat) : List Int := itN (fun i a => mixF orI a (ptFr (at0 l i) t)) (zr 12 0) k
theorem prF_zero {l : List Pt} {t : Int} : prF l t 0 = zr 12 0 := itN_zero
theorem prF_succ {l : List Pt} {t : Int} {k : Nat} : prF l t (k + 1) = mixF orI (prF l t k) (ptFr (at0 l k) t) := itN_succ
theorem prF_len {l : List Pt} {t : Int} {k : Nat} : (prF l t k).length = 12 := by
  cases k with
  | zero => rw [prF_zero]; simp
  | succ k => rw [prF_succ]; exact mixF_length
theorem okPts_get {l : List Pt} (h : okPts l = true) {i : Nat} (hi : i < l.length) : okPt (at0 l i) = true := allN_get (p := fun i => okPt (at0 l i)) h hi
theorem call436 {pu : Bool} {H : Heap} {x : Value} {l : List Pt} {t : Int} (hs : PtS H x l) (hw : PtsW l) (hk : okPts l = true) (ht : 0 ≤ t ∧ t ≤ 200) : Call tab pu 436 [x, .int .i64 t] H = some (iv .u16 (prF l t l.length), H) := by
  refine Call_wp t436 (.inr rfl) rfl ?_
  have hn := hw.n
  have hz12 := stc_zr (k := .u16) (n := 12) (l := zr 12 0) (by simp)
  simp [c436, k436, fill, zs_cs, agg_cs, hz12, hs.lenV]
  refine WP_forH 11 l.length _ rfl (by omega) (fun i e => e 1 = .int .i64 t ∧ e 4 = iv .u16 (zr 12 0) ∧ e 5 = iv .u16 (prF l t i) ∧ e 9 = x ∧ e 10 = .int .i64 l.length) ?_ ?_ (by simp) ⟨by simp, by simp, by simp [prF_zero], by simp, by simp⟩
  · rintro i e hi hii e4 h11 ⟨h1, h4, h5, h9, h10⟩
    obtain ⟨q, off, ver, y, ha, hr, hy⟩ := hs.get hi
    have c1 := call427 (pu := true) hy (hw.w _ (at0_mem hi)) (okPts_get hk hi) ht
    have hpl := prF_len (l := l) (t := t) (k := i)
    have c2 := call338 (pu := true) (H := H) hpl (ptFr_W (s := at0 l i) (t := t)).len
    rw [← prF_succ] at c2
    have hl := (at0 l i).len
    have hz : (zr 12 0).length = 12 := rfl
    simp only [ptC] at hr c1
    have st := stPall (a := .int .i8 0) (b := .slice none 0 0) (a' := .int .i8 (at0 l i).e) (b' := y) hz hl
    have hst3 : stc (iv .u16 (prF l t i)) 0 (cs .u16 (prF l t (i + 1))) = some (iv .u16 (prF l t (i + 1))) := stc_all (by rw [prF_len, prF_len])
    simp [b436_1, h11, h1, h4, h5, h9, h10, hii, z14, ptZ, ha, hr, ptT_len hl, st, hpl, ldPall hl, c1, c2, prF_len, hst3, e4]
  · rintro e h11 ⟨h1, h4, h5, h9, h10⟩
    have s3 := stc_zr (k := .u16) (n := 12) (l := prF l t l.length) prF_len
    simp [b436_1, h11, h10, h4, h5, prF_len, s3, agg_cs]
theorem call433 {pu : Bool} {H : Heap} {x : Value} {l : List Pt} {t : Int} (hs : PtS H x l) (hw : PtsW l) (hk : okPts l = true) (ht : 0 ≤ t ∧ t ≤ 200) : Call tab pu 433 [x, .int .i64 t] H = some (iv .u16 (prF l t l.length), H) := by
  refine Call_wp t433 (.inr rfl) rfl ?_
  have hn := hw.n
  obtain ⟨G1, hG1⟩ : ∃ G1, G1 = H ++ [(⟨cs .u16 (zr 12 0), 1, 0, false⟩ : Blk)] := ⟨_, rfl⟩
  have p1 : Pre H G1 := by rw [hG1]; exact Pre.one
  have g1 : G1[H.length]? = some ⟨cs .u16 (prF l t 0), 1, 0, false⟩ := by rw [hG1, prF_zero]; simp
  have hwr : wr H.length false G1 H.length 0 0 (cs .u16 (zr 12 0)) = some G1 := by
    rw [hG1, wr_last (b := ⟨cs .u16 (zr 12 0), 1, 0, false⟩) rfl rfl (Nat.le_refl _) (by simp)]
  simp [c433, k433, fill, zs_cs, agg_cs, ← hG1, hwr, wbOf]
  refine WP_count 6 l.length _ rfl (fun i e G => e 0 = x ∧ e 1 = .int .i64 t ∧ e 4 = iv .u16 (zr 12 0) ∧ e 5 = adr H.length 0 0 ∧ G[H.length]? = some ⟨cs .u16 (prF l t i), 1, 0, false⟩ ∧ Pre H G) (by omega) ?_ ?_ (by simp) ⟨by simp, by simp, by simp, by simp, g1, p1⟩
  · rintro i e G _ hi hii e4 h6 ⟨h0, h1, h4, h5, gC, hPG⟩
    obtain ⟨q, off, ver, y, ha, hr, hy⟩ := (hs.pre hPG).get hi
    have c1 := call423 (pu := true) (PtR.of hr hy) (hw.w _ (at0_mem hi)) (okPts_get hk hi) ht
    obtain ⟨Ga, hGa⟩ : ∃ Ga, Ga = G ++ [(⟨cs .u16 (zr 12 0), 1, 0, false⟩ : Blk)] := ⟨_, rfl⟩
    obtain ⟨Gb, hGb⟩ : ∃ Gb, Gb = G ++ [(⟨cs .u16 (ptFr (at0 l i) t), 1, 0, false⟩ : Blk)] := ⟨_, rfl⟩
    have pb : Pre G Gb := by rw [hGb]; exact Pre.one
    have hHG : H.length ≤ G.length := hPG.len
    have hwa : wr H.length false Ga G.length 0 0 (cs .u16 (ptFr (at0 l i) t)) = some Gb := by
      rw [hGa, wr_last (b := ⟨cs .u16 (zr 12 0), 1, 0, false⟩) rfl rfl hHG (by simp [ptFr_W.len]), hGb]
    have hlC := (List.getElem?_eq_some_iff.1 gC).1
    have hpl := prF_len (l := l) (t := t) (k := i)
    have gCb : Gb[H.length]? = some ⟨cs .u16 (prF l t i), 1, 0, false⟩ := by rw [pb.get hlC]; exact gC
    have rC : rd Gb H.length 0 0 12 = some (cs .u16 (prF l t i)) := by
      rw [rd_at gCb rfl (by simp [hpl])]; simp only [List.drop_zero]; rw [List.take_of_length_le (by simp [hpl])]
    have rN : rd Gb G.length 0 0 12 = some (cs .u16 (ptFr (at0 l i) t)) := by rw [hGb]; exact rd_last rfl (by simp [ptFr_W.len])
    have c3 := call337 (pu := true) hpl ptFr_W.len rC rN
    rw [← prF_succ] at c3
    obtain ⟨Gd, hGd⟩ : ∃ Gd, Gd = Gb.set H.length ⟨cs .u16 (prF l t (i + 1)), 1, 0, false⟩ := ⟨_, rfl⟩
    have hwd : wr H.length false Gb H.length 0 0 (cs .u16 (prF l t (i + 1))) = some Gd := by
      rw [wr_at gCb rfl rfl (by simp [may]) (by simp [prF_len]), hGd]
      have hdn : (cs .u16 (prF l t i)).drop 12 = [] := List.drop_eq_nil_of_le (by simp [prF_len])
      simp only [splice, List.take_zero, List.nil_append, Nat.zero_add, length_cs, prF_len, hdn, List.append_nil]
    simp [b433_1, h6, h0, h1, h4, h5, hs.lenV, hii, ha, c1, zs_cs, ← hGa, hwa, wbOf, ptFr_W.len, c3, prF_len, hwd, e4]
    exact ⟨by rw [hGd]; exact get_set gCb, by rw [hGd]; exact (hPG.trans pb).set (Nat.le_refl _)⟩
  · rintro e G _ h6 ⟨h0, h1, h4, h5, gC, hPG⟩
    have hpl := prF_len (l := l) (t := t) (k := l.length)
    have rC : rd G H.length 0 0 12 = some (cs .u16 (prF l t l.length)) := by
      rw [rd_at gC rfl (by simp [hpl])]; simp only [List.drop_zero]; rw [List.take_of_length_le (by simp [hpl])]
    have s3 := stc_zr (k := .u16) (n := 12) (l := prF l t l.length) hpl
    simp [b433_1, h6, h0, h4, h5, hs.lenV, rC, s3, hpl, hPG.take, agg_cs]
def faC (l : List Pt) (b : Bool) : Int := if okPts l = true then if b = true then if 6 < l.length then 3 else 0 else 2 else 1
def faR (l : List Pt) (t : Int) : Value := if faC l (in1 t 0 200) = 0 then tup [iv .u16 (prF l t l.length), .int .i64 0] else tup [iv .u16 (zr 12 0), .int .i64 (faC l (in1 t 0 200))]
theorem faC_ok {l : List Pt} {b : Bool} (h : faC l b = 0) : okPts l = true ∧ b = true ∧ l.length ≤ 6 := by
  unfold faC at h
  split at h
  · rename_i h1
    split at h
    · rename_i h2
      split at h
      · omega
      · exact ⟨h1, h2, by omega⟩
    · omega
  · omega
theorem in1_tick {t : Int} (h : in1 t 0 200 = true) : 0 ≤ t ∧ t ≤ 200 := by simpa [in1] using h
theorem call220 {pu : Bool} {H : Heap} {x : Value} {l : List Pt} {t : Int} (hs : PtS H x l) (hw : PtsW l) : Call tab pu 220 [x, .int .i64 t] H = some (faR l t, H) := by
  refine Call_wp t220 (.inr rfl) rfl ?_
  have c1 := call421 (pu := true) (b := in1 t 0 200) hs hw
  have e1 : (if okPts l = true then if in1 t 0 200 = true then if 6 < l.length then (3 : Int) else 0 else 2 else 1) = faC l (in1 t 0 200) := rfl
  rw [e1] at c1
  by_cases hc : faC l (in1 t 0 200) = 0
  · obtain ⟨h1, h2, h3⟩ := faC_ok hc
    have c2 := call433 (pu := true) hs hw h1 (in1_tick h2)
    have s3 := stc_zr (k := .u16) (n := 12) (l := prF l t l.length) prF_len
    simp [c220, k220, call432, c1, hc, c2, zs_cs, agg_cs, prF_len, s3, faR]
  · have hb : (faC l (in1 t 0 200) != 0) = true := by simpa using hc
    have hz12 := stc_zr (k := .u16) (n := 12) (l := zr 12 0) (by simp)
    simp [c220, k220, call432, c1, hb, hc, fill, zs_cs, agg_cs, hz12, faR]
theorem call222 {pu : Bool} {H : Heap} {x : Value} {l : List Pt} {t : Int} (hs : PtS H x l) (hw : PtsW l) : Call tab pu 222 [x, .int .i64 t] H = some (faR l t, H) := by
  refine Call_wp t222 (.inr rfl) rfl ?_
  have c1 := call425 (pu := true) hs hw
  have hz12 := stc_zr (k := .u16) (n := 12) (l := zr 12 0) (by simp)
  cases k1 : okPts l with
  | false =>
    have hc : faC l (in1 t 0 200) = 1 := by unfold faC; rw [k1]; rfl
    simp [c222, k222, c1, k1, fill, zs_cs, agg_cs, hz12, faR, hc]
  | true =>
    cases k2 : in1 t 0 200 with
    | false =>
      have hc : faC l (in1 t 0 200) = 2 := by unfold faC; rw [k1, k2]; rfl
      rw [k2] at hc
      simp [c222, k222, c1, k1, call435, k2, fill, zs_cs, agg_cs, hz12, faR, hc]
    | true =>
      by_cases h6 : 6 < l.length
      · have hc : faC l (in1 t 0 200) = 3 := by unfold faC; rw [k1, k2, if_pos rfl, if_pos rfl, if_pos h6]
        have h6' : (6 : Int) < l.length := by omega
        rw [k2] at hc
        simp [c222, k222, c1, k1, call435, k2, hs.lenV, h6, h6', fill, zs_cs, agg_cs, hz12, faR, hc]
      · have hc : faC l (in1 t 0 200) = 0 := by unfold faC; rw [k1, k2, if_pos rfl, if_pos rfl, if_neg h6]
        have h6' : ¬ (6 : Int) < l.length := by omega
        have c2 := call436 (pu := true) hs hw k1 (in1_tick k2)
        have s3 := stc_zr (k := .u16) (n := 12) (l := prF l t l.length) prF_len
        rw [k2] at hc
        simp [c222, k222, c1, k1, call435, k2, hs.lenV, h6, h6', c2, zs_cs, agg_cs, prF_len, s3, faR, hc]
structure PtsA (l : List Pt) : Prop where
  w : ∀ s ∈ l, PtW s
  n : l.length ≤ 9223372036854775807
  r : ∀ s ∈ l, s.ks.length ≤ 9223372036854775807
theorem faR_is {l : List Pt} {t : Int} : ∃ f c, faR l t = tup [iv .u16 f, .int .i64 c] ∧ f.length = 12 := by
  unfold faR
  split
  · exact ⟨_, _, rfl, prF_len⟩
  · exact ⟨_, _, rfl, by simp⟩
theorem call45 {H : Heap} {x : Value} {l : List Pt} {t : Int} (hs : PtS H x l) (ha : PtsA l) : ∃ H', Call tab false 45 [x, .int .i64 t] H = some (.bool true, H') := by
  refine ⟨H, Call_wp t45 (.inl rfl) rfl ?_⟩
  obtain ⟨v, hsz, _, hv⟩ := sz219 hs ha.n ha.r (left := 1000000) (by omega) (by omega)
  by_cases hneg : v < 0
  · simp [c45, k45, hsz, hneg]
  obtain ⟨hn, hr⟩ := hv (by omega)
  have hw : PtsW l := ⟨ha.w, hn, hr⟩
  obtain ⟨x1, G1, q1, s1, p1, _⟩ := cq221 (pu := true) (flag := false) hs hn hr
  obtain ⟨x2, G2, q2, s2, p2, k2⟩ := cq221 (pu := true) (flag := false) (hs.pre p1) hn hr
  have p12 := p1.trans p2
  obtain ⟨x3, G3, q3, s3, p3, k3⟩ := cq221 (pu := true) (flag := false) (hs.pre p12) hn hr
  have p13 := p12.trans p3
  obtain ⟨x4, G4, q4, s4, p4, _⟩ := cq221 (pu := true) (flag := true) (hs.pre p13) hn hr
  have i1 := in223 (pu := true) ((k2 rfl).pre p3) (k3 rfl) hn hr
  have w1 := call220 (pu := true) (t := t) s1 hw
  have w2 := call222 (pu := true) (t := t) s2 hw
  have w3 := call222 (pu := true) (t := t) s4 hw
  obtain ⟨f, c, hR, hf⟩ := faR_is (l := l) (t := t)
  rw [hR] at w1 w2 w3
  have st := stc_zr (k := .u16) (n := 12) (l := f) hf
  simp [c45, k45, hsz, hneg, q1, w1, q2, w2, zs_cs, agg_cs, hf, st, call78 hf, q3, i1, q4, w3, skip, (p13.trans p4).take]
end Fb
