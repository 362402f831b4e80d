/- What each function computes. -/
import Derived.Test.YtenmbknaocedfaaUse0
set_option linter.unusedVariables false
set_option linter.unusedSimpArgs false
namespace Fb
open Go
theorem seekP_succ {l : List Sted} {p k : Nat} : seekP l p (k + 1) = (at0 l (seekP l p k)).b.toNat := itN_succ
theorem seekS_zero {l : List Sted} {p : Nat} : seekS l p 0 = stCost (at0 l p) := itN_zero
theorem seekS_succ {l : List Sted} {p k : Nat} : seekS l p (k + 1) = seekS l p k + stCost (at0 l (seekP l p (k + 1))) := itN_succ
def seekE (l : List Sted) (p k : Nat) : Bool := (at0 l (seekP l p k)).a == 0
def seekV (l : List Sted) (p : Nat) : Int := seekS l p (findN (seekE l p) (l.length + 1)).toNat
def askC (l : List Sted) (p : Int) : Int := if okSts l = true then if 0 ≤ p ∧ p < l.length then 0 else 2 else 1
theorem call398 {pu : Bool} {H : Heap} {x : Value} {l : List Sted} {p : Int} (h : StS H x l) (hw : StsW l) : Call tab pu 398 [x, .int .i64 p] H = some (.int .i64 (askC l p), H) := by
  refine Call_wp t398 (.inr rfl) rfl ?_
  have hn := hw.n
  have e1 : IntKind.wrap .i64 ((l.length : Int) - 1) = (l.length : Int) - 1 := wrap64 (by omega)
  cases hk : okSts l with
  | false => simp [c398, k398, call386 h hw, hk, askC]
  | true =>
    cases hp : in1 p 0 ((l.length : Int) - 1) with
    | false =>
      have : ¬ (0 ≤ p ∧ p < l.length) := by simp [in1] at hp; omega
      simp [c398, k398, call386 h hw, hk, h.lenV, e1, in304, hp, askC, this]
    | true =>
      have : 0 ≤ p ∧ p < l.length := by simp [in1] at hp; omega
      simp [c398, k398, call386 h hw, hk, h.lenV, e1, in304, hp, askC, this]
theorem call531 {pu : Bool} {H : Heap} {x : Value} {n : Nat} (h : lenV x = some (.int .i64 n)) : Call tab pu 531 [x] H = some (.int .i64 n, H) := by
  refine Call_wp t531 (.inr rfl) rfl ?_
  simp [c531, k531, h]
theorem call399 {pu : Bool} {H : Heap} {x : Value} {l : List Sted} {p : Int} (h : StS H x l) (hw : StsW l) : Call tab pu 399 [x, .int .i64 p] H = some (.int .i64 (askC l p), H) := by
  refine Call_wp t399 (.inr rfl) rfl ?_
  have hn := hw.n
  have e1 : IntKind.wrap .i64 ((l.length : Int) - 1) = (l.length : Int) - 1 := wrap64 (by omega)
  cases hk : okSts l with
  | false => simp [c399, k399, call163 h hw, hk, askC]
  | true =>
    cases hp : in1 p 0 ((l.length : Int) - 1) with
    | false =>
      have : ¬ (0 ≤ p ∧ p < l.length) := by simp [in1] at hp; omega
      simp [c399, k399, call163 h hw, hk, call531 h.lenV, e1, in295, hp, askC, this]
    | true =>
      have : 0 ≤ p ∧ p < l.length := by simp [in1] at hp; omega
      simp [c399, k399, call163 h hw, hk, call531 h.lenV, e1, in295, hp, askC, this]
theorem seek_step {l : List Sted} (hk : okSts l = true) {p k : Nat} (hp : seekP l p k < l.length) (he : seekE l p k = false) : seekP l p (k + 1) < seekP l p k ∧ (at0 l (seekP l p k)).b = (seekP l p (k + 1) : Int) := by
  have h1 : (at0 l (seekP l p k)).a ≠ 0 := by simpa [seekE] using he
  have h2 := okSt_b (okSts_get hk hp) h1
  rw [seekP_succ]; omega
theorem seekS_ok {l : List Sted} (hk : okSts l = true) (hw : StsW l) {p k : Nat} (h : ∀ j, j ≤ k → seekP l p j < l.length) : 0 ≤ seekS l p k ∧ seekS l p k ≤ 3000004 * ((k : Int) + 1) := by
  induction k with
  | zero =>
    have h0 := h 0 (by omega)
    rw [seekP_zero] at h0
    have := stCost_ok (okSt_a (okSts_get hk h0)) (hw.r _ (at0_mem h0))
    rw [seekS_zero]; omega
  | succ k ih =>
    have h1 := ih fun j hj => h j (by omega)
    have h2 := h (k + 1) (by omega)
    have := stCost_ok (okSt_a (okSts_get hk h2)) (hw.r _ (at0_mem h2))
    rw [seekS_succ]; omega
def seekR (l : List Sted) (p : Int) : Value := if askC l p = 0 then tup [.int .i64 (seekV l p.toNat), .int .i64 0] else tup [.int .i64 0, .int .i64 (askC l p)]
theorem askC_zero {l : List Sted} {p : Int} (h : askC l p = 0) : okSts l = true ∧ 0 ≤ p ∧ p < l.length := by
  unfold askC at h
  split at h
  · rename_i h1
    split at h
    · rename_i h2; exact ⟨h1, h2⟩
    · omega
  · omega
theorem call176 {pu : Bool} {H : Heap} {x : Value} {l : List Sted} {p : Int} (h : StS H x l) (hw : StsW l) : Call tab pu 176 [x, .int .i64 p] H = some (seekR l p, H) := by
  refine Call_wp t176 (.inr rfl) rfl ?_
  have hc := call398 (pu := true) (p := p) h hw
  by_cases h0 : askC l p = 0
  · obtain ⟨hk, hp0, hpl⟩ := askC_zero h0
    obtain ⟨m, rfl⟩ := Int.eq_ofNat_of_zero_le hp0
    have hm : m < l.length := by omega
    have hn := hw.n
    obtain ⟨q, off, ver, y, ha, hrd, hrw⟩ := h.get hm
    have hc1 := cost310 (pu := true) hrd hrw (okSt_a (okSts_get hk hm)) (hw.r _ (at0_mem hm))
    simp [c176, k176, hc, h0, ha, hc1]
    have hin0 : ∀ j, j ≤ 0 → seekP l m j < l.length := by
      intro j hj
      obtain rfl : j = 0 := by omega
      rw [seekP_zero]; exact hm
    have hle0 : seekP l m 0 + 0 ≤ m := by rw [seekP_zero]; omega
    have hne0 : ∀ j, j < 0 → seekE l m j = false := by intro j hj; omega
    refine WK_loop (fun k e G => G = H ∧ e 0 = x ∧ e 1 = .int .i64 (seekP l m k) ∧ e 7 = .int .i64 (seekS l m k) ∧ (∀ j, j ≤ k → seekP l m j < l.length) ∧ seekP l m k + k ≤ m ∧ ∀ j, j < k → seekE l m j = false) l.length ?_ (Nat.zero_le _) ⟨rfl, by simp, by simp [seekP_zero], by simp [seekS_zero], hin0, hle0, hne0⟩
    rintro k e G _ hkl ⟨hG, h0e, h1, h7, hin, hle, hne⟩
    obtain rfl := hG.symm
    have hpk := hin k (Nat.le_refl _)
    obtain ⟨q, off, ver, y, ha, hrd, hrw⟩ := h.get hpk
    have d0 := rd_part hrd (o := 0) (m := 1) (by omega)
    have d1 := rd_part hrd (o := 1) (m := 1) (by omega)
    simp [stC] at d0 d1
    cases he : seekE l m k with
    | true =>
      have hf : findN (seekE l m) (l.length + 1) = (k : Int) := findN_some (by omega) hne he
      have ha0 : ((at0 l (seekP l m k)).a == 0) = true := he
      have ha1 : ((at0 l (seekP l m k)).a != 0) = false := by rw [bne, ha0]; rfl
      simp [b176_1, h0e, h1, h7, ha, d0, ha1, seekR, h0, seekV, hf]
    | false =>
      have ha0 : ((at0 l (seekP l m k)).a == 0) = false := he
      have ha1 : ((at0 l (seekP l m k)).a != 0) = true := by rw [bne, ha0]; rfl
      obtain ⟨hlt, hb⟩ := seek_step hk hpk he
      have hpk1 : seekP l m (k + 1) < l.length := by omega
      obtain ⟨q', off', ver', y', ha', hrd', hrw'⟩ := h.get hpk1
      have ha2 := okSt_a (okSts_get hk hpk1)
      have hr2 := hw.r _ (at0_mem hpk1)
      have hc2 := cost310 (pu := true) hrd' hrw' ha2 hr2
      have e1 : IntKind.wrap .i64 (seekP l m (k + 1) : Int) = (seekP l m (k + 1) : Int) := wrap64 (by omega)
      have b1 := seekS_ok hk hw hin
      have b2 := stCost_ok ha2 hr2
      rw [hb] at d1
      simp (disch := omega) [b176_1, h0e, h1, h7, ha, d0, d1, ha1, e1, ha', hc2, seekS_succ]
      refine ⟨by omega, fun j hj => ?_, by omega, upto_succ hne he⟩
      rcases Nat.lt_or_ge j (k + 1) with h5 | h5
      · exact hin j (by omega)
      · obtain rfl : j = k + 1 := by omega
        exact hpk1
  · have h1 : (askC l p != 0) = true := by simpa using h0
    simp [c176, k176, hc, h1, seekR, h0]
theorem idxAV_k {esz : Nat} {x : Value} {k k' : IntKind} {i : Int} : idxAV esz x (.int k i) = idxAV esz x (.int k' i) := rfl
theorem call177 {pu : Bool} {H : Heap} {x : Value} {l : List Sted} {p : Int} (h : StS H x l) (hw : StsW l) : Call tab pu 177 [x, .int .i64 p] H = some (seekR l p, H) := by
  refine Call_wp t177 (.inr rfl) rfl ?_
  have hc := call399 (pu := true) (p := p) h hw
  by_cases h0 : askC l p = 0
  · obtain ⟨hk, hp0, hpl⟩ := askC_zero h0
    obtain ⟨m, rfl⟩ := Int.eq_ofNat_of_zero_le hp0
    have hm : m < l.length := by omega
    have hn := hw.n
    obtain ⟨q, off, ver, y, ha, hrd, hrw⟩ := h.get hm
    have hrd' := hrd
    simp only [stC] at hrd'
    simp [c177, k177, hc, h0, ha, hrd', stc5]
    have hin0 : ∀ j, j ≤ 0 → seekP l m j < l.length := by
      intro j hj
      obtain rfl : j = 0 := by omega
      rw [seekP_zero]; exact hm
    have hle0 : seekP l m 0 + 0 ≤ m := by rw [seekP_zero]; omega
    have hne0 : ∀ j, j < 0 → seekE l m j = false := by intro j hj; omega
    refine WK_loop (fun k e G => G = H ∧ e 0 = x ∧ e 7 = .int .i64 (seekS l m k - stCost (at0 l (seekP l m k))) ∧ (∃ y, Rw H y (at0 l (seekP l m k)) ∧ e 8 = agg [.int .i8 (at0 l (seekP l m k)).a, .int .i8 (at0 l (seekP l m k)).b, .int .i8 (at0 l (seekP l m k)).c, .int .i8 (at0 l (seekP l m k)).d, y]) ∧ (∀ j, j ≤ k → seekP l m j < l.length) ∧ seekP l m k + k ≤ m ∧ ∀ j, j < k → seekE l m j = false) l.length ?_ (Nat.zero_le _) ⟨rfl, by simp, by simp [seekP_zero, seekS_zero], ⟨y, by rw [seekP_zero]; exact hrw, by simp [seekP_zero]⟩, hin0, hle0, hne0⟩
    rintro k e G _ hkl ⟨hG, h0e, h7, ⟨y, hrw, h8⟩, hin, hle, hne⟩
    obtain rfl := hG.symm
    have hpk := hin k (Nat.le_refl _)
    have ha1 := okSt_a (okSts_get hk hpk)
    have hr1 := hw.r _ (at0_mem hpk)
    have hc1 := cost312 (pu := true) hrw ha1 hr1
    have b1 := seekS_ok hk hw hin
    have b2 := stCost_ok ha1 hr1
    have e2 : seekS l m k - stCost (at0 l (seekP l m k)) + stCost (at0 l (seekP l m k)) = seekS l m k := by omega
    cases he : seekE l m k with
    | true =>
      have hf : findN (seekE l m) (l.length + 1) = (k : Int) := findN_some (by omega) hne he
      have ha0 : ((at0 l (seekP l m k)).a == 0) = true := he
      have ha1 : ((at0 l (seekP l m k)).a != 0) = false := by rw [bne, ha0]; rfl
      simp (disch := omega) [b177_1, h0e, h7, h8, ldc5a, ldc5, hc1, ha1, seekR, h0, seekV, hf, e2]
    | false =>
      have ha0 : ((at0 l (seekP l m k)).a == 0) = false := he
      have ha1 : ((at0 l (seekP l m k)).a != 0) = true := by rw [bne, ha0]; rfl
      obtain ⟨hlt, hb⟩ := seek_step hk hpk he
      have hpk1 : seekP l m (k + 1) < l.length := by omega
      obtain ⟨q', off', ver', y', ha', hrd', hrw'⟩ := h.get hpk1
      have e1 : IntKind.wrap .i64 (seekP l m (k + 1) : Int) = (seekP l m (k + 1) : Int) := wrap64 (by omega)
      have hrd2 := hrd'
      rw [hb] at hc1
      rw [idxAV_k (k' := .i8)] at ha'
      simp only [stC] at hrd2
      have e3 : seekS l m k + stCost (at0 l (seekP l m (k + 1))) - stCost (at0 l (seekP l m (k + 1))) = seekS l m k := by omega
      simp (disch := omega) [b177_1, h0e, h7, h8, ldc5a, ldc5b, ldc5, hc1, ha1, hb, e1, e2, ha', hrd2, stc5, seekS_succ, e3]
      refine ⟨by omega, ⟨y', hrw', rfl⟩, fun j hj => ?_, by omega, upto_succ hne he⟩
      rcases Nat.lt_or_ge j (k + 1) with h5 | h5
      · exact hin j (by omega)
      · obtain rfl : j = k + 1 := by omega
        exact hpk1
  · have h1 : (askC l p != 0) = true := by simpa using h0
    simp [c177, k177, hc, h1, seekR, h0]
theorem call30 {H : Heap} {x : Value} {l : List Sted} {p : Int} (hs : StS H x l) (ha : StsA l) : Call tab false 30 [x, .int .i64 p] H = some (.bool true, H) := by
  refine Call_wp t30 (.inl rfl) rfl ?_
  obtain ⟨v, hsz, _, hv⟩ := sz157 hs ha.n ha.r (left := 1000000) (by omega) (by omega)
  by_cases hneg : v < 0
  · simp [c30, k30, hsz, hneg]
  · obtain ⟨hn, hr⟩ := hv (by omega)
    have hw : StsW l := ⟨ha.w, hn, hr⟩
    obtain ⟨x1, G1, x2, G2, x3, G3, x4, G4, q1, s1, q2, s2, q3, i1, q4, s4, P⟩ := sts_steps hs hn hr
    obtain ⟨u, c, e⟩ : ∃ u c, seekR l p = tup [.int .i64 u, .int .i64 c] := by unfold seekR; split <;> exact ⟨_, _, rfl⟩
    have w1 := call176 (pu := true) (p := p) s1 hw
    have w2 := call177 (pu := true) (p := p) s2 hw
    have w4 := call177 (pu := true) (p := p) s4 hw
    rw [e] at w1 w2 w4
    simp [c30, k30, hsz, hneg, q1, q2, q3, q4, i1, w1, w2, w4, skip, P.take]
end Fb
