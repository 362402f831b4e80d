/- What each function computes. -/
import Derived.Test.YtenmbknaocedfaaUse0
set_option linter.unusedVariables false
set_option linter.unusedSimpArgs false
namespace Fb
open Go
theorem call163 {pu : Bool} {H : Heap} {x : Value} {l : List Sted} (h : StS H x l) (hw : StsW l) : Call tab pu 163 [x] H = some (.bool (okSts l), H) := by
  refine Call_wp t163 (.inr rfl) rfl ?_
  have hn := hw.n
  simp [c163, k163, h.lenV]
  refine WP_forH 7 l.length _ rfl (by omega) (fun i e => e 0 = x ∧ e 5 = x ∧ e 6 = .int .i64 l.length ∧ ∀ j, j < i → okSt (at0 l j) j = true) ?_ ?_ (by simp) (by simp)
  · rintro i e hi hii e4 h7 ⟨h0, h5, h6, hp⟩
    obtain ⟨q, off, ver, y, ha, hrd, hrw⟩ := h.get hi
    have hc := call387 (pu := true) (i := i) hrw (hw.w _ (at0_mem hi)) (hw.r _ (at0_mem hi)) (by omega)
    have hst : ∀ s y, stC s y = [.int .i8 s.a, .int .i8 s.b, .int .i8 s.c, .int .i8 s.d, y] := fun _ _ => rfl
    rw [hst] at hc hrd
    cases hk : okSt (at0 l i) i with
    | true =>
      rw [hk] at hc
      simp [b163_1, h7, h0, h5, h6, hii, ha, hrd, stc5, ldc5, hc, e4]
      exact upto_succ hp hk
    | false =>
      rw [hk] at hc
      simp [b163_1, h7, h0, h5, h6, hii, ha, hrd, stc5, ldc5, hc, okSts, allN_false (p := fun i => okSt (at0 l i) i) hi hk]
  · rintro e h7 ⟨h0, h5, h6, hp⟩
    have e1 : decide ((l.length : Int) ≤ 40) = decide (l.length ≤ 40) := by apply decide_eq_decide.2; omega
    simp [b163_1, h7, h0, h6, h.lenV, okSts, allN_true (p := fun i => okSt (at0 l i) i) hp, e1]
/-- Steps as an argument: their lengths are not bounded yet. -/
structure StsA (l : List Sted) : Prop where
  w : ∀ s ∈ l, StW s
  n : l.length ≤ 9223372036854775807
  r : ∀ s ∈ l, s.rows.length ≤ 9223372036854775807
theorem okSt_a {s : Sted} {i : Nat} (h : okSt s i = true) : 0 ≤ s.a ∧ s.a ≤ 2 := by
  simp only [okSt, kindB, Bool.and_eq_true] at h
  obtain ⟨_, h⟩ := h
  by_cases h0 : (s.a == 0) = true
  · simp at h0; omega
  · rw [if_neg h0] at h
    by_cases h1 : (s.a == 1) = true
    · simp at h1; omega
    · rw [if_neg h1] at h
      by_cases h2 : (s.a == 2) = true
      · simp at h2; omega
      · rw [if_neg h2] at h; cases h
theorem okSts_get {l : List Sted} (h : okSts l = true) {i : Nat} (hi : i < l.length) : okSt (at0 l i) i = true := by
  simp only [okSts, Bool.and_eq_true] at h
  exact allN_get (p := fun i => okSt (at0 l i) i) h.1 hi
def stCost (s : Sted) : Int := costV s.a s.rows.length
theorem stCost_ok {s : Sted} (h : 0 ≤ s.a ∧ s.a ≤ 2) (hn : s.rows.length ≤ 1000000) : 0 ≤ stCost s ∧ stCost s ≤ 3000004 := by
  have := how_ok h
  unfold stCost costV; omega
theorem cost312 {pu : Bool} {H : Heap} {y : Value} {s : Sted} (h : Rw H y s) (ha : 0 ≤ s.a ∧ s.a ≤ 2) (hn : s.rows.length ≤ 1000000) : Call tab pu 312 [agg [.int .i8 s.a, .int .i8 s.b, .int .i8 s.c, .int .i8 s.d, y]] H = some (.int .i64 (stCost s), H) := by
  refine Call_wp t312 (.inr rfl) rfl ?_
  have hh := how_ok ha
  have e1 : 3 * (s.rows.length : Int) + howC s.a = stCost s := Int.add_comm _ _
  simp (disch := omega) [c312, k312, fill, splice, stc3, ldc5a, ldc5e, call490 (SlR.lenV h), at3 ha, ldc3 ha, e1]
theorem cost310 {pu : Bool} {H : Heap} {q off ver : Nat} {y : Value} {s : Sted} (hr : rd H q off ver 5 = some (stC s y)) (h : Rw H y s) (ha : 0 ≤ s.a ∧ s.a ≤ 2) (hn : s.rows.length ≤ 1000000) : Call tab pu 310 [adr q off ver] H = some (.int .i64 (stCost s), H) := by
  refine Call_wp t310 (.inr rfl) rfl ?_
  have hh := how_ok ha
  have d0 := rd_part hr (o := 0) (m := 1) (by omega)
  have d4 := rd_part hr (o := 4) (m := 1) (by omega)
  simp [stC] at d0 d4
  have e1 : howC s.a + 3 * (s.rows.length : Int) = stCost s := rfl
  simp (disch := omega) [c310, k310, fill, splice, stc3, d0, d4, SlR.lenV h, at3 ha, ldc3 ha, e1]
def sumC (l : List Sted) (k : Nat) : Int := itN (fun k v => v + stCost (at0 l k)) 0 k
theorem sumC_succ {l : List Sted} {k : Nat} : sumC l (k + 1) = sumC l k + stCost (at0 l k) := itN_succ
theorem sumC_ok {l : List Sted} (hk : okSts l = true) (hw : StsW l) {k : Nat} (h : k ≤ l.length) : 0 ≤ sumC l k ∧ sumC l k ≤ 3000004 * (k : Int) := by
  induction k with
  | zero => rw [sumC, itN_zero]; omega
  | succ k ih =>
    have h1 := ih (by omega)
    have h2 := stCost_ok (okSt_a (okSts_get hk (i := k) (by omega))) (hw.r _ (at0_mem (i := k) (by omega)))
    rw [sumC_succ]; omega
theorem call396 {pu : Bool} {H : Heap} {x : Value} {l : List Sted} (h : StS H x l) (hw : StsW l) (hk : okSts l = true) : Call tab pu 396 [x] H = some (.int .i64 (sumC l l.length), H) := by
  refine Call_wp t396 (.inr rfl) rfl ?_
  have hn := hw.n
  simp [c396, k396]
  refine WP_forH 4 l.length _ rfl (by omega) (fun i e => e 0 = x ∧ e 3 = .int .i64 (sumC l i)) ?_ ?_ (by simp) (by simp [sumC, itN_zero])
  · rintro i e hi hii e4 h4 ⟨h0, h3⟩
    obtain ⟨q, off, ver, y, ha, hrd, hrw⟩ := h.get hi
    have ha2 := okSt_a (okSts_get hk hi)
    have hr := hw.r _ (at0_mem hi)
    have hc := cost310 (pu := true) hrd hrw ha2 hr
    have b1 := sumC_ok hk hw (k := i) (by omega)
    have b2 := stCost_ok ha2 hr
    simp (disch := omega) [b396_1, h4, h0, h3, hii, h.lenV, ha, hc, e4, sumC_succ]
  · rintro e h4 ⟨h0, h3⟩
    simp [b396_1, h4, h0, h3, h.lenV]
theorem call397 {pu : Bool} {H : Heap} {x : Value} {l : List Sted} (h : StS H x l) (hw : StsW l) (hk : okSts l = true) : Call tab pu 397 [x] H = some (.int .i64 (sumC l l.length), H) := by
  refine Call_wp t397 (.inr rfl) rfl ?_
  have hn := hw.n
  simp [c397, k397, h.lenV]
  refine WP_forH 8 l.length _ rfl (by omega) (fun i e => e 6 = x ∧ e 7 = .int .i64 l.length ∧ e 3 = .int .i64 (sumC l i)) ?_ ?_ (by simp) (by simp [sumC, itN_zero])
  · rintro i e hi hii e4 h8 ⟨h6, h7, h3⟩
    obtain ⟨q, off, ver, y, ha, hrd, hrw⟩ := h.get hi
    have ha2 := okSt_a (okSts_get hk hi)
    have hr := hw.r _ (at0_mem hi)
    have hc := cost312 (pu := true) hrw ha2 hr
    have b1 := sumC_ok hk hw (k := i) (by omega)
    have b2 := stCost_ok ha2 hr
    simp (disch := omega) [b397_1, h8, h6, h7, h3, hii, ha, hrd, stC, stc5, ldc5, hc, e4, sumC_succ]
  · rintro e h8 ⟨h6, h7, h3⟩
    simp [b397_1, h8, h7, h3]
def scR (l : List Sted) : Value := if okSts l = true then tup [.int .i64 (sumC l l.length), .int .i64 0] else tup [.int .i64 0, .int .i64 1]
theorem call174 {pu : Bool} {H : Heap} {x : Value} {l : List Sted} (h : StS H x l) (hw : StsW l) : Call tab pu 174 [x] H = some (scR l, H) := by
  refine Call_wp t174 (.inr rfl) rfl ?_
  cases hk : okSts l with
  | false => simp [c174, k174, call386 h hw, hk, scR]
  | true => simp [c174, k174, call386 h hw, hk, scR, call396 h hw hk]
theorem call175 {pu : Bool} {H : Heap} {x : Value} {l : List Sted} (h : StS H x l) (hw : StsW l) : Call tab pu 175 [x] H = some (scR l, H) := by
  refine Call_wp t175 (.inr rfl) rfl ?_
  cases hk : okSts l with
  | false => simp [c175, k175, call163 h hw, hk, scR]
  | true => simp [c175, k175, call163 h hw, hk, scR, call397 h hw hk]
theorem s29 : tab 29 = some (.fn (lbiC 157 159 161 174 175)) := t29
theorem call29 {H : Heap} {x : Value} {l : List Sted} (hs : StS H x l) (ha : StsA l) : Call tab false 29 [x] H = some (.bool true, H) := by
  refine Call_wp s29 (.inl rfl) rfl ?_
  obtain ⟨v, hsz, _, hv⟩ := sz157 hs ha.n ha.r (left := 1000000) (by omega) (by omega)
  by_cases hneg : v < 0
  · simp [lbiC, lbiK, hsz, hneg]
  · obtain ⟨hn, hr⟩ := hv (by omega)
    have hw : StsW l := ⟨ha.w, hn, hr⟩
    obtain ⟨x1, G1, x2, G2, x3, G3, x4, G4, q1, s1, q2, s2, q3, i1, q4, s4, P⟩ := sts_steps hs hn hr
    obtain ⟨u, c, e⟩ : ∃ u c, scR l = tup [.int .i64 u, .int .i64 c] := by unfold scR; split <;> exact ⟨_, _, rfl⟩
    have w1 := call174 (pu := true) s1 hw
    have w2 := call175 (pu := true) s2 hw
    have w4 := call175 (pu := true) s4 hw
    rw [e] at w1 w2 w4
    simp [lbiC, lbiK, hsz, hneg, q1, q2, q3, q4, i1, w1, w2, w4, skip, P.take]
end Fb
