/- What each function computes. -/
import Derived.Test.YtimijcjjmeemeaaGreatDoorUse0
set_option linter.unusedVariables false
set_option linter.unusedSimpArgs false
namespace Fb
open Go
def kindB (s : Sted) (i : Nat) : Bool :=
  if (s.a == 0) = true then (s.b == 0) && stillB s else if (s.a == 1) = true then in1 s.b 0 ((i : Int) - 1) && stillB s
  else if (s.a == 2) = true then in1 s.b 0 ((i : Int) - 1) && !stillB s && in1 s.c (-12) 12 && in1 s.d (-12) 12 else false
def okSt (s : Sted) (i : Nat) : Bool := rowsB s && kindB s i
def okSts (l : List Sted) : Bool := allN (fun i => okSt (at0 l i) i) l.length && decide (l.length ≤ 40)
theorem in295 {pu : Bool} {H : Heap} {n lo hi : Int} : Call tab pu 295 [.int .i64 n, .int .i64 lo, .int .i64 hi] H = some (.bool (in1 n lo hi), H) := call295
theorem in304 {pu : Bool} {H : Heap} {n lo hi : Int} : Call tab pu 304 [.int .i64 n, .int .i64 lo, .int .i64 hi] H = some (.bool (in1 n lo hi), H) := call304
theorem Rw.at {H : Heap} {y : Value} {s : Sted} (h : Rw H y s) {j : Nat} (hj : j < s.rows.length) : ∃ q off ver, idxAV 2 y (.int .i64 (j : Int)) = some (adr q off ver) ∧ rd H q off ver 2 = some [.int .i8 (rw' s j).1, .int .u16 (rw' s j).2] ∧
    rd H q off ver 1 = some [.int .i8 (rw' s j).1] ∧ rd H q (off + 1) ver 1 = some [.int .u16 (rw' s j).2] := by
  obtain ⟨q, off, ver, h1, h2⟩ := SlR.get1 h hj
  rw [chsC_elem hj] at h2
  have h3 := rd_part h2 (o := 0) (m := 1) (by omega)
  have h4 := rd_part h2 (o := 1) (m := 1) (by omega)
  exact ⟨q, off, ver, h1, h2, h3, h4⟩
theorem StW.row {s : Sted} (h : StW s) {j : Nat} (hj : j < s.rows.length) : i8 (rw' s j).1 ∧ u16' (rw' s j).2 := h.rows _ (at0_mem hj)
theorem call573 {pu : Bool} {H : Heap} {y : Value} {s : Sted} (h : Rw H y s) (hw : StW s) (hn : s.rows.length ≤ 1000000) : Call tab pu 573 [y] H = some (.bool (rowsB s), H) := by
  refine Call_wp t573 (.inr rfl) rfl ?_
  simp [c573, k573]
  refine WP_forH 3 s.rows.length _ rfl (by omega) (fun j e => e 0 = y ∧ ∀ i, i < j → rowB s i = true) ?_ ?_ (by simp) (by simp)
  · rintro j e hj hjj e4 h3 ⟨h0, hp⟩
    obtain ⟨q, off, ver, ha, hr, hr1, hr2⟩ := Rw.at h hj
    obtain ⟨w1, w2⟩ := hw.row hj
    have e1 : IntKind.wrap .i64 (rw' s j).1 = (rw' s j).1 := wrap64 (by omega)
    have e2 : IntKind.wrap .i64 (rw' s j).2 = (rw' s j).2 := wrap64 (by omega)
    cases b1 : in1 (rw' s j).1 0 11 with
    | false =>
      have hb : rowB s j = false := by simp [rowB, b1]
      simp [b573_1, h3, h0, hjj, SlR.lenV h, ha, hr1, e1, in304, b1, skip, rowsB, allN_false hj hb]
    | true =>
      cases b2 : in1 (rw' s j).2 1 4095 with
      | false =>
        have hb : rowB s j = false := by simp [rowB, b2]
        simp [b573_1, h3, h0, hjj, SlR.lenV h, ha, hr1, hr2, e1, e2, in304, b1, b2, skip, rowsB, allN_false hj hb]
      | true =>
        rcases Nat.eq_zero_or_pos j with h0j | h0j
        · subst h0j
          have hb : rowB s 0 = true := by simp [rowB, b1, b2]
          have ha' : idxAV 2 y (.int .i64 0) = some (adr q off ver) := ha
          have h3' : e 3 = .int .i64 0 := h3
          have hj' : (0 : Int) < s.rows.length := by omega
          have e4' : IntKind.wrap .i64 (0 + 1) = 1 := by decide
          simp [b573_1, h3', h0, hj, SlR.lenV h, ha', hr1, hr2, e1, e2, in304, b1, b2, skip, e4']
          exact hb
        · obtain ⟨q', off', ver', ha', hr', hr1', hr2'⟩ := Rw.at h (j := j - 1) (by omega)
          have c1 : IntKind.wrap .i64 ((j : Int) - 1) = ((j - 1 : Nat) : Int) := by rw [wrap64 (by omega)]; omega
          have hj0 : (0 : Int) < (j : Int) := by omega
          by_cases hlt : (rw' s (j - 1)).1 < (rw' s j).1
          · have hb : rowB s j = true := by simp [rowB, b1, b2, hlt]
            have hnle : ¬ ((rw' s j).1 ≤ (rw' s (j - 1)).1) := by omega
            simp [b573_1, h3, h0, hjj, SlR.lenV h, ha, hr1, hr2, e1, e2, in304, b1, b2, h0j, c1, ha', hr1', hnle, skip, e4]
            exact upto_succ hp hb
          · have hb : rowB s j = false := by simp [rowB, hlt]; intro _ _; omega
            have hle : (rw' s j).1 ≤ (rw' s (j - 1)).1 := by omega
            simp [b573_1, h3, h0, hjj, SlR.lenV h, ha, hr1, hr2, e1, e2, in304, b1, b2, h0j, c1, ha', hr1', hle, skip, rowsB, allN_false hj hb]
  · rintro e h3 ⟨h0, hp⟩
    simp [b573_1, h3, h0, SlR.lenV h, rowsB, allN_true hp]
theorem call572 {pu : Bool} {H : Heap} {n : Int} : Call tab pu 572 [.int .i64 n] H = some (.bool (in1 n (-12) 12), H) := by
  refine Call_wp t572 (.inr rfl) rfl ?_
  simp [c572, k572, in304]
theorem call524 {pu : Bool} {H : Heap} {q off ver : Nat} {y : Value} {s : Sted} {i : Nat} (hrd : rd H q off ver 5 = some (stC s y)) (h : Rw H y s) (hw : StW s) (hn : s.rows.length ≤ 1000000) (hi : i ≤ 1000000) : Call tab pu 524 [adr q off ver, .int .i64 i] H = some (.bool (okSt s i), H) := by
  refine Call_wp t524 (.inr rfl) rfl ?_
  have hrows := call573 (pu := true) h hw hn
  obtain ⟨wa, wb, wc, wd, _⟩ := hw
  have d0 := rd_part hrd (o := 0) (m := 1) (by omega)
  have d1 := rd_part hrd (o := 1) (m := 1) (by omega)
  have d2 := rd_part hrd (o := 2) (m := 1) (by omega)
  have d3 := rd_part hrd (o := 3) (m := 1) (by omega)
  have d4 := rd_part hrd (o := 4) (m := 1) (by omega)
  simp [stC] at d0 d1 d2 d3 d4
  have ea : IntKind.wrap .i64 s.a = s.a := wrap64 (by omega)
  have eb : IntKind.wrap .i64 s.b = s.b := wrap64 (by omega)
  have ec : IntKind.wrap .i64 s.c = s.c := wrap64 (by omega)
  have ed : IntKind.wrap .i64 s.d = s.d := wrap64 (by omega)
  have ei : IntKind.wrap .i64 ((i : Int) - 1) = (i : Int) - 1 := wrap64 (by omega)
  have h309 : ∀ (pu : Bool) (G : Heap) (n : Int), Call tab pu 309 [.int .i64 n] G = some (.bool (in1 n 0 2), G) := fun pu G n => call309
  cases hr : rowsB s with
  | false =>
    have hok : okSt s i = false := by simp [okSt, hr]
    cases b1 : in1 s.a 0 2 <;> cases b2 : in1 s.c (-12) 12 <;> cases b3 : in1 s.d (-12) 12 <;>
      simp [c524, k524, d0, d1, d2, d3, d4, ea, ec, ed, h309, b1, call572, b2, b3, hrows, hr, hok, skip]
  | true =>
    have hok : okSt s i = kindB s i := by simp [okSt, hr]
    cases b1 : in1 s.a 0 2 with
    | false =>
      have a0 : (s.a == 0) = false := by simp [in1] at b1; simp; omega
      have a1 : (s.a == 1) = false := by simp [in1] at b1; simp; omega
      have a2 : (s.a == 2) = false := by simp [in1] at b1; simp; omega
      have hk : kindB s i = false := by simp [kindB, a0, a1, a2]
      simp [c524, k524, d0, d1, d2, d3, d4, ea, ec, ed, h309, b1, hok, hk, skip]
    | true =>
      cases b2 : in1 s.c (-12) 12 with
      | false =>
        have c0 : (s.c == 0) = false := by simp [in1] at b2; simp; omega
        have hk : kindB s i = false := by
          cases a0 : (s.a == 0) <;> cases a1 : (s.a == 1) <;> cases a2 : (s.a == 2) <;> simp [kindB, stillB, a0, a1, a2, c0, b2]
        simp [c524, k524, d0, d1, d2, d3, d4, ea, ec, ed, h309, b1, call572, b2, hok, hk, skip]
      | true =>
        cases b3 : in1 s.d (-12) 12 with
        | false =>
          have c0 : (s.d == 0) = false := by simp [in1] at b3; simp; omega
          have hk : kindB s i = false := by
            cases a0 : (s.a == 0) <;> cases a1 : (s.a == 1) <;> cases a2 : (s.a == 2) <;> simp [kindB, stillB, a0, a1, a2, c0, b3]
          simp [c524, k524, d0, d1, d2, d3, d4, ea, ec, ed, h309, b1, call572, b2, b3, hok, hk, skip]
        | true =>
          have a012 : (s.a == 0) = false → (s.a == 1) = false → (s.a == 2) = true := fun h1 h2 => by simp [in1] at b1 h1 h2 ⊢; omega
          cases a0 : (s.a == 0)
          · cases a1 : (s.a == 1)
            · have a2 := a012 a0 a1
              cases c0 : (s.c == 0) <;> cases e0 : (s.d == 0) <;> cases b5 : in1 s.b 0 ((i : Int) - 1) <;>
                simp [c524, k524, d0, d1, d2, d3, d4, ea, eb, ec, ed, ei, h309, b1, call572, b2, b3, hrows, hr, hok, skip, a0, a1, a2, c0, e0, in304, b5, kindB, stillB]
            · cases c0 : (s.c == 0) <;> cases e0 : (s.d == 0) <;> cases b5 : in1 s.b 0 ((i : Int) - 1) <;>
                simp [c524, k524, d0, d1, d2, d3, d4, ea, eb, ec, ed, ei, h309, b1, call572, b2, b3, hrows, hr, hok, skip, a0, a1, c0, e0, in304, b5, kindB, stillB]
          · cases c0 : (s.c == 0) <;> cases e0 : (s.d == 0) <;> cases b0 : (s.b == 0) <;>
              simp [c524, k524, d0, d1, d2, d3, d4, ea, eb, ec, ed, ei, h309, b1, call572, b2, b3, hrows, hr, hok, skip, a0, c0, e0, b0, kindB, stillB]
structure StsW (l : List Sted) : Prop where
  w : ∀ s ∈ l, StW s
  n : l.length ≤ 1000000
  r : ∀ s ∈ l, s.rows.length ≤ 1000000
theorem call386 {pu : Bool} {H : Heap} {x : Value} {l : List Sted} (h : StS H x l) (hw : StsW l) : Call tab pu 386 [x] H = some (.bool (okSts l), H) := by
  refine Call_wp t386 (.inr rfl) rfl ?_
  have hn := hw.n
  simp [c386, k386]
  refine WP_forH 3 l.length _ rfl (by omega) (fun i e => e 0 = x ∧ ∀ j, j < i → okSt (at0 l j) j = true) ?_ ?_ (by simp) (by simp)
  · rintro i e hi hii e4 h3 ⟨h0, hp⟩
    obtain ⟨q, off, ver, y, ha, hrd, hrw⟩ := h.get hi
    have hc := call524 (pu := true) (i := i) hrd hrw (hw.w _ (at0_mem hi)) (hw.r _ (at0_mem hi)) (by omega)
    cases hk : okSt (at0 l i) i with
    | true =>
      rw [hk] at hc
      simp [b386_1, h3, h0, hii, h.lenV, ha, hc, e4]
      exact upto_succ hp hk
    | false =>
      rw [hk] at hc
      simp [b386_1, h3, h0, hii, h.lenV, ha, hc, okSts, allN_false (p := fun i => okSt (at0 l i) i) hi hk]
  · rintro e h3 ⟨h0, hp⟩
    have e1 : decide ((l.length : Int) ≤ 40) = decide (l.length ≤ 40) := by apply decide_eq_decide.2; omega
    simp [b386_1, h3, h0, h.lenV, okSts, allN_true (p := fun i => okSt (at0 l i) i) hp, e1]
theorem call387 {pu : Bool} {H : Heap} {y : Value} {s : Sted} {i : Nat} (h : Rw H y s) (hw : StW s) (hn : s.rows.length ≤ 1000000) (hi : i ≤ 1000000) : Call tab pu 387 [agg (stC s y), .int .i64 i] H = some (.bool (okSt s i), H) := by
  refine Call_wp t387 (.inr rfl) rfl ?_
  have hst : stC s y = [.int .i8 s.a, .int .i8 s.b, .int .i8 s.c, .int .i8 s.d, y] := rfl
  simp [c387, k387, hst, ldc5e, SlR.lenV h]
  refine WP_forH 12 s.rows.length _ rfl (by omega) (fun j e => e 1 = .int .i64 i ∧ e 2 = agg [.int .i8 s.a, .int .i8 s.b, .int .i8 s.c, .int .i8 s.d, y] ∧ e 10 = y ∧ e 11 = .int .i64 s.rows.length ∧ ∀ i, i < j → rowB s i = true) ?_ ?_ (by simp) (by simp)
  · rintro j e hj hjj e4 h12 ⟨h1, h2, h10, h11, hp⟩
    obtain ⟨q, off, ver, ha, hr, hr1, hr2⟩ := Rw.at h hj
    obtain ⟨w1, w2⟩ := hw.row hj
    have e1 : IntKind.wrap .i64 (rw' s j).1 = (rw' s j).1 := wrap64 (by omega)
    have e2 : IntKind.wrap .i64 (rw' s j).2 = (rw' s j).2 := wrap64 (by omega)
    cases b1 : in1 (rw' s j).1 0 11 with
    | false =>
      have hb : rowB s j = false := by simp [rowB, b1]
      simp [b387_1, h12, h1, h2, h10, h11, hjj, ha, hr, stc2c, ldc2, ldc2b, e1, in295, b1, skip, okSt, rowsB, allN_false hj hb]
    | true =>
      cases b2 : in1 (rw' s j).2 1 4095 with
      | false =>
        have hb : rowB s j = false := by simp [rowB, b2]
        simp [b387_1, h12, h1, h2, h10, h11, hjj, ha, hr, stc2c, ldc2, ldc2b, e1, e2, in295, b1, b2, skip, okSt, rowsB, allN_false hj hb]
      | true =>
        rcases Nat.eq_zero_or_pos j with h0j | h0j
        · subst h0j
          have hb : rowB s 0 = true := by simp [rowB, b1, b2]
          have ha' : idxAV 2 y (.int .i64 0) = some (adr q off ver) := ha
          have h3' : e 12 = .int .i64 0 := h12
          have e4' : IntKind.wrap .i64 (0 + 1) = 1 := by decide
          simp [b387_1, h3', h1, h2, h10, h11, hj, ha', hr, stc2c, ldc2, ldc2b, e1, e2, in295, b1, b2, skip, e4']
          exact hb
        · obtain ⟨q', off', ver', ha', hr', hr1', hr2'⟩ := Rw.at h (j := j - 1) (by omega)
          have c1 : IntKind.wrap .i64 ((j : Int) - 1) = ((j - 1 : Nat) : Int) := by rw [wrap64 (by omega)]; omega
          by_cases hlt : (rw' s (j - 1)).1 < (rw' s j).1
          · have hb : rowB s j = true := by simp [rowB, b1, b2, hlt]
            have hnle : ¬ ((rw' s j).1 ≤ (rw' s (j - 1)).1) := by omega
            simp [b387_1, h12, h1, h2, h10, h11, hjj, ha, hr, stc2c, ldc2, ldc2b, ldc5e, e1, e2, in295, b1, b2, h0j, c1, ha', hr1', hnle, skip, e4]
            exact upto_succ hp hb
          · have hb : rowB s j = false := by simp [rowB, hlt]; intro _ _; omega
            have hle : (rw' s j).1 ≤ (rw' s (j - 1)).1 := by omega
            simp [b387_1, h12, h1, h2, h10, h11, hjj, ha, hr, stc2c, ldc2, ldc2b, ldc5e, e1, e2, in295, b1, b2, h0j, c1, ha', hr1', hle, skip, okSt, rowsB, allN_false hj hb]
  · rintro e h12 ⟨h1, h2, h10, h11, hp⟩
    have hr : rowsB s = true := allN_true hp
    have hok : okSt s i = kindB s i := by simp [okSt, hr]
    obtain ⟨wa, wb, wc, wd, _⟩ := hw
    have eb : IntKind.wrap .i64 s.b = s.b := wrap64 (by omega)
    have ec : IntKind.wrap .i64 s.c = s.c := wrap64 (by omega)
    have ed : IntKind.wrap .i64 s.d = s.d := wrap64 (by omega)
    have ei : IntKind.wrap .i64 ((i : Int) - 1) = (i : Int) - 1 := wrap64 (by omega)
    have e11 : e 12 = .int .i64 s.rows.length := h12
    simp only [b387_1]
    cases a0 : (s.a == 0)
    · cases a1 : (s.a == 1)
      · cases a2 : (s.a == 2)
        · cases c0 : (s.c == 0) <;> cases e0 : (s.d == 0) <;>
            simp [e11, h1, h2, h11, ldc5a, ldc5b, ldc5c, ldc5d, eb, ec, ed, ei, hok, skip, a0, a1, a2, c0, e0, in295, kindB, stillB]
        · cases c0 : (s.c == 0) <;> cases e0 : (s.d == 0) <;> cases b5 : in1 s.b 0 ((i : Int) - 1) <;> cases b2 : in1 s.c (-12) 12 <;> cases b3 : in1 s.d (-12) 12 <;>
            simp [e11, h1, h2, h11, ldc5a, ldc5b, ldc5c, ldc5d, eb, ec, ed, ei, hok, skip, a0, a1, a2, c0, e0, b5, b2, b3, in295, kindB, stillB]
      · cases c0 : (s.c == 0) <;> cases e0 : (s.d == 0) <;> cases b5 : in1 s.b 0 ((i : Int) - 1) <;>
          simp [e11, h1, h2, h11, ldc5a, ldc5b, ldc5c, ldc5d, eb, ec, ed, ei, hok, skip, a0, a1, c0, e0, b5, in295, kindB, stillB]
    · cases c0 : (s.c == 0) <;> cases e0 : (s.d == 0) <;> cases b0 : (s.b == 0) <;>
        simp [e11, h1, h2, h11, ldc5a, ldc5b, ldc5c, ldc5d, eb, ec, ed, ei, hok, skip, a0, c0, e0, b0, in295, kindB, stillB]
theorem call163 {pu : Bool} {H : Heap} {x : Value} {l : List Sted} (h : StS H x l) (hw : StsW l) : Call tab pu 163 [x] H = some (.bool (okSts l), H) := by
  refine Call_wp t163 (.inr rfl) rfl ?_
  have hn := hw.n
  simp [c163, k163, h.lenV]
  refine WP_forH 7 l.length _ rfl (by omega) (fun i e => e 0 = x ∧ e 5 = x ∧ e 6 = .int .i64 l.length ∧ ∀ j, j < i → okSt (at0 l j) j = true) ?_ ?_ (by simp) (by simp)
  · rintro i e hi hii e4 h7 ⟨h0, h5, h6, hp⟩
    obtain ⟨q, off, ver, y, ha, hrd, hrw⟩ := h.get hi
    have hc := call387 (pu := true) (i := i) hrw (hw.w _ (at0_mem hi)) (hw.r _ (at0_mem hi)) (by omega)
    have hst : ∀ s y, stC s y = [.int .i8 s.a, .int .i8 s.b, .int .i8 s.c, .int .i8 s.d, y] := fun _ _ => rfl
    rw [hst] at hc hrd
    cases hk : okSt (at0 l i) i with
    | true =>
      rw [hk] at hc
      simp [b163_1, h7, h0, h5, h6, hii, ha, hrd, stc5, ldc5, hc, e4]
      exact upto_succ hp hk
    | false =>
      rw [hk] at hc
      simp [b163_1, h7, h0, h5, h6, hii, ha, hrd, stc5, ldc5, hc, okSts, allN_false (p := fun i => okSt (at0 l i) i) hi hk]
  · rintro e h7 ⟨h0, h5, h6, hp⟩
    have e1 : decide ((l.length : Int) ≤ 40) = decide (l.length ≤ 40) := by apply decide_eq_decide.2; omega
    simp [b163_1, h7, h0, h6, h.lenV, okSts, allN_true (p := fun i => okSt (at0 l i) i) hp, e1]
theorem okSt_a {s : Sted} {i : Nat} (h : okSt s i = true) : 0 ≤ s.a ∧ s.a ≤ 2 := by
  simp only [okSt, kindB, Bool.and_eq_true] at h
  obtain ⟨_, h⟩ := h
  by_cases h0 : (s.a == 0) = true
  · simp at h0; omega
  · rw [if_neg h0] at h
    by_cases h1 : (s.a == 1) = true
    · simp at h1; omega
    · rw [if_neg h1] at h
      by_cases h2 : (s.a == 2) = true
      · simp at h2; omega
      · rw [if_neg h2] at h; cases h
theorem okSt_b {s : Sted} {i : Nat} (h : okSt s i = true) (ha : s.a ≠ 0) : 0 ≤ s.b ∧ s.b < i := by
  simp only [okSt, kindB, Bool.and_eq_true] at h
  obtain ⟨_, h⟩ := h
  rw [if_neg (by simpa using ha)] at h
  by_cases h1 : (s.a == 1) = true
  · rw [if_pos h1] at h; simp [in1] at h; omega
  · rw [if_neg h1] at h
    by_cases h2 : (s.a == 2) = true
    · rw [if_pos h2] at h; simp [in1] at h; omega
    · rw [if_neg h2] at h; cases h
theorem okSts_get {l : List Sted} (h : okSts l = true) {i : Nat} (hi : i < l.length) : okSt (at0 l i) i = true := by
  simp only [okSts, Bool.and_eq_true] at h
  exact allN_get (p := fun i => okSt (at0 l i) i) h.1 hi
theorem okSts_len {l : List Sted} (h : okSts l = true) : l.length ≤ 40 := by
  simp only [okSts, Bool.and_eq_true, decide_eq_true_eq] at h
  exact h.2
def stCost (s : Sted) : Int := costV s.a s.rows.length
theorem stCost_ok {s : Sted} (h : 0 ≤ s.a ∧ s.a ≤ 2) (hn : s.rows.length ≤ 1000000) : 0 ≤ stCost s ∧ stCost s ≤ 3000004 := by
  have := how_ok h
  unfold stCost costV; omega
theorem cost312 {pu : Bool} {H : Heap} {y : Value} {s : Sted} (h : Rw H y s) (ha : 0 ≤ s.a ∧ s.a ≤ 2) (hn : s.rows.length ≤ 1000000) : Call tab pu 312 [agg [.int .i8 s.a, .int .i8 s.b, .int .i8 s.c, .int .i8 s.d, y]] H = some (.int .i64 (stCost s), H) := by
  refine Call_wp t312 (.inr rfl) rfl ?_
  have hh := how_ok ha
  have e1 : 3 * (s.rows.length : Int) + howC s.a = stCost s := Int.add_comm _ _
  simp (disch := omega) [c312, k312, fill, splice, stc3, ldc5a, ldc5e, call490 (SlR.lenV h), at3 ha, ldc3 ha, e1]
theorem cost310 {pu : Bool} {H : Heap} {q off ver : Nat} {y : Value} {s : Sted} (hr : rd H q off ver 5 = some (stC s y)) (h : Rw H y s) (ha : 0 ≤ s.a ∧ s.a ≤ 2) (hn : s.rows.length ≤ 1000000) : Call tab pu 310 [adr q off ver] H = some (.int .i64 (stCost s), H) := by
  refine Call_wp t310 (.inr rfl) rfl ?_
  have hh := how_ok ha
  have d0 := rd_part hr (o := 0) (m := 1) (by omega)
  have d4 := rd_part hr (o := 4) (m := 1) (by omega)
  simp [stC] at d0 d4
  have e1 : howC s.a + 3 * (s.rows.length : Int) = stCost s := rfl
  simp (disch := omega) [c310, k310, fill, splice, stc3, d0, d4, SlR.lenV h, at3 ha, ldc3 ha, e1]
structure StsC (l : List Sted) : Prop where
  n : l.length ≤ 1000000
  a : ∀ i, i < l.length → 0 ≤ (at0 l i).a ∧ (at0 l i).a ≤ 2
  r : ∀ s ∈ l, s.rows.length ≤ 1000000
theorem StsC.of {l : List Sted} (hw : StsW l) (hk : okSts l = true) : StsC l := ⟨hw.n, fun i hi => okSt_a (okSts_get hk hi), hw.r⟩
/- Seeking. -/
/-- The page after so many steps back. -/
def seekP (l : List Sted) (p k : Nat) : Nat := itN (fun _ p => (at0 l p).b.toNat) p k
def seekS (l : List Sted) (p k : Nat) : Int := itN (fun k v => v + stCost (at0 l (seekP l p (k + 1)))) (stCost (at0 l p)) k
theorem seekP_zero {l : List Sted} {p : Nat} : seekP l p 0 = p := itN_zero
theorem seekP_succ {l : List Sted} {p k : Nat} : seekP l p (k + 1) = (at0 l (seekP l p k)).b.toNat := itN_succ
theorem seekS_zero {l : List Sted} {p : Nat} : seekS l p 0 = stCost (at0 l p) := itN_zero
theorem seekS_succ {l : List Sted} {p k : Nat} : seekS l p (k + 1) = seekS l p k + stCost (at0 l (seekP l p (k + 1))) := itN_succ
def seekE (l : List Sted) (p k : Nat) : Bool := (at0 l (seekP l p k)).a == 0
def seekV (l : List Sted) (p : Nat) : Int := seekS l p (findN (seekE l p) (l.length + 1)).toNat
def askC (l : List Sted) (p : Int) : Int := if okSts l = true then if 0 ≤ p ∧ p < l.length then 0 else 2 else 1
theorem call398 {pu : Bool} {H : Heap} {x : Value} {l : List Sted} {p : Int} (h : StS H x l) (hw : StsW l) : Call tab pu 398 [x, .int .i64 p] H = some (.int .i64 (askC l p), H) := by
  refine Call_wp t398 (.inr rfl) rfl ?_
  have hn := hw.n
  have e1 : IntKind.wrap .i64 ((l.length : Int) - 1) = (l.length : Int) - 1 := wrap64 (by omega)
  cases hk : okSts l with
  | false => simp [c398, k398, call386 h hw, hk, askC]
  | true =>
    cases hp : in1 p 0 ((l.length : Int) - 1) with
    | false =>
      have : ¬ (0 ≤ p ∧ p < l.length) := by simp [in1] at hp; omega
      simp [c398, k398, call386 h hw, hk, h.lenV, e1, in304, hp, askC, this]
    | true =>
      have : 0 ≤ p ∧ p < l.length := by simp [in1] at hp; omega
      simp [c398, k398, call386 h hw, hk, h.lenV, e1, in304, hp, askC, this]
theorem call531 {pu : Bool} {H : Heap} {x : Value} {n : Nat} (h : lenV x = some (.int .i64 n)) : Call tab pu 531 [x] H = some (.int .i64 n, H) := by
  refine Call_wp t531 (.inr rfl) rfl ?_
  simp [c531, k531, h]
theorem call399 {pu : Bool} {H : Heap} {x : Value} {l : List Sted} {p : Int} (h : StS H x l) (hw : StsW l) : Call tab pu 399 [x, .int .i64 p] H = some (.int .i64 (askC l p), H) := by
  refine Call_wp t399 (.inr rfl) rfl ?_
  have hn := hw.n
  have e1 : IntKind.wrap .i64 ((l.length : Int) - 1) = (l.length : Int) - 1 := wrap64 (by omega)
  cases hk : okSts l with
  | false => simp [c399, k399, call163 h hw, hk, askC]
  | true =>
    cases hp : in1 p 0 ((l.length : Int) - 1) with
    | false =>
      have : ¬ (0 ≤ p ∧ p < l.length) := by simp [in1] at hp; omega
      simp [c399, k399, call163 h hw, hk, call531 h.lenV, e1, in295, hp, askC, this]
    | true =>
      have : 0 ≤ p ∧ p < l.length := by simp [in1] at hp; omega
      simp [c399, k399, call163 h hw, hk, call531 h.lenV, e1, in295, hp, askC, this]
theorem seek_step {l : List Sted} (hk : okSts l = true) {p k : Nat} (hp : seekP l p k < l.length) (he : seekE l p k = false) : seekP l p (k + 1) < seekP l p k ∧ (at0 l (seekP l p k)).b = (seekP l p (k + 1) : Int) := by
  have h1 : (at0 l (seekP l p k)).a ≠ 0 := by simpa [seekE] using he
  have h2 := okSt_b (okSts_get hk hp) h1
  rw [seekP_succ]; omega
theorem seekS_ok {l : List Sted} (hk : okSts l = true) (hw : StsW l) {p k : Nat} (h : ∀ j, j ≤ k → seekP l p j < l.length) : 0 ≤ seekS l p k ∧ seekS l p k ≤ 3000004 * ((k : Int) + 1) := by
  induction k with
  | zero =>
    have h0 := h 0 (by omega)
    rw [seekP_zero] at h0
    have := stCost_ok (okSt_a (okSts_get hk h0)) (hw.r _ (at0_mem h0))
    rw [seekS_zero]; omega
  | succ k ih =>
    have h1 := ih fun j hj => h j (by omega)
    have h2 := h (k + 1) (by omega)
    have := stCost_ok (okSt_a (okSts_get hk h2)) (hw.r _ (at0_mem h2))
    rw [seekS_succ]; omega
def seekR (l : List Sted) (p : Int) : Value := if askC l p = 0 then tup [.int .i64 (seekV l p.toNat), .int .i64 0] else tup [.int .i64 0, .int .i64 (askC l p)]
theorem askC_zero {l : List Sted} {p : Int} (h : askC l p = 0) : okSts l = true ∧ 0 ≤ p ∧ p < l.length := by
  unfold askC at h
  split at h
  · rename_i h1
    split at h
    · rename_i h2; exact ⟨h1, h2⟩
    · omega
  · omega
theorem call176 {pu : Bool} {H : Heap} {x : Value} {l : List Sted} {p : Int} (h : StS H x l) (hw : StsW l) : Call tab pu 176 [x, .int .i64 p] H = some (seekR l p, H) := by
  refine Call_wp t176 (.inr rfl) rfl ?_
  have hc := call398 (pu := true) (p := p) h hw
  by_cases h0 : askC l p = 0
  · obtain ⟨hk, hp0, hpl⟩ := askC_zero h0
    obtain ⟨m, rfl⟩ := Int.eq_ofNat_of_zero_le hp0
    have hm : m < l.length := by omega
    have hn := hw.n
    obtain ⟨q, off, ver, y, ha, hrd, hrw⟩ := h.get hm
    have hc1 := cost310 (pu := true) hrd hrw (okSt_a (okSts_get hk hm)) (hw.r _ (at0_mem hm))
    simp [c176, k176, hc, h0, ha, hc1]
    have hin0 : ∀ j, j ≤ 0 → seekP l m j < l.length := by
      intro j hj
      obtain rfl : j = 0 := by omega
      rw [seekP_zero]; exact hm
    have hle0 : seekP l m 0 + 0 ≤ m := by rw [seekP_zero]; omega
    have hne0 : ∀ j, j < 0 → seekE l m j = false := by intro j hj; omega
    refine WK_loop (fun k e G => G = H ∧ e 0 = x ∧ e 1 = .int .i64 (seekP l m k) ∧ e 7 = .int .i64 (seekS l m k) ∧ (∀ j, j ≤ k → seekP l m j < l.length) ∧ seekP l m k + k ≤ m ∧ ∀ j, j < k → seekE l m j = false) l.length ?_ (Nat.zero_le _) ⟨rfl, by simp, by simp [seekP_zero], by simp [seekS_zero], hin0, hle0, hne0⟩
    rintro k e G _ hkl ⟨hG, h0e, h1, h7, hin, hle, hne⟩
    obtain rfl := hG.symm
    have hpk := hin k (Nat.le_refl _)
    obtain ⟨q, off, ver, y, ha, hrd, hrw⟩ := h.get hpk
    have d0 := rd_part hrd (o := 0) (m := 1) (by omega)
    have d1 := rd_part hrd (o := 1) (m := 1) (by omega)
    simp [stC] at d0 d1
    cases he : seekE l m k with
    | true =>
      have hf : findN (seekE l m) (l.length + 1) = (k : Int) := findN_some (by omega) hne he
      have ha0 : ((at0 l (seekP l m k)).a == 0) = true := he
      have ha1 : ((at0 l (seekP l m k)).a != 0) = false := by rw [bne, ha0]; rfl
      simp [b176_1, h0e, h1, h7, ha, d0, ha1, seekR, h0, seekV, hf]
    | false =>
      have ha0 : ((at0 l (seekP l m k)).a == 0) = false := he
      have ha1 : ((at0 l (seekP l m k)).a != 0) = true := by rw [bne, ha0]; rfl
      obtain ⟨hlt, hb⟩ := seek_step hk hpk he
      have hpk1 : seekP l m (k + 1) < l.length := by omega
      obtain ⟨q', off', ver', y', ha', hrd', hrw'⟩ := h.get hpk1
      have ha2 := okSt_a (okSts_get hk hpk1)
      have hr2 := hw.r _ (at0_mem hpk1)
      have hc2 := cost310 (pu := true) hrd' hrw' ha2 hr2
      have e1 : IntKind.wrap .i64 (seekP l m (k + 1) : Int) = (seekP l m (k + 1) : Int) := wrap64 (by omega)
      have b1 := seekS_ok hk hw hin
      have b2 := stCost_ok ha2 hr2
      rw [hb] at d1
      simp (disch := omega) [b176_1, h0e, h1, h7, ha, d0, d1, ha1, e1, ha', hc2, seekS_succ]
      refine ⟨by omega, fun j hj => ?_, by omega, upto_succ hne he⟩
      rcases Nat.lt_or_ge j (k + 1) with h5 | h5
      · exact hin j (by omega)
      · obtain rfl : j = k + 1 := by omega
        exact hpk1
  · have h1 : (askC l p != 0) = true := by simpa using h0
    simp [c176, k176, hc, h1, seekR, h0]
theorem idxAV_k {esz : Nat} {x : Value} {k k' : IntKind} {i : Int} : idxAV esz x (.int k i) = idxAV esz x (.int k' i) := rfl
theorem call177 {pu : Bool} {H : Heap} {x : Value} {l : List Sted} {p : Int} (h : StS H x l) (hw : StsW l) : Call tab pu 177 [x, .int .i64 p] H = some (seekR l p, H) := by
  refine Call_wp t177 (.inr rfl) rfl ?_
  have hc := call399 (pu := true) (p := p) h hw
  by_cases h0 : askC l p = 0
  · obtain ⟨hk, hp0, hpl⟩ := askC_zero h0
    obtain ⟨m, rfl⟩ := Int.eq_ofNat_of_zero_le hp0
    have hm : m < l.length := by omega
    have hn := hw.n
    obtain ⟨q, off, ver, y, ha, hrd, hrw⟩ := h.get hm
    have hrd' := hrd
    simp only [stC] at hrd'
    simp [c177, k177, hc, h0, ha, hrd', stc5]
    have hin0 : ∀ j, j ≤ 0 → seekP l m j < l.length := by
      intro j hj
      obtain rfl : j = 0 := by omega
      rw [seekP_zero]; exact hm
    have hle0 : seekP l m 0 + 0 ≤ m := by rw [seekP_zero]; omega
    have hne0 : ∀ j, j < 0 → seekE l m j = false := by intro j hj; omega
    refine WK_loop (fun k e G => G = H ∧ e 0 = x ∧ e 7 = .int .i64 (seekS l m k - stCost (at0 l (seekP l m k))) ∧ (∃ y, Rw H y (at0 l (seekP l m k)) ∧ e 8 = agg [.int .i8 (at0 l (seekP l m k)).a, .int .i8 (at0 l (seekP l m k)).b, .int .i8 (at0 l (seekP l m k)).c, .int .i8 (at0 l (seekP l m k)).d, y]) ∧ (∀ j, j ≤ k → seekP l m j < l.length) ∧ seekP l m k + k ≤ m ∧ ∀ j, j < k → seekE l m j = false) l.length ?_ (Nat.zero_le _) ⟨rfl, by simp, by simp [seekP_zero, seekS_zero], ⟨y, by rw [seekP_zero]; exact hrw, by simp [seekP_zero]⟩, hin0, hle0, hne0⟩
    rintro k e G _ hkl ⟨hG, h0e, h7, ⟨y, hrw, h8⟩, hin, hle, hne⟩
    obtain rfl := hG.symm
    have hpk := hin k (Nat.le_refl _)
    have ha1 := okSt_a (okSts_get hk hpk)
    have hr1 := hw.r _ (at0_mem hpk)
    have hc1 := cost312 (pu := true) hrw ha1 hr1
    have b1 := seekS_ok hk hw hin
    have b2 := stCost_ok ha1 hr1
    have e2 : seekS l m k - stCost (at0 l (seekP l m k)) + stCost (at0 l (seekP l m k)) = seekS l m k := by omega
    cases he : seekE l m k with
    | true =>
      have hf : findN (seekE l m) (l.length + 1) = (k : Int) := findN_some (by omega) hne he
      have ha0 : ((at0 l (seekP l m k)).a == 0) = true := he
      have ha1 : ((at0 l (seekP l m k)).a != 0) = false := by rw [bne, ha0]; rfl
      simp (disch := omega) [b177_1, h0e, h7, h8, ldc5a, ldc5, hc1, ha1, seekR, h0, seekV, hf, e2]
    | false =>
      have ha0 : ((at0 l (seekP l m k)).a == 0) = false := he
      have ha1 : ((at0 l (seekP l m k)).a != 0) = true := by rw [bne, ha0]; rfl
      obtain ⟨hlt, hb⟩ := seek_step hk hpk he
      have hpk1 : seekP l m (k + 1) < l.length := by omega
      obtain ⟨q', off', ver', y', ha', hrd', hrw'⟩ := h.get hpk1
      have e1 : IntKind.wrap .i64 (seekP l m (k + 1) : Int) = (seekP l m (k + 1) : Int) := wrap64 (by omega)
      have hrd2 := hrd'
      rw [hb] at hc1
      rw [idxAV_k (k' := .i8)] at ha'
      simp only [stC] at hrd2
      have e3 : seekS l m k + stCost (at0 l (seekP l m (k + 1))) - stCost (at0 l (seekP l m (k + 1))) = seekS l m k := by omega
      simp (disch := omega) [b177_1, h0e, h7, h8, ldc5a, ldc5b, ldc5, hc1, ha1, hb, e1, e2, ha', hrd2, stc5, seekS_succ, e3]
      refine ⟨by omega, ⟨y', hrw', rfl⟩, fun j hj => ?_, by omega, upto_succ hne he⟩
      rcases Nat.lt_or_ge j (k + 1) with h5 | h5
      · exact hin j (by omega)
      · obtain rfl : j = k + 1 := by omega
        exact hpk1
  · have h1 : (askC l p != 0) = true := by simpa using h0
    simp [c177, k177, hc, h1, seekR, h0]
def rowE (s t : Sted) (j : Nat) : Bool := decide (rw' s j = rw' t j)
def rowsE (s t : Sted) : Bool := ((s.rows.length : Int) == t.rows.length) && allN (rowE s t) s.rows.length
def sameSt (s t : Sted) : Bool := (s.a == t.a) && (s.b == t.b) && (s.c == t.c) && (s.d == t.d) && rowsE s t
def sameSts (l m : List Sted) : Bool := ((l.length : Int) == m.length) && allN (fun i => sameSt (at0 l i) (at0 m i)) l.length
theorem bne_T {a b : Int} (h : (a == b) = false) : (a != b) = true := by rw [bne, h]; rfl
theorem bne_F {a b : Int} (h : (a == b) = true) : (a != b) = false := by rw [bne, h]; rfl
theorem eqV_ch {a b c d : Int} : eqV (.a (rb 1 (some .i8) ++ rb 1 (some .u16))) (agg [.int .i8 a, .int .u16 b]) (agg [.int .i8 c, .int .u16 d]) = some (decide ((a, b) = (c, d))) := by
  show (if (#[Value.int .i8 a, .int .u16 b]).size = (rb 1 (some IntKind.i8) ++ rb 1 (some IntKind.u16)).length ∧ (#[Value.int .i8 c, .int .u16 d]).size = (rb 1 (some IntKind.i8) ++ rb 1 (some IntKind.u16)).length then eqCells (rb 1 (some .i8) ++ rb 1 (some .u16)) [.int .i8 a, .int .u16 b] [.int .i8 c, .int .u16 d] else none) = _
  rw [if_pos ⟨rfl, rfl⟩]
  simp only [rb, List.replicate, List.cons_append, List.nil_append, eqCells, and_self, if_true]
  by_cases h : a = c
  · by_cases h' : b = d
    · simp [h, h']
    · simp [h, h']
  · simp [h]
theorem call385 {pu : Bool} {H : Heap} {x y : Value} {s t : Sted} (hx : Rw H x s) (hy : Rw H y t) (hn : s.rows.length ≤ 1000000) : Call tab pu 385 [x, y] H = some (.bool (rowsE s t), H) := by
  refine Call_wp t385 (.inr rfl) rfl ?_
  by_cases hl : (s.rows.length : Int) = t.rows.length
  · have hl' : s.rows.length = t.rows.length := by omega
    have hlb : (((s.rows.length : Int)) != t.rows.length) = false := by simp [hl]
    have hle : (((s.rows.length : Int)) == t.rows.length) = true := by simp [hl]
    simp [c385, k385, SlR.lenV hx, SlR.lenV hy, hlb]
    refine WP_forH 13 s.rows.length _ rfl (by omega) (fun i e => e 0 = x ∧ e 1 = y ∧ e 12 = .int .i64 s.rows.length ∧ ∀ j, j < i → rowE s t j = true) ?_ ?_ (by simp) ⟨by simp, by simp, by simp, fun j hj => by omega⟩
    · rintro i e hi hii e4 h13 ⟨h0, h1, h12, hj⟩
      obtain ⟨q, off, ver, ha, hrd, _⟩ := Rw.at hx hi
      obtain ⟨q', off', ver', ha', hrd', _⟩ := Rw.at hy (j := i) (by omega)
      cases hr : rowE s t i with
      | true =>
        have hr' : (rw' s i).1 = (rw' t i).1 ∧ (rw' s i).2 = (rw' t i).2 := by simpa [rowE, Prod.ext_iff] using hr
        simp [b385_1, h13, h0, h1, h12, hii, ha, hrd, ha', hrd', eqV_ch, hr'.1, hr'.2, e4]
        exact upto_succ hj hr
      | false =>
        have hr' : ¬ ((rw' s i).1 = (rw' t i).1 ∧ (rw' s i).2 = (rw' t i).2) := by simpa [rowE, Prod.ext_iff] using hr
        have : allN (rowE s t) s.rows.length = false := allN_false hi hr
        simp [b385_1, h13, h0, h1, h12, hii, ha, hrd, ha', hrd', eqV_ch, hr', rowsE, hle, this]
    · rintro e h13 ⟨h0, h1, h12, hj⟩
      have : allN (rowE s t) s.rows.length = true := allN_true hj
      simp [b385_1, h13, h12, rowsE, hle, this]
  · have hle : (((s.rows.length : Int)) == t.rows.length) = false := by simpa using hl
    simp [c385, k385, SlR.lenV hx, SlR.lenV hy, bne_T hle, rowsE, hle]
theorem call381 {pu : Bool} {H : Heap} {q off ver q' off' ver' : Nat} {x y : Value} {s t : Sted} (hd : rd H q off ver 5 = some (stC s x)) (hd' : rd H q' off' ver' 5 = some (stC t y)) (hx : Rw H x s) (hy : Rw H y t) (hn : s.rows.length ≤ 1000000) :
    Call tab pu 381 [adr q off ver, adr q' off' ver'] H = some (.bool (sameSt s t), H) := by
  refine Call_wp t381 (.inr rfl) rfl ?_
  have d0 := rd_part hd (o := 0) (m := 1) (by omega)
  have d1 := rd_part hd (o := 1) (m := 1) (by omega)
  have d2 := rd_part hd (o := 2) (m := 1) (by omega)
  have d3 := rd_part hd (o := 3) (m := 1) (by omega)
  have d4 := rd_part hd (o := 4) (m := 1) (by omega)
  have g0 := rd_part hd' (o := 0) (m := 1) (by omega)
  have g1 := rd_part hd' (o := 1) (m := 1) (by omega)
  have g2 := rd_part hd' (o := 2) (m := 1) (by omega)
  have g3 := rd_part hd' (o := 3) (m := 1) (by omega)
  have g4 := rd_part hd' (o := 4) (m := 1) (by omega)
  simp [stC] at d0 d1 d2 d3 d4 g0 g1 g2 g3 g4
  cases ha : (s.a == t.a)
  · simp [c381, k381, d0, d1, d2, d3, d4, g0, g1, g2, g3, g4, bne_T ha, ha, sameSt, skip]
  cases hb : (s.b == t.b)
  · simp [c381, k381, d0, d1, d2, d3, d4, g0, g1, g2, g3, g4, bne_F ha, bne_T hb, ha, hb, sameSt, skip]
  cases hc : (s.c == t.c)
  · simp [c381, k381, d0, d1, d2, d3, d4, g0, g1, g2, g3, g4, bne_F ha, bne_F hb, bne_T hc, ha, hb, hc, sameSt, skip]
  cases hdd : (s.d == t.d)
  · simp [c381, k381, d0, d1, d2, d3, d4, g0, g1, g2, g3, g4, bne_F ha, bne_F hb, bne_F hc, bne_T hdd, ha, hb, hc, hdd, sameSt, skip]
  cases hl : ((s.rows.length : Int) == t.rows.length)
  · simp [c381, k381, d0, d1, d2, d3, d4, g0, g1, g2, g3, g4, bne_F ha, bne_F hb, bne_F hc, bne_F hdd, SlR.lenV hx, SlR.lenV hy, bne_T hl, ha, hb, hc, hdd, hl, sameSt, rowsE, skip]
  simp [c381, k381, d0, d1, d2, d3, d4, g0, g1, g2, g3, g4, bne_F ha, bne_F hb, bne_F hc, bne_F hdd, SlR.lenV hx, SlR.lenV hy, bne_F hl]
  have hl' : s.rows.length = t.rows.length := by have := eq_of_beq hl; omega
  have hst : sameSt s t = allN (rowE s t) s.rows.length := by simp [sameSt, rowsE, ha, hb, hc, hdd, hl]
  refine WP_forH 5 s.rows.length _ rfl (by omega) (fun i e => e 0 = adr q off ver ∧ e 1 = adr q' off' ver' ∧ ∀ j, j < i → rowE s t j = true) ?_ ?_ (by simp) ⟨by simp, by simp, fun j hj => by omega⟩
  · rintro i e hi hii e4 h5 ⟨h0, h1, hj⟩
    obtain ⟨q1, off1, ver1, ha1, hrd1, _⟩ := Rw.at hx hi
    obtain ⟨q2, off2, ver2, ha2, hrd2, _⟩ := Rw.at hy (j := i) (by omega)
    cases hr : rowE s t i with
    | true =>
      have hr' : (rw' s i).1 = (rw' t i).1 ∧ (rw' s i).2 = (rw' t i).2 := by simpa [rowE, Prod.ext_iff] using hr
      simp [b381_1, h5, h0, h1, hii, d4, g4, SlR.lenV hx, ha1, hrd1, ha2, hrd2, eqV_ch, hr'.1, hr'.2, e4]
      exact upto_succ hj hr
    | false =>
      have hr' : ¬ ((rw' s i).1 = (rw' t i).1 ∧ (rw' s i).2 = (rw' t i).2) := by simpa [rowE, Prod.ext_iff] using hr
      have : allN (rowE s t) s.rows.length = false := allN_false (i := i) (by omega) hr
      simp [b381_1, h5, h0, h1, hii, d4, g4, SlR.lenV hx, ha1, hrd1, ha2, hrd2, eqV_ch, hr', hst, this]
  · rintro e h5 ⟨h0, h1, hj⟩
    have : allN (rowE s t) s.rows.length = true := allN_true fun i hi => hj i (by omega)
    simp [b381_1, h5, h0, d4, SlR.lenV hx, hst, this]
theorem call384 {pu : Bool} {H : Heap} {x y : Value} {s t : Sted} (hx : Rw H x s) (hy : Rw H y t) (hn : s.rows.length ≤ 1000000) : Call tab pu 384 [agg (stC s x), agg (stC t y)] H = some (.bool (sameSt s t), H) := by
  refine Call_wp t384 (.inr rfl) rfl ?_
  have hc := call385 (pu := true) hx hy hn
  cases ha : (s.a == t.a)
  · simp [c384, k384, stC, ldc5a, ldc5b, ldc5c, ldc5d, ldc5e, ha, sameSt, skip]
  cases hb : (s.b == t.b)
  · simp [c384, k384, stC, ldc5a, ldc5b, ldc5c, ldc5d, ldc5e, ha, hb, sameSt, skip]
  cases hcc : (s.c == t.c)
  · simp [c384, k384, stC, ldc5a, ldc5b, ldc5c, ldc5d, ldc5e, ha, hb, hcc, sameSt, skip]
  cases hdd : (s.d == t.d)
  · simp [c384, k384, stC, ldc5a, ldc5b, ldc5c, ldc5d, ldc5e, ha, hb, hcc, hdd, sameSt, skip]
  simp [c384, k384, stC, ldc5a, ldc5b, ldc5c, ldc5d, ldc5e, ha, hb, hcc, hdd, hc, sameSt, skip]
theorem call158 {pu : Bool} {H : Heap} {x y : Value} {l m : List Sted} (hx : StS H x l) (hy : StS H y m) (hn : l.length ≤ 1000000) (hr : ∀ s ∈ l, s.rows.length ≤ 1000000) : Call tab pu 158 [x, y] H = some (.bool (sameSts l m), H) := by
  refine Call_wp t158 (.inr rfl) rfl ?_
  by_cases hl : l.length = m.length
  · have hle : (((l.length : Int)) == m.length) = true := by simp [hl]
    simp [c158, k158, hx.lenV, hy.lenV, bne_F hle]
    have hst : sameSts l m = allN (fun i => sameSt (at0 l i) (at0 m i)) l.length := by simp [sameSts, hle]
    refine WP_forH 5 l.length _ rfl (by omega) (fun i e => e 0 = x ∧ e 1 = y ∧ ∀ j, j < i → sameSt (at0 l j) (at0 m j) = true) ?_ ?_ (by simp) ⟨by simp, by simp, fun j hj => by omega⟩
    · rintro i e hi hii e4 h5 ⟨h0, h1, hj⟩
      obtain ⟨q, off, ver, u, ha, hrd, hrw⟩ := hx.get hi
      obtain ⟨q', off', ver', u', ha', hrd', hrw'⟩ := hy.get (i := i) (by omega)
      have hc := call381 (pu := true) hrd hrd' hrw hrw' (hr _ (at0_mem hi))
      cases hq : sameSt (at0 l i) (at0 m i) with
      | true =>
        rw [hq] at hc
        simp [b158_1, h5, h0, h1, hii, hx.lenV, ha, ha', hc, e4]
        exact upto_succ hj hq
      | false =>
        rw [hq] at hc
        have : allN (fun i => sameSt (at0 l i) (at0 m i)) l.length = false := allN_false hi hq
        simp [b158_1, h5, h0, h1, hii, hx.lenV, ha, ha', hc, hst, this]
    · rintro e h5 ⟨h0, h1, hj⟩
      have : allN (fun i => sameSt (at0 l i) (at0 m i)) l.length = true := allN_true hj
      simp [b158_1, h5, h0, hx.lenV, hst, this]
  · have hle : (((l.length : Int)) == m.length) = false := beq_false_of_ne fun h => hl (by omega)
    simp [c158, k158, hx.lenV, hy.lenV, bne_T hle, hle, sameSts]
theorem call383 {pu : Bool} {H : Heap} {x y : Value} {l m : List Sted} (hx : StS H x l) (hy : StS H y m) (hn : l.length ≤ 1000000) (hr : ∀ s ∈ l, s.rows.length ≤ 1000000) : Call tab pu 383 [x, y, .func (.func 384) #[] #[]] H = some (.bool (sameSts l m), H) := by
  refine Call_wp t383 (.inr rfl) rfl ?_
  by_cases hl : l.length = m.length
  · have hle : (((l.length : Int)) == m.length) = true := by simp [hl]
    simp [c383, k383, hx.lenV, hy.lenV, bne_F hle]
    have hst : sameSts l m = allN (fun i => sameSt (at0 l i) (at0 m i)) l.length := by simp [sameSts, hle]
    refine WP_forH 17 l.length _ rfl (by omega) (fun i e => e 15 = x ∧ e 1 = y ∧ e 2 = .func (.func 384) #[] #[] ∧ e 16 = .int .i64 l.length ∧ ∀ j, j < i → sameSt (at0 l j) (at0 m j) = true) ?_ ?_ (by simp) ⟨by simp, by simp, by simp, by simp, fun j hj => by omega⟩
    · rintro i e hi hii e4 h17 ⟨h15, h1, h2, h16, hj⟩
      obtain ⟨q, off, ver, u, ha, hrd, hrw⟩ := hx.get hi
      obtain ⟨q', off', ver', u', ha', hrd', hrw'⟩ := hy.get (i := i) (by omega)
      have hc := call384 (pu := true) hrw hrw' (hr _ (at0_mem hi))
      simp only [stC] at hrd hrd' hc
      cases hq : sameSt (at0 l i) (at0 m i) with
      | true =>
        rw [hq] at hc
        simp [b383_1, h17, h15, h1, h2, h16, hii, ha, ha', hrd, hrd', stc5, ldc5, hc, e4]
        exact upto_succ hj hq
      | false =>
        rw [hq] at hc
        have : allN (fun i => sameSt (at0 l i) (at0 m i)) l.length = false := allN_false hi hq
        simp [b383_1, h17, h15, h1, h2, h16, hii, ha, ha', hrd, hrd', stc5, ldc5, hc, hst, this]
    · rintro e h17 ⟨h15, h1, h2, h16, hj⟩
      have : allN (fun i => sameSt (at0 l i) (at0 m i)) l.length = true := allN_true hj
      simp [b383_1, h17, h16, hst, this]
  · have hle : (((l.length : Int)) == m.length) = false := beq_false_of_ne fun h => hl (by omega)
    simp [c383, k383, hx.lenV, hy.lenV, bne_T hle, hle, sameSts]
theorem call160 {pu : Bool} {H : Heap} {x y : Value} {l m : List Sted} (hx : StS H x l) (hy : StS H y m) (hn : l.length ≤ 1000000) (hr : ∀ s ∈ l, s.rows.length ≤ 1000000) : Call tab pu 160 [x, y] H = some (.bool (sameSts l m), H) := by
  refine Call_wp t160 (.inr rfl) rfl ?_
  simp [c160, k160, call383 hx hy hn hr]
def ms2 (c : Int) (i : Nat) : Value := if i % 2 = 0 then .int .i8 (IntKind.wrap .i8 (c + i)) else .int .u16 (IntKind.wrap .u16 (c + i))
/-- A copy of steps while marks are being written over it. -/
structure MkI (G G' : Heap) (b ver lo hi n : Nat) (y : Nat → Value) (m : Nat → Nat) : Prop where
  len : G'.length = G.length
  fr : ∀ j, j < lo ∨ hi ≤ j → G'[j]? = G[j]?
  inb : lo ≤ b ∧ b < hi
  out : ∃ vs, G'[b]? = some ⟨vs, 5, ver, false⟩ ∧ n * 5 ≤ vs.length ∧ ∀ i, i < n → vs[i * 5 + 4]? = some (y i)
  row : ∀ i, i < n → ∃ b' ver' cap' ws, y i = slc b' 0 ver' (m i) cap' ∧ lo ≤ b' ∧ b' < hi ∧ b' ≠ b ∧ G'[b']? = some ⟨ws, 2, ver', false⟩ ∧ m i * 2 ≤ ws.length
theorem MkI.rows {G G' : Heap} {b ver lo hi n : Nat} {y : Nat → Value} {m : Nat → Nat} (h : MkI G G' b ver lo hi n y m) {b' ver' : Nat} {ws ws' : List Value} (hb : lo ≤ b' ∧ b' < hi) (hne : b' ≠ b) (hg : G'[b']? = some ⟨ws, 2, ver', false⟩) (hw : ws'.length = ws.length) :
    MkI G (G'.set b' ⟨ws', 2, ver', false⟩) b ver lo hi n y m := by
  refine ⟨by simp [h.len], fun j hj => ?_, h.inb, ?_, fun i hi => ?_⟩
  · rw [List.getElem?_set_ne (by omega)]
    exact h.fr j hj
  · obtain ⟨vs, h1, h2⟩ := h.out
    exact ⟨vs, by rw [List.getElem?_set_ne hne]; exact h1, h2⟩
  · obtain ⟨b2, ver2, cap2, ws2, h1, h2, h3, h4, h5, h6⟩ := h.row i hi
    by_cases hb2 : b' = b2
    · subst hb2
      rw [hg] at h5
      cases h5
      exact ⟨b', ver', cap2, ws', h1, h2, h3, h4, get_set hg, by rw [hw]; exact h6⟩
    · exact ⟨b2, ver2, cap2, ws2, h1, h2, h3, h4, by rw [List.getElem?_set_ne hb2]; exact h5, h6⟩
def mkS (m : Nat → Nat) (i : Nat) : Nat := itN (fun i v => v + 4 + m i * 2) 0 i
theorem Own.agree {G G' : Heap} {r : Value} {β : Option Nat} {n0 esz n : Nat} {vs : List Value} (h : Own G r β n0 esz n vs) (hne : ∀ b, β = some b → G'[b]? = G[b]?) : Own G' r β n0 esz n vs := by
  obtain ⟨hl, h⟩ := h
  refine ⟨hl, ?_⟩
  cases β with
  | none => exact h
  | some b =>
    obtain ⟨hb, ver, cap, rest, rfl, hc, hg⟩ := h
    exact ⟨hb, ver, cap, rest, rfl, hc, by rw [hne b rfl]; exact hg⟩
/-- What a function makes of steps: a list of its own, and a code. -/
def RsT (f : Nat) (extra : List Value) (l : List Sted) (eszR nR : Nat) (vsR : List Value) (c : Int) : Prop := ∀ (G : Heap) (y : Value), StS G y l →
  ∃ r G' β, Call tab true f (y :: extra) G = some (tup [r, .int .i64 c], G') ∧ Pre G G' ∧ Own G' r β G.length eszR nR vsR
/- Lists of numbers. -/
theorem elem_i {l : List Int} {k : IntKind} {i : Nat} (h : i < l.length) : elem (cs k l) 1 i = [.int k (nth l i)] := by
  unfold elem; rw [Nat.mul_one]; exact cs_one h
def depV (s : Sted) (v : List Int) : Int := if s.a == 0 then 0 else nth v s.b.toNat + 1
def depC (l : List Sted) : Int := if okSts l = true then 0 else 1
theorem cs_push {k : IntKind} {l : List Int} {a : Int} : cs k l ++ [.int k a] = cs k (l ++ [a]) := by simp [cs]
theorem depB {l : List Sted} (hk : okSts l = true) {i : Nat} (hi : i < l.length) (ha : ((at0 l i).a == 0) = false) : ∃ m : Nat, (at0 l i).b = m ∧ m < i := by
  have hb := okSt_b (okSts_get hk hi) (by simpa using ha)
  exact ⟨(at0 l i).b.toNat, by omega, by omega⟩
theorem room8 {i : Nat} (h : i ≤ 1000000) : (i + 1) * 8 ≤ roomMax := by have : roomMax = 140737488355328 := rfl; omega
def memI (v : List Int) (a : Int) : Bool := decide (a ∈ v)
theorem memI_get {v : List Int} {a : Int} {j : Nat} (hj : j < v.length) (h : nth v j = a) : memI v a = true := by
  simp only [memI, decide_eq_true_eq]; exact h ▸ nth_mem hj
theorem memI_not {v : List Int} {a : Int} (h : ∀ j, j < v.length → nth v j ≠ a) : memI v a = false := by
  simp only [memI, decide_eq_false_iff_not]
  intro hm
  obtain ⟨j, hj, e⟩ := List.getElem_of_mem hm
  exact h j hj (nth_of (by rw [List.getElem?_eq_getElem hj, e]))
theorem upto_ne {p : Nat → Prop} {i : Nat} (h : ∀ j, j < i → p j) (hi : p i) : ∀ j, j < i + 1 → p j := fun j hj => by
  rcases Nat.lt_or_ge j i with h1 | h1
  · exact h j h1
  · obtain rfl : j = i := by omega
    exact hi
theorem call401 {pu : Bool} {G : Heap} {g : Value} {v : List Int} {a : Int} (h : SlR G g 1 v.length (cs .i64 v)) (hn : v.length ≤ 10000000) : Call tab pu 401 [g, .int .i64 a] G = some (.bool (memI v a), G) := by
  refine Call_wp t401 (.inr rfl) rfl ?_
  simp [c401, k401]
  refine WP_forH 5 v.length _ rfl (by omega) (fun i e => e 0 = g ∧ e 1 = .int .i64 a ∧ ∀ j, j < i → nth v j ≠ a) ?_ ?_ (by simp) ⟨by simp, by simp, fun j hj => by omega⟩
  · rintro i e hi hii e4 h5 ⟨h0, h1, hj⟩
    obtain ⟨q, off, ver, ha, hr⟩ := h.get1 hi
    rw [elem_i hi] at hr
    cases he : nth v i == a with
    | true =>
      have : memI v a = true := memI_get hi (eq_of_beq he)
      simp [b401_1, h5, h0, h1, hii, h.lenV, ha, hr, he, this]
    | false =>
      simp [b401_1, h5, h0, h1, hii, h.lenV, ha, hr, he, e4]
      exact upto_ne hj (by simpa using he)
  · rintro e h5 ⟨h0, h1, hj⟩
    have : memI v a = false := memI_not hj
    simp [b401_1, h5, h0, h.lenV, this]
theorem call532 {pu : Bool} {G : Heap} {g : Value} {v : List Int} {a : Int} (h : SlR G g 1 v.length (cs .i64 v)) (hn : v.length ≤ 10000000) : ∃ r, Call tab pu 532 [g, .int .i64 a] G = some r ∧ ∃ c, r = (.int .i64 c, G) ∧ decide (0 ≤ c) = memI v a := by
  refine Call_ex t532 (.inr rfl) rfl ?_
  simp [c532, k532, h.lenV]
  refine WP_forH 8 v.length _ rfl (by omega) (fun i e => e 0 = g ∧ e 1 = .int .i64 a ∧ e 7 = .int .i64 v.length ∧ ∀ j, j < i → nth v j ≠ a) ?_ ?_ (by simp) ⟨by simp, by simp, by simp, fun j hj => by omega⟩
  · rintro i e hi hii e4 h5 ⟨h0, h1, h7, hj⟩
    obtain ⟨q, off, ver, ha, hr⟩ := h.get1 hi
    rw [elem_i hi] at hr
    cases he : a == nth v i with
    | true =>
      have : memI v a = true := memI_get hi (eq_of_beq he).symm
      simp [b532_1, h5, h0, h1, h7, hii, ha, hr, he, this]
    | false =>
      simp [b532_1, h5, h0, h1, h7, hii, ha, hr, he, e4]
      exact upto_ne hj (fun h => by rw [h] at he; simp at he)
  · rintro e h5 ⟨h0, h1, h7, hj⟩
    have : memI v a = false := memI_not hj
    simp [b532_1, h5, h7, this]
theorem call402 {pu : Bool} {G : Heap} {g : Value} {v : List Int} {a : Int} (h : SlR G g 1 v.length (cs .i64 v)) (hn : v.length ≤ 10000000) : Call tab pu 402 [g, .int .i64 a] G = some (.bool (memI v a), G) := by
  refine Call_wp t402 (.inr rfl) rfl ?_
  obtain ⟨_, hc, c, rfl, hm⟩ := call532 (pu := true) (a := a) h hn
  simp [c402, k402, hc, hm]
def losB (s : Sted) (v : List Int) : Bool := s.a != 0 && memI v s.b
def losL (l : List Sted) (p k : Nat) : List Int := itN (fun k v => if losB (at0 l (p + 1 + k)) v = true then v ++ [((p + 1 + k : Nat) : Int)] else v) [(p : Int)] k
theorem losL_zero {l : List Sted} {p : Nat} : losL l p 0 = [(p : Int)] := itN_zero
theorem losL_succ {l : List Sted} {p k : Nat} : losL l p (k + 1) = if losB (at0 l (p + 1 + k)) (losL l p k) = true then losL l p k ++ [((p + 1 + k : Nat) : Int)] else losL l p k := itN_succ
theorem losL_len {l : List Sted} {p k : Nat} : (losL l p k).length ≤ k + 1 := by
  induction k with
  | zero => simp [losL_zero]
  | succ k ih =>
    rw [losL_succ]
    split
    · simp; omega
    · omega
def losR (l : List Sted) (p : Int) : List Int := if askC l p = 0 then losL l p.toNat (l.length - (p.toNat + 1)) else []
theorem losR_len {l : List Sted} {p : Int} (hw : l.length ≤ 1000000) : (losR l p).length ≤ 1000000 := by
  unfold losR; split
  · rename_i h
    obtain ⟨_, h1, h2⟩ := askC_zero h
    have := losL_len (l := l) (p := p.toNat) (k := l.length - (p.toNat + 1))
    omega
  · simp
theorem rs184 {l : List Sted} {p : Int} (hw : StsW l) : RsT 184 [.int .i64 p] l 1 (losR l p).length (cs .i64 (losR l p)) (askC l p) := by
  intro H x h
  have hn := hw.n
  have hc := call398 (pu := true) (p := p) h hw
  by_cases h0 : askC l p = 0
  rotate_left
  · have h1 : (askC l p != 0) = true := by simpa using h0
    have hfin := (Gr.new (H := H) (esz := 1) .refl).fin2 (c := askC l p) (by intro v hv; simp at hv)
    refine ⟨slc H.length 0 0 0 0, H ++ [⟨[], 1, 0, false⟩], some H.length, Call_wp t184 (.inr rfl) rfl ?_, Pre.one, ?_⟩
    · simp [c184, k184, hc, h1, fill, rep, hfin]
    · simp [losR, h0, cs]; exact own_new (n := 0) rfl
  obtain ⟨hk, hp0, hpl⟩ := askC_zero h0
  obtain ⟨m, rfl⟩ := Int.eq_ofNat_of_zero_le hp0
  have hm : m < l.length := by omega
  have e1 : losR l m = losL l m (l.length - (m + 1)) := by rw [losR, if_pos h0]; rfl
  refine ⟨slc H.length 0 0 (losR l m).length (losR l m).length, H ++ [⟨cs .i64 (losR l m), 1, 0, false⟩], some H.length, Call_wp t184 (.inr rfl) rfl ?_, Pre.one, own_new (by simp)⟩
  rw [e1]
  have hf0 := fill_one (z := [.int .i64 0]) (v := .int .i64 (m : Int)) (esz := 1) rfl rfl
  have u1 : IntKind.wrap .i64 ((m : Int) + 1) = (m : Int) + 1 := wrap64 (by omega)
  have hg0 : Gr H (H ++ [⟨[.int .i64 (m : Int)], 1, 0, false⟩]) (slc H.length 0 0 1 1) 1 1 (cs .i64 [(m : Int)]) := ⟨_, _, rfl, get_last, Nat.le_refl _, rfl, Pre.one⟩
  simp [c184, k184, hc, h0, hf0, u1]
  refine WP_from 8 (m + 1) l.length _ rfl (fun i e G => e 0 = x ∧ ∃ g, e 7 = g ∧ Gr H G g 1 (losL l m (i - (m + 1))).length (cs .i64 (losL l m (i - (m + 1))))) (by omega) (by omega) ?_ ?_ (by simp) (by simp [losL_zero]; exact hg0)
  · rintro i e G hai hi hii e4 h8 ⟨h0e, g, h7, hg⟩
    obtain ⟨q, off, ver, y, ha, hrd, _⟩ := (h.pre hg.pre).get hi
    have d0 := rd_part hrd (o := 0) (m := 1) (by omega)
    have d1 := rd_part hrd (o := 1) (m := 1) (by omega)
    simp [stC] at d0 d1
    obtain ⟨k, rfl⟩ : ∃ k, i = m + 1 + k := ⟨i - (m + 1), by omega⟩
    have ek : m + 1 + k - (m + 1) = k := by omega
    have ek1 : m + 1 + k + 1 - (m + 1) = k + 1 := by omega
    rw [ek] at hg
    rw [ek1]
    have hll := losL_len (l := l) (p := m) (k := k)
    have hsucc := losL_succ (l := l) (p := m) (k := k)
    obtain ⟨g', G', hpush, hg'⟩ := hg.push (c := [.int .i64 ((m + 1 + k : Nat) : Int)]) (bytes := 8) rfl (room8 (by omega)) (wb := false)
    have hf1 := fill_one (z := [.int .i64 0]) (v := .int .i64 ((m + 1 + k : Nat) : Int)) (esz := 1) rfl rfl
    rw [cs_push] at hg'
    have hb1 := (hw.w _ (at0_mem hi)).b
    have hb2 : IntKind.wrap .i64 (at0 l (m + 1 + k)).b = (at0 l (m + 1 + k)).b := wrap64 (by have := hb1.1; have := hb1.2; omega)
    have hmem := call401 (pu := true) (a := (at0 l (m + 1 + k)).b) hg.sl (by omega)
    cases hz : (at0 l (m + 1 + k)).a != 0 with
    | false =>
      have : losB (at0 l (m + 1 + k)) (losL l m k) = false := by simp [losB, hz]
      rw [this, if_neg (by decide)] at hsucc
      simp [b184_1, h8, h0e, h7, hii, h.lenV, ha, d0, hz, e4, skip, hsucc, -Int.natCast_add]
      exact hg
    | true =>
      cases hq : memI (losL l m k) (at0 l (m + 1 + k)).b with
      | false =>
        have : losB (at0 l (m + 1 + k)) (losL l m k) = false := by simp [losB, hq]
        rw [this, if_neg (by decide)] at hsucc
        simp [b184_1, h8, h0e, h7, hii, h.lenV, ha, d0, d1, hz, hb2, hmem, hq, e4, hsucc, -Int.natCast_add]
        exact hg
      | true =>
        have : losB (at0 l (m + 1 + k)) (losL l m k) = true := by simp [losB, hq, hz]
        rw [this, if_pos rfl] at hsucc
        rw [← hsucc] at hg'
        have hgl : (losL l m (k + 1)).length = (losL l m k).length + 1 := by rw [hsucc]; simp
        rw [← hgl] at hg'
        simp [b184_1, h8, h0e, h7, hii, h.lenV, ha, d0, d1, hz, hb2, hmem, hq, hf1, hpush, wbOf, e4, -Int.natCast_add]
        exact hg'
  · rintro e G h8 ⟨h0e, g, h7, hg⟩
    have hfin := hg.fin2 (c := 0) flat_cs
    simp [b184_1, h8, h0e, h.lenV, h7, hfin]
theorem rs185 {l : List Sted} {p : Int} (hw : StsW l) : RsT 185 [.int .i64 p] l 1 (losR l p).length (cs .i64 (losR l p)) (askC l p) := by
  intro H x h
  have hn := hw.n
  have hc := call399 (pu := true) (p := p) h hw
  by_cases h0 : askC l p = 0
  rotate_left
  · have h1 : (askC l p != 0) = true := by simpa using h0
    refine ⟨.slice none 0 0, H, none, Call_wp t185 (.inr rfl) rfl ?_, .refl, ?_⟩
    · simp [c185, k185, hc, h1, finish_nil2]
    · simp [losR, h0, cs, Own]
  obtain ⟨hk, hp0, hpl⟩ := askC_zero h0
  obtain ⟨m, rfl⟩ := Int.eq_ofNat_of_zero_le hp0
  have hm : m < l.length := by omega
  have e1 : losR l m = losL l m (l.length - (m + 1)) := by rw [losR, if_pos h0]; rfl
  refine ⟨slc H.length 0 0 (losR l m).length (losR l m).length, H ++ [⟨cs .i64 (losR l m), 1, 0, false⟩], some H.length, Call_wp t185 (.inr rfl) rfl ?_, Pre.one, own_new (by simp)⟩
  rw [e1]
  have hf0 := fill_one (z := [.int .i64 0]) (v := .int .i64 (m : Int)) (esz := 1) rfl rfl
  have hg0 : Gr H (H ++ [⟨[.int .i64 (m : Int)], 1, 0, false⟩]) (slc H.length 0 0 1 1) 1 1 (cs .i64 [(m : Int)]) := ⟨_, _, rfl, get_last, Nat.le_refl _, rfl, Pre.one⟩
  simp [c185, k185, hc, h0, hf0, h.lenV]
  refine WP_count 20 l.length l.length rfl (fun i e G => e 18 = x ∧ e 19 = .int .i64 l.length ∧ e 1 = .int .i64 m ∧ ∃ g, e 7 = g ∧ Gr H G g 1 (losL l m (i - (m + 1))).length (cs .i64 (losL l m (i - (m + 1))))) (by omega) ?_ ?_ (by simp) (by simp [losL_zero]; exact hg0)
  · rintro i e G _ hi hii e4 h8 ⟨h0e, h19, h1, g, h7, hg⟩
    obtain ⟨q, off, ver, y, ha, hrd, _⟩ := (h.pre hg.pre).get hi
    simp only [stC] at hrd
    have hll := losL_len (l := l) (p := m) (k := i - (m + 1))
    have hb1 := (hw.w _ (at0_mem hi)).b
    have hb2 : IntKind.wrap .i64 (at0 l i).b = (at0 l i).b := wrap64 (by have := hb1.1; have := hb1.2; omega)
    have hmem := call402 (pu := true) (a := (at0 l i).b) hg.sl (by omega)
    have hkeep : losL l m (i + 1 - (m + 1)) = losL l m (i - (m + 1)) → Gr H G g 1 (losL l m (i + 1 - (m + 1))).length (cs .i64 (losL l m (i + 1 - (m + 1)))) := fun h => by rw [h]; exact hg
    cases hz : (at0 l i).a != 0 with
    | false =>
      have hl : losL l m (i + 1 - (m + 1)) = losL l m (i - (m + 1)) := by
        rcases Nat.lt_or_ge m i with h2 | h2
        · obtain ⟨k, rfl⟩ : ∃ k, i = m + 1 + k := ⟨i - (m + 1), by omega⟩
          have : losB (at0 l (m + 1 + k)) (losL l m k) = false := by simp [losB, hz]
          rw [show m + 1 + k + 1 - (m + 1) = k + 1 by omega, show m + 1 + k - (m + 1) = k by omega, losL_succ, this, if_neg (by decide)]
        · rw [show i + 1 - (m + 1) = 0 by omega, show i - (m + 1) = 0 by omega]
      simp [b185_1, h8, h0e, h19, h1, h7, hii, ha, hrd, stc5, ldc5a, ldc5b, hz, e4, skip]
      have hkk := hkeep hl
      rw [show i + 1 - (m + 1) = i - m by omega] at hkk
      exact hkk
    | true =>
      cases hq : memI (losL l m (i - (m + 1))) (at0 l i).b with
      | false =>
        have hl : losL l m (i + 1 - (m + 1)) = losL l m (i - (m + 1)) := by
          rcases Nat.lt_or_ge m i with h2 | h2
          · obtain ⟨k, rfl⟩ : ∃ k, i = m + 1 + k := ⟨i - (m + 1), by omega⟩
            rw [show m + 1 + k - (m + 1) = k by omega] at hq
            have : losB (at0 l (m + 1 + k)) (losL l m k) = false := by simp [losB, hq]
            rw [show m + 1 + k + 1 - (m + 1) = k + 1 by omega, show m + 1 + k - (m + 1) = k by omega, losL_succ, this, if_neg (by decide)]
          · rw [show i + 1 - (m + 1) = 0 by omega, show i - (m + 1) = 0 by omega]
        simp [b185_1, h8, h0e, h19, h1, h7, hii, ha, hrd, stc5, ldc5a, ldc5b, hz, hb2, hmem, hq, e4, skip]
        have hkk := hkeep hl
        rw [show i + 1 - (m + 1) = i - m by omega] at hkk
        exact hkk
      | true =>
        rcases Nat.lt_or_ge m i with h2 | h2
        · obtain ⟨k, rfl⟩ : ∃ k, i = m + 1 + k := ⟨i - (m + 1), by omega⟩
          have ek : m + 1 + k - (m + 1) = k := by omega
          have ek1 : m + 1 + k + 1 - (m + 1) = k + 1 := by omega
          rw [ek] at hg hq hll hmem
          rw [ek1]
          have hsucc := losL_succ (l := l) (p := m) (k := k)
          obtain ⟨g', G', hpush, hg'⟩ := hg.push (c := [.int .i64 ((m + 1 + k : Nat) : Int)]) (bytes := 8) rfl (room8 (by omega)) (wb := false)
          have hf1 := fill_one (z := [.int .i64 0]) (v := .int .i64 ((m + 1 + k : Nat) : Int)) (esz := 1) rfl rfl
          rw [cs_push] at hg'
          have : losB (at0 l (m + 1 + k)) (losL l m k) = true := by simp [losB, hq, hz]
          rw [this, if_pos rfl] at hsucc
          rw [← hsucc] at hg'
          have hgl : (losL l m (k + 1)).length = (losL l m k).length + 1 := by rw [hsucc]; simp
          rw [← hgl] at hg'
          have hgt : m < m + 1 + k := by omega
          simp [b185_1, h8, h0e, h19, h1, h7, hii, ha, hrd, stc5, ldc5a, ldc5b, hz, hb2, hmem, hq, hgt, hf1, hpush, wbOf, e4, -Int.natCast_add]
          exact hg'
        · have hl : losL l m (i + 1 - (m + 1)) = losL l m (i - (m + 1)) := by rw [show i + 1 - (m + 1) = 0 by omega, show i - (m + 1) = 0 by omega]
          have hgt : ¬ (m < i) := by omega
          simp [b185_1, h8, h0e, h19, h1, h7, hii, ha, hrd, stc5, ldc5a, ldc5b, hz, hb2, hmem, hq, hgt, e4]
          have hkk := hkeep hl
          rw [show i + 1 - (m + 1) = i - m by omega] at hkk
          exact hkk
  · rintro e G _ h8 ⟨h0e, h19, h1, g, h7, hg⟩
    have hfin := hg.fin2 (c := 0) flat_cs
    simp [b185_1, h8, h19, h7, hfin]
/-- A row from its bits. -/
def rowN (q : Nat → Bool) (m : Nat) : Nat := itN (fun i v => v ||| if q i = true then 2 ^ i else 0) 0 m
theorem rowN_succ {q : Nat → Bool} {m : Nat} : rowN q (m + 1) = rowN q m ||| if q m = true then 2 ^ m else 0 := itN_succ
theorem rowN_bit {q : Nat → Bool} {m x : Nat} : (rowN q m).testBit x = (decide (x < m) && q x) := by
  induction m with
  | zero => simp [rowN, itN_zero]
  | succ m ih =>
    rw [rowN_succ, Nat.testBit_or, ih]
    by_cases h : x = m
    · subst h
      cases hq : q x <;> simp
    · have h2 : decide (x < m + 1) = decide (x < m) := by apply decide_eq_decide.2; omega
      rw [h2]
      cases hq : q m
      · simp
      · simp [Nat.testBit_two_pow]; omega
theorem rowN_lt {q : Nat → Bool} {m : Nat} : rowN q m < 2 ^ m := by
  apply Nat.lt_pow_two_of_testBit
  intro i hi
  rw [rowN_bit]
  simp; omega
theorem rowN_eq {q : Nat → Bool} {n m : Nat} (hn : n < 2 ^ m) (h : ∀ x, x < m → n.testBit x = q x) : n = rowN q m := by
  apply Nat.eq_of_testBit_eq
  intro x
  rw [rowN_bit]
  by_cases hx : x < m
  · rw [h x hx]; simp [hx]
  · simp [hx]
    exact Nat.testBit_lt_two_pow (Nat.lt_of_lt_of_le hn (Nat.pow_le_pow_right (by omega) (by omega)))
/-- A frame from its dots. -/
def dotsF (p : Nat → Nat → Bool) : List Int := tabN 12 fun y => ((rowN (fun x => p x y) 12 : Nat) : Int)
theorem dotsF_length {p : Nat → Nat → Bool} : (dotsF p).length = 12 := by simp [dotsF, tabN]
theorem dotsF_nth {p : Nat → Nat → Bool} {y : Nat} (hy : y < 12) : nth (dotsF p) y = ((rowN (fun x => p x y) 12 : Nat) : Int) := nth_tabN hy
theorem dotsF_W {p : Nat → Nat → Bool} : FrW (dotsF p) := ⟨dotsF_length, fun n hn => by
  obtain ⟨i, hi, rfl⟩ := List.getElem_of_mem hn
  rw [dotsF_length] at hi
  have h1 := dotsF_nth (p := p) hi
  have h2 := rowN_lt (q := fun x => p x i) (m := 12)
  rw [nth_of (List.getElem?_eq_getElem (by rw [dotsF_length]; exact hi))] at h1
  rw [h1]; simp only [u16']; omega⟩
theorem dotsF_ok {p : Nat → Nat → Bool} : okF (dotsF p) = true := by
  apply List.all_eq_true.2
  intro n hn
  obtain ⟨i, hi, rfl⟩ := List.getElem_of_mem hn
  rw [dotsF_length] at hi
  have h1 := dotsF_nth (p := p) hi
  have h2 := rowN_lt (q := fun x => p x i) (m := 12)
  rw [nth_of (List.getElem?_eq_getElem (by rw [dotsF_length]; exact hi))] at h1
  rw [h1]; simp only [okRow, decide_eq_true_eq]; omega
theorem list12 {f g : List Int} (hf : f.length = 12) (hg : g.length = 12) (h : ∀ y, y < 12 → nth f y = nth g y) : f = g := by
  apply List.ext_getElem (by omega)
  intro i h1 h2
  have := h i (by omega)
  rw [nth_of (List.getElem?_eq_getElem h1), nth_of (List.getElem?_eq_getElem h2)] at this
  exact this
theorem dotsF_congr {p q : Nat → Nat → Bool} (h : ∀ x y, x < 12 → y < 12 → p x y = q x y) : dotsF p = dotsF q := by
  refine list12 dotsF_length dotsF_length fun y hy => ?_
  rw [dotsF_nth hy, dotsF_nth hy]
  congr 1
  apply rowN_eq rowN_lt
  intro x hx
  rw [rowN_bit]; simp [hx, h x y hx hy]
theorem dotsF_none : dotsF (fun _ _ => false) = zr 12 0 := by
  refine list12 dotsF_length (by simp) fun y hy => ?_
  rw [dotsF_nth hy, nth_zr]
  have : rowN (fun _ => false) 12 = 0 := (rowN_eq (by decide) fun x hx => by simp).symm
  simp [this]
theorem bit_nat {x : Nat} : bit x = ((2 ^ x : Nat) : Int) := by simp [bit]
theorem or_nat {a b : Nat} (ha : a < 65536) (hb : b < 65536) : bitsOf .or .u16 (a : Int) (b : Int) = ((a ||| b : Nat) : Int) := by
  have e0 : IntKind.bits .u16 = 16 := rfl
  unfold bitsOf
  simp only []
  have hl : a ||| b < 2 ^ 16 := Nat.or_lt_two_pow ha hb
  have e1 : (BitVec.ofInt (IntKind.bits .u16) (a : Int) ||| BitVec.ofInt (IntKind.bits .u16) (b : Int)).toNat = a ||| b := by
    rw [BitVec.toNat_or, e0, BitVec.ofInt_natCast, BitVec.ofInt_natCast, BitVec.toNat_ofNat, BitVec.toNat_ofNat, Nat.mod_eq_of_lt (by omega), Nat.mod_eq_of_lt (by omega)]
  rw [e1, wrapu16 (by omega)]
theorem putF_dots {p : Nat → Nat → Bool} {x y : Nat} (hx : x < 12) (hy : y < 12) : putF (dotsF p) x y = dotsF fun x' y' => p x' y' || (decide (x' = x) && decide (y' = y)) := by
  refine list12 (by rw [putF_length, dotsF_length]) dotsF_length fun j hj => ?_
  rw [dotsF_nth hj, putF, nth_set (by rw [dotsF_length]; exact hy)]
  have hlt := rowN_lt (q := fun x => p x y) (m := 12)
  have h2 : 2 ^ x < 2 ^ 12 := Nat.pow_lt_pow_right (by omega) hx
  by_cases h : y = j
  · subst h
    rw [if_pos rfl, dotsF_nth hj, putR, bit_nat, or_nat (by omega) (by omega)]
    congr 1
    apply rowN_eq (Nat.or_lt_two_pow hlt h2)
    intro x' hx'
    rw [Nat.testBit_or, rowN_bit, Nat.testBit_two_pow]
    simp only [hx', decide_true, Bool.true_and, Bool.and_true]
    congr 1
    apply decide_eq_decide.2
    omega
  · rw [if_neg h, dotsF_nth hj]
    congr 1
    apply rowN_eq rowN_lt
    intro x' hx'
    have h3 : ¬ j = y := fun h2 => h h2.symm
    rw [rowN_bit]
    simp [hx', h3]
/-- The dots of a frame that has been moved. -/
def mvP (f : List Int) (dx dy : Int) (x y : Nat) : Bool := decide (0 ≤ (x : Int) - dx ∧ (x : Int) - dx < 12 ∧ 0 ≤ (y : Int) - dy ∧ (y : Int) - dy < 12) && hasF f ((x : Int) - dx).toNat ((y : Int) - dy).toNat
def shF (f : List Int) (dx dy : Int) : List Int := dotsF (mvP f dx dy)
/-- One dot put at its new place, if that is one. -/
def mv1 (dx dy : Int) (k : Nat) (s : List Int) : List Int :=
  if 0 ≤ ((k % 12 : Nat) : Int) + dx ∧ ((k % 12 : Nat) : Int) + dx < 12 ∧ 0 ≤ ((k / 12 : Nat) : Int) + dy ∧ ((k / 12 : Nat) : Int) + dy < 12 then putF s (((k % 12 : Nat) : Int) + dx).toNat (((k / 12 : Nat) : Int) + dy).toNat else s
def mvS (dx dy : Int) (L : List Nat) : List Int := L.foldl (fun s k => mv1 dx dy k s) (zr 12 0)
theorem mvS_snoc {dx dy : Int} {L : List Nat} {k : Nat} : mvS dx dy (L ++ [k]) = mv1 dx dy k (mvS dx dy L) := by simp [mvS]
theorem mvS_dots {dx dy : Int} {L : List Nat} : mvS dx dy L = dotsF fun x y => decide (∃ k ∈ L, ((k % 12 : Nat) : Int) + dx = x ∧ ((k / 12 : Nat) : Int) + dy = y) := by
  suffices h : ∀ n, ∀ L : List Nat, L.length = n → mvS dx dy L = dotsF fun x y => decide (∃ k ∈ L, ((k % 12 : Nat) : Int) + dx = x ∧ ((k / 12 : Nat) : Int) + dy = y) from h _ L rfl
  intro n
  induction n with
  | zero =>
    intro L hL
    obtain rfl := List.length_eq_zero_iff.1 hL
    rw [show mvS dx dy [] = zr 12 0 from rfl, ← dotsF_none]
    apply dotsF_congr
    intro x y _ _
    simp
  | succ n ih =>
    intro L hL
    obtain ⟨L', k, rfl⟩ : ∃ L' k, L = L' ++ [k] := by
      refine ⟨L.dropLast, L.getLast (by intro h; rw [h] at hL; cases hL), (List.dropLast_concat_getLast _).symm⟩
    rw [mvS_snoc, ih L' (by simpa using hL), mv1]
    split
    · rename_i h
      rw [putF_dots (by omega) (by omega)]
      apply dotsF_congr
      intro x y hx hy
      rw [Bool.eq_iff_iff]
      simp only [Bool.or_eq_true, Bool.and_eq_true, decide_eq_true_eq, List.mem_append, List.mem_singleton]
      constructor
      · rintro (⟨j, h1, h2⟩ | ⟨h1, h2⟩)
        · exact ⟨j, .inl h1, h2⟩
        · exact ⟨k, .inr rfl, by omega, by omega⟩
      · rintro ⟨j, h1 | rfl, h2, h3⟩
        · exact .inl ⟨j, h1, h2, h3⟩
        · exact .inr ⟨by omega, by omega⟩
    · rename_i h
      apply dotsF_congr
      intro x y hx hy
      rw [Bool.eq_iff_iff]
      simp only [decide_eq_true_eq, List.mem_append, List.mem_singleton]
      constructor
      · rintro ⟨j, h1, h2⟩
        exact ⟨j, .inl h1, h2⟩
      · rintro ⟨j, h1 | rfl, h2, h3⟩
        · exact ⟨j, h1, h2, h3⟩
        · exact absurd ⟨by omega, by omega, by omega, by omega⟩ h
theorem mvS_all {f : List Int} {dx dy : Int} : mvS dx dy (dotL f 144) = shF f dx dy := by
  rw [mvS_dots]
  apply dotsF_congr
  intro x y hx hy
  rw [Bool.eq_iff_iff]
  simp only [mvP, Bool.and_eq_true, decide_eq_true_eq]
  simp only [dotL, List.mem_filter, List.mem_range]
  constructor
  · rintro ⟨k, ⟨h1, h2⟩, h3, h4⟩
    have e1 : ((x : Int) - dx).toNat = k % 12 := by omega
    have e2 : ((y : Int) - dy).toNat = k / 12 := by omega
    refine ⟨by omega, ?_⟩
    rw [e1, e2]; exact h2
  · rintro ⟨h1, h2⟩
    refine ⟨((y : Int) - dy).toNat * 12 + ((x : Int) - dx).toNat, ⟨by omega, ?_⟩, by omega, by omega⟩
    rw [hasK_yx (by omega)]; exact h2
/- The rows, moved at once. -/
theorem and_4095 {n : Nat} (h : n ≤ 65535) : bitsOf .and .u16 (n : Int) 4095 = ((n % 4096 : Nat) : Int) := by
  have e0 : IntKind.bits .u16 = 16 := rfl
  unfold bitsOf
  simp only []
  have e1 : (BitVec.ofInt (IntKind.bits .u16) (n : Int) &&& BitVec.ofInt (IntKind.bits .u16) 4095).toNat = n % 4096 := by
    have e2 : n % 2 ^ 16 = n := Nat.mod_eq_of_lt (by omega)
    rw [BitVec.toNat_and, e0, BitVec.ofInt_natCast, BitVec.toNat_ofNat, show (BitVec.ofInt 16 4095).toNat = 2 ^ 12 - 1 from rfl, e2, Nat.and_two_pow_sub_one_eq_mod]
  rw [e1, wrapu16 (by omega)]
theorem shl_nat {n d : Nat} (hd : d ≤ 12) : shiftOf .shl .u16 (n : Int) (d : Int) = some (.int .u16 ((n * 2 ^ d % 65536 : Nat) : Int)) := by
  unfold shiftOf
  rw [if_neg (by omega)]
  have e1 : min ((d : Int).toNat) (IntKind.bits .u16) = d := by
    have : IntKind.bits .u16 = 16 := rfl
    omega
  simp only [e1]
  have e2 : (n : Int) * 2 ^ d = ((n * 2 ^ d : Nat) : Int) := by simp
  rw [e2]
  show some (Value.int .u16 (((n * 2 ^ d : Nat) : Int) % 65536)) = _
  congr 2
theorem shr_nat {n d : Nat} (hd : d ≤ 12) : shiftOf .shr .u16 (n : Int) (d : Int) = some (.int .u16 ((n / 2 ^ d : Nat) : Int)) := by
  unfold shiftOf
  rw [if_neg (by omega)]
  have e1 : min ((d : Int).toNat) (IntKind.bits .u16) = d := by
    have : IntKind.bits .u16 = 16 := rfl
    omega
  simp only [e1]
  have e2 : (2 : Int) ^ d = ((2 ^ d : Nat) : Int) := by simp
  rw [e2, Int.fdiv_eq_ediv_of_nonneg _ (Int.natCast_nonneg _), ← Int.natCast_ediv]
/-- One row of a frame that has been moved. -/
def mvR (f : List Int) (dx dy : Int) (y : Nat) : Int := nth (shF f dx dy) y
theorem mvR_shl {f : List Int} {d y n : Nat} {dy : Int} (hy : y < 12) (hsy : 0 ≤ (y : Int) - dy ∧ (y : Int) - dy < 12) (hn : nth f ((y : Int) - dy).toNat = n) : mvR f d dy y = ((n * 2 ^ d % 4096 : Nat) : Int) := by
  rw [mvR, shF, dotsF_nth hy]
  congr 1
  refine (rowN_eq (m := 12) (Nat.mod_lt _ (by decide)) fun x hx => ?_).symm
  rw [Nat.testBit_mod_two_pow, Nat.testBit_mul_two_pow]
  rw [Bool.eq_iff_iff]
  simp only [mvP, hasF, hn, dotB_bit, Bool.and_eq_true, decide_eq_true_eq]
  constructor
  · rintro ⟨_, h1, h2⟩
    refine ⟨by omega, ?_⟩
    rw [show ((x : Int) - d).toNat = x - d by omega]; exact h2
  · rintro ⟨h1, h2⟩
    refine ⟨hx, by omega, ?_⟩
    rw [show ((x : Int) - d).toNat = x - d by omega] at h2; exact h2
theorem mvR_shr {f : List Int} {d y n : Nat} {dy : Int} (hy : y < 12) (hsy : 0 ≤ (y : Int) - dy ∧ (y : Int) - dy < 12) (hn : nth f ((y : Int) - dy).toNat = n) (hlt : n < 4096) : mvR f (-(d : Int)) dy y = ((n / 2 ^ d : Nat) : Int) := by
  rw [mvR, shF, dotsF_nth hy]
  congr 1
  refine (rowN_eq (m := 12) (Nat.lt_of_le_of_lt (Nat.div_le_self _ _) hlt) fun x hx => ?_).symm
  rw [Nat.testBit_div_two_pow]
  rw [Bool.eq_iff_iff]
  simp only [mvP, hasF, hn, dotB_bit, Bool.and_eq_true, decide_eq_true_eq]
  have e1 : ((x : Int) - -(d : Int)).toNat = x + d := by omega
  rw [e1]
  constructor
  · intro h2
    refine ⟨?_, h2⟩
    have : ¬ (12 ≤ x + d) := fun h => by
      have := Nat.testBit_lt_two_pow (x := n) (i := x + d) (Nat.lt_of_lt_of_le hlt (Nat.pow_le_pow_right (n := 2) (by omega) h))
      rw [this] at h2; cases h2
    omega
  · rintro ⟨_, h2⟩
    exact h2
theorem mvR_off {f : List Int} {dx dy : Int} {y : Nat} (hy : y < 12) (h : ¬ (0 ≤ (y : Int) - dy ∧ (y : Int) - dy < 12)) : mvR f dx dy y = 0 := by
  rw [mvR, shF, dotsF_nth hy]
  have : rowN (fun x => mvP f dx dy x y) 12 = 0 := (rowN_eq (by decide) fun x hx => by
    simp only [mvP]
    rw [decide_eq_false (by omega)]; simp).symm
  rw [this]; rfl
theorem shF_far {f : List Int} {dx dy : Int} (h : ¬ (-12 ≤ dx ∧ dx ≤ 12)) : shF f dx dy = zr 12 0 := by
  rw [← dotsF_none]
  apply dotsF_congr
  intro x y hx hy
  simp only [mvP]
  rw [decide_eq_false (by omega)]; simp
/-- A moved frame, made so far. -/
def shU (f : List Int) (dx dy : Int) (k : Nat) : List Int := tabN 12 fun y => if y < k then mvR f dx dy y else 0
theorem shU_zero {f : List Int} {dx dy : Int} : shU f dx dy 0 = zr 12 0 :=
  (tabN_of (by simp) fun i _ => by rw [nth_zr]; simp).symm
theorem shU_all {f : List Int} {dx dy : Int} : shU f dx dy 12 = shF f dx dy :=
  (tabN_of (by rw [shF, dotsF_length]) fun i hi => by rw [if_pos hi]; rfl).symm
theorem shU_length {f : List Int} {dx dy : Int} {k : Nat} : (shU f dx dy k).length = 12 := tabN_length
theorem shU_set {f : List Int} {dx dy : Int} {k : Nat} (hk : k < 12) {v : Int} (hv : mvR f dx dy k = v) : (shU f dx dy k).set k v = shU f dx dy (k + 1) :=
  tabN_set hk (by rw [if_pos (by omega), hv]) fun i _ hi => by
    by_cases h : i < k
    · rw [if_pos h, if_pos (by omega)]
    · rw [if_neg h, if_neg (by omega)]
theorem shU_skip {f : List Int} {dx dy : Int} {k : Nat} (hk : k < 12) (h0 : mvR f dx dy k = 0) : shU f dx dy k = shU f dx dy (k + 1) :=
  tabN_ext fun i _ => by
    by_cases h : i < k
    · rw [if_pos h, if_pos (by omega)]
    · by_cases h2 : i = k
      · subst h2; rw [if_neg h, if_pos (by omega), h0]
      · rw [if_neg h, if_neg (by omega)]
theorem shF_length {f : List Int} {dx dy : Int} : (shF f dx dy).length = 12 := dotsF_length
theorem call358 {pu : Bool} {H : Heap} {f : List Int} {dx dy : Int} (hw : FrW f) (hk : okF f = true) (hx : -1000 ≤ dx ∧ dx ≤ 1000) (hy : -1000 ≤ dy ∧ dy ≤ 1000) : Call tab pu 358 [iv .u16 f, .int .i64 dx, .int .i64 dy] H = some (iv .u16 (shF f dx dy), H) := by
  refine Call_wp t358 (.inr rfl) rfl ?_
  have hl := hw.len
  have hz := stc_zr (k := .u16) (n := 12) (l := zr 12 0) (by simp)
  have hz2 := stc_zr (k := .u16) (n := 12) (l := shF f dx dy) shF_length
  cases hb : in1 dx (-12) 12 with
  | false =>
    have hf : shF f dx dy = zr 12 0 := shF_far (by simpa [in1] using hb)
    simp [c358, k358, zs_cs, agg_cs, fill, hz, in295, hb, hf]
  | true =>
    have hb' : -12 ≤ dx ∧ dx ≤ 12 := by simpa [in1] using hb
    simp [c358, k358, zs_cs, agg_cs, fill, hz, in295, hb]
    refine WP_forH 15 12 12 rfl (by omega) (fun i e => e 1 = .int .i64 dx ∧ e 2 = .int .i64 dy ∧ e 3 = iv .u16 f ∧ e 6 = iv .u16 (zr 12 0) ∧ e 7 = iv .u16 (shU f dx dy i)) ?_ ?_ (by simp) (by simp [shU_zero])
    · rintro y e hy12 hyy e4 h15 ⟨h1, h2, h3, h6, h7⟩
      have u1 : IntKind.wrap .i64 ((y : Int) - dy) = (y : Int) - dy := wrap64 (by omega)
      cases hs : in1 ((y : Int) - dy) 0 11 with
      | false =>
        have h0 := mvR_off (f := f) (dx := dx) (dy := dy) hy12 (by simp only [in1, decide_eq_false_iff_not] at hs; omega)
        have hsk := shU_skip hy12 h0
        simp [b358_1, h15, h1, h2, h3, h6, h7, hyy, u1, in295, hs, e4, hsk]
      | true =>
        have hs' : 0 ≤ (y : Int) - dy ∧ (y : Int) - dy < 12 := by simp only [in1, decide_eq_true_eq] at hs; omega
        obtain ⟨m, hm⟩ : ∃ m : Nat, (y : Int) - dy = m := ⟨((y : Int) - dy).toNat, by omega⟩
        have hm12 : m < 12 := by omega
        obtain ⟨n, hn, hn4⟩ := okF_row hk hw hm12
        have hn' : nth f ((y : Int) - dy).toNat = n := by rw [hm]; exact hn
        rw [hm] at hs u1
        have hlu := shU_length (f := f) (dx := dx) (dy := dy) (k := y)
        by_cases hd : 0 ≤ dx
        · obtain ⟨d, rfl⟩ := Int.eq_ofNat_of_zero_le hd
          have hd12 : d ≤ 12 := by omega
          have hv := mvR_shl (f := f) (d := d) (dy := dy) hy12 hs' hn'
          have hst := shU_set hy12 hv
          have q1 := shl_nat (n := n) hd12
          have q2 := and_4095 (n := n * 2 ^ d % 65536) (by omega)
          rw [Nat.mod_mod_of_dvd _ (by decide)] at q2
          have e9 := stc_at (k := .u16) (l := shU f d dy y) (by omega) hst
          simp (disch := omega) [b358_1, h15, h1, h2, h3, h6, h7, hyy, u1, hm, in295, hs, hm12, hl, hn, q1, q2, hy12, hlu, e9, e4, -Int.natCast_emod, -Int.natCast_mul, -Int.natCast_pow]
        · obtain ⟨d, rfl⟩ : ∃ d : Nat, dx = -(d : Int) := ⟨(-dx).toNat, by omega⟩
          have hd12 : d ≤ 12 := by omega
          have hv := mvR_shr (f := f) (d := d) (dy := dy) hy12 hs' hn' hn4
          have hst := shU_set hy12 hv
          have q1 := shr_nat (n := n) hd12
          have e9 := stc_at (k := .u16) (l := shU f (-(d : Int)) dy y) (by omega) hst
          have u2 : IntKind.wrap .i64 (d : Int) = (d : Int) := wrap64 (by omega)
          have hd0 : ¬ d = 0 := by omega
          simp (disch := omega) [b358_1, h15, h1, h2, h3, h6, h7, hyy, u1, hm, in295, hs, hm12, hl, hn, hd0, q1, u2, hy12, hlu, e9, e4, -Int.natCast_ediv, -Int.natCast_pow]
    · rintro e h15 ⟨h1, h2, h3, h6, h7⟩
      rw [shU_all] at h7
      simp [b358_1, h15, h6, h7, hz2, shF_length, agg_cs]
theorem put_off {G : Heap} {b : Nat} {x y : Int} (h : okP x y = false) : Call tab false 305 [adr b 0 0, .int .i64 x, .int .i64 y] G = some (tup [], G) := by
  refine Call_wp t305 (.inl rfl) rfl ?_
  simp [c305, k305, placeS, h]
theorem mv1_in {dx dy : Int} {x y u v : Nat} {s : List Int} (hx : x < 12) (e1 : (x : Int) + dx = u) (e2 : (y : Int) + dy = v) (hu : u < 12) (hv : v < 12) : mv1 dx dy (y * 12 + x) s = putF s u v := by
  have m1 : (y * 12 + x) % 12 = x := by omega
  have m2 : (y * 12 + x) / 12 = y := by omega
  rw [mv1, m1, m2, e1, e2, if_pos (by omega)]; rfl
theorem mv1_out {dx dy : Int} {x y : Nat} {s : List Int} (hx : x < 12) (h : okP ((x : Int) + dx) ((y : Int) + dy) = false) : mv1 dx dy (y * 12 + x) s = s := by
  have m1 : (y * 12 + x) % 12 = x := by omega
  have m2 : (y * 12 + x) / 12 = y := by omega
  rw [mv1, m1, m2, if_neg]
  intro h2
  have : okP ((x : Int) + dx) ((y : Int) + dy) = true := by simp [okP]; omega
  rw [this] at h; cases h
theorem mvS_length {dx dy : Int} {L : List Nat} : (mvS dx dy L).length = 12 := by rw [mvS_dots, dotsF_length]
theorem call355 {pu : Bool} {H : Heap} {q off ver : Nat} {f : List Int} {dx dy : Int} (hw : FrW f) (hr : rd H q off ver 12 = some (cs .u16 f)) (hx : -1000 ≤ dx ∧ dx ≤ 1000) (hy : -1000 ≤ dy ∧ dy ≤ 1000) :
    Call tab pu 355 [adr q off ver, .int .i64 dx, .int .i64 dy] H = some (iv .u16 (shF f dx dy), H) := by
  refine Call_wp t355 (.inr rfl) rfl ?_
  have hl := hw.len
  have hz := stc_zr (k := .u16) (n := 12) (l := shF f dx dy) shF_length
  have hle := dotL_len (f := f) (k := 144)
  obtain ⟨G0, hG0⟩ : ∃ G0, G0 = H ++ [⟨cs .u16 (zr 12 0), 1, 0, false⟩] := ⟨_, rfl⟩
  have hP0 : Pre H G0 := by rw [hG0]; exact Pre.one
  have hlen0 : G0.length = H.length + 1 := by rw [hG0]; simp
  have hc := call440 (pu := true) hw (hP0.rd hr)
  have hwr : wr H.length false (H ++ [⟨cs .u16 (zr 12 0), 1, 0, false⟩]) H.length 0 0 (cs .u16 (zr 12 0)) = some G0 := by
    rw [wr_at get_last rfl rfl (by simp [may]) (by simp), hG0]
    simp [splice]
  simp [c355, k355, zs_cs, agg_cs, fill, rep, hwr, wbOf, hc]
  refine WP_count 9 (dotL f 144).length _ rfl (fun j e G => e 1 = .int .i64 dx ∧ e 2 = .int .i64 dy ∧ e 6 = iv .u16 (zr 12 0) ∧ e 7 = adr H.length 0 0 ∧ e 8 = slc G0.length 0 0 (dotL f 144).length (dotL f 144).length ∧
    G = H ++ [⟨cs .u16 (mvS dx dy ((dotL f 144).take j)), 1, 0, false⟩, ⟨dotC f 144, 2, 0, false⟩]) (by omega) ?_ ?_ (by simp) ⟨by simp, by simp, by simp, by simp, by simp, by rw [hG0]; simp; rfl⟩
  · rintro j e _ _ hj hjj e4 h9 ⟨h1, h2, h6, h7, h8, rfl⟩
    obtain ⟨y, x, hp, hy12, hx12, hni, htk⟩ := dotL_at hj
    obtain ⟨F, hF⟩ : ∃ F, F = mvS dx dy ((dotL f 144).take j) := ⟨_, rfl⟩
    have hFl : F.length = 12 := by rw [hF, mvS_length]
    have hF1 : mvS dx dy ((dotL f 144).take (j + 1)) = mv1 dx dy (y * 12 + x) F := by rw [htk, mvS_snoc, hF]
    rw [hF1, ← hF]
    obtain ⟨G, hG⟩ : ∃ G, G = H ++ [⟨cs .u16 F, 1, 0, false⟩, ⟨dotC f 144, 2, 0, false⟩] := ⟨_, rfl⟩
    have hGG : G = H ++ [⟨cs .u16 F, 1, 0, false⟩] ++ [⟨dotC f 144, 2, 0, false⟩] := by rw [hG]; simp
    have pG : G[G0.length]? = some ⟨dotC f 144, 2, 0, false⟩ := by
      rw [hGG, hlen0]
      have := get_last (H := H ++ [⟨cs .u16 F, 1, 0, false⟩]) (b := ⟨dotC f 144, 2, 0, false⟩)
      rw [List.length_append] at this
      exact this
    have pF : G[H.length]? = some ⟨cs .u16 F, 1, 0, false⟩ := by
      rw [hGG, List.getElem?_append_left (by simp)]; exact get_last
    have hcl : (dotC f 144).length = (dotL f 144).length * 2 := by rw [dotC, mvsC_length]; simp
    have hs0 : SlR G (slc G0.length 0 0 (dotL f 144).length (dotL f 144).length) 2 (dotL f 144).length (dotC f 144) := ⟨hcl, .inr ⟨_, 0, 0, _, rfl, Nat.le_refl _, by rw [rd_at pG rfl (by simp [hcl])]; simp [take_all (Nat.le_of_eq hcl)], _, pG, rfl, rfl⟩⟩
    obtain ⟨b, o, v, ha, hr2⟩ := hs0.get1 hj
    have hel : elem (dotC f 144) 2 j = mvC ((x : Int), (y : Int)) := by
      rw [dotC, mvsC_elem (by simpa using hj), mv_map hj, hp, dotM_yx hx12]
    rw [hel] at hr2
    have d0 := rd_part hr2 (o := 0) (m := 1) (by omega)
    have d1 := rd_part hr2 (o := 1) (m := 1) (by omega)
    simp [mvC] at d0 d1
    have w1 : IntKind.wrap .i64 (x : Int) = x := wrap64 (by omega)
    have w2 : IntKind.wrap .i64 (y : Int) = y := wrap64 (by omega)
    have c1 : IntKind.wrap .i64 ((x : Int) + dx) = (x : Int) + dx := wrap64 (by omega)
    have c2 : IntKind.wrap .i64 ((y : Int) + dy) = (y : Int) + dy := wrap64 (by omega)
    rw [← hG]
    cases ho : okP ((x : Int) + dx) ((y : Int) + dy) with
    | false =>
      have hpo := put_off (G := G) (b := H.length) ho
      rw [mv1_out hx12 ho]
      simp [b355_1, h9, h1, h2, h6, h7, h8, hjj, ha, d0, d1, w1, w2, c1, c2, hpo, wbOf, e4, ← hG]
    | true =>
      obtain ⟨u, v, eu, ev, hu, hv⟩ := okP_get ho
      have hput := call305 (x := u) (y := v) pF hFl hu hv
      rw [mv1_in hx12 eu ev hu hv]
      have hset : G.set H.length ⟨cs .u16 (putF F u v), 1, 0, false⟩ = H ++ [⟨cs .u16 (putF F u v), 1, 0, false⟩, ⟨dotC f 144, 2, 0, false⟩] := by
        rw [hGG, List.set_append_left _ _ (by simp), set_last]; simp
      rw [hset] at hput
      rw [eu] at c1
      rw [ev] at c2
      have hel2 : elder H.length false G (tup [], H ++ [⟨cs .u16 (putF F u v), 1, 0, false⟩, ⟨dotC f 144, 2, 0, false⟩]) = some (tup [], H ++ [⟨cs .u16 (putF F u v), 1, 0, false⟩, ⟨dotC f 144, 2, 0, false⟩]) := elder_same (by rw [hG]; simp)
      simp [b355_1, h9, h1, h2, h6, h7, h8, hjj, ha, d0, d1, w1, w2, eu, ev, c1, c2, hput, hel2, wbOf, e4]
  · rintro e _ _ h9 ⟨h1, h2, h6, h7, h8, rfl⟩
    have hrd : rd (H ++ [⟨cs .u16 (mvS dx dy ((dotL f 144).take (dotL f 144).length)), 1, 0, false⟩, ⟨dotC f 144, 2, 0, false⟩]) H.length 0 0 12 = some (cs .u16 (shF f dx dy)) := by
      rw [List.take_length, mvS_all]
      have := rd_app (L := [⟨dotC f 144, 2, 0, false⟩]) (rd_last (H := H) (b := ⟨cs .u16 (shF f dx dy), 1, 0, false⟩) (n := 12) rfl (by simp [shF_length]))
      simpa using this
    rw [List.take_length] at hrd
    simp [b355_1, h9, h6, h7, h8, hrd, hz, shF_length, agg_cs]
def rowX (f : List Int) (m : Int × Int) : List Int := f.set m.1.toNat (xorI (nth f m.1.toNat) m.2)
def rowsX (f : List Int) (s : Sted) (k : Nat) : List Int := itN (fun k f => rowX f (rw' s k)) f k
theorem rowsX_zero {f : List Int} {s : Sted} : rowsX f s 0 = f := itN_zero
theorem rowsX_succ {f : List Int} {s : Sted} {k : Nat} : rowsX f s (k + 1) = rowX (rowsX f s k) (rw' s k) := itN_succ
theorem rowX_length {f : List Int} {m : Int × Int} : (rowX f m).length = f.length := by simp [rowX]
theorem rowsX_length {f : List Int} {s : Sted} {k : Nat} (h : f.length = 12) : (rowsX f s k).length = 12 := by
  induction k with
  | zero => rw [rowsX_zero, h]
  | succ k ih => rw [rowsX_succ, rowX_length, ih]
theorem set_W {f : List Int} {i : Nat} {v : Int} (hw : FrW f) (hk : okF f = true) (hv : u16' v) (hv2 : okRow v = true) : FrW (f.set i v) ∧ okF (f.set i v) = true := by
  refine ⟨⟨by rw [List.length_set, hw.len], fun n hn => ?_⟩, List.all_eq_true.2 fun n hn => ?_⟩
  · rcases List.mem_or_eq_of_mem_set hn with h | rfl
    · exact hw.2 n h
    · exact hv
  · rcases List.mem_or_eq_of_mem_set hn with h | rfl
    · exact List.all_eq_true.1 (show f.all okRow = true from hk) n h
    · exact hv2
theorem okF_nth {f : List Int} (hw : FrW f) (hk : okF f = true) {y : Nat} (hy : y < 12) : u16' (nth f y) ∧ okRow (nth f y) = true :=
  ⟨hw.nth hy, List.all_eq_true.1 (show f.all okRow = true from hk) _ (nth_mem (by rw [hw.len]; exact hy))⟩
theorem rowB_get {s : Sted} {j : Nat} (h : rowB s j = true) : ∃ y : Nat, (rw' s j).1 = y ∧ y < 12 ∧ u16' (rw' s j).2 ∧ okRow (rw' s j).2 = true := by
  simp only [rowB, Bool.and_eq_true, in1, decide_eq_true_eq] at h
  refine ⟨(rw' s j).1.toNat, by omega, by omega, ?_, ?_⟩
  · simp only [u16']; omega
  · simp only [okRow, decide_eq_true_eq]; omega
theorem rowsX_ok {f : List Int} {s : Sted} (hw : FrW f) (hk : okF f = true) (hs : rowsB s = true) {k : Nat} (h : k ≤ s.rows.length) : FrW (rowsX f s k) ∧ okF (rowsX f s k) = true := by
  induction k with
  | zero => rw [rowsX_zero]; exact ⟨hw, hk⟩
  | succ k ih =>
    obtain ⟨h1, h2⟩ := ih (by omega)
    obtain ⟨y, e, hy, u, o⟩ := rowB_get (allN_get (p := rowB s) hs (i := k) (by omega))
    obtain ⟨g1, g2⟩ := okF_nth h1 h2 hy
    rw [rowsX_succ, rowX, e]
    exact set_W h1 h2 xorI_ok (xorI_row g1 u g2 o)
theorem zr_ok : FrW (zr 12 0) ∧ okF (zr 12 0) = true := by rw [← dotsF_none]; exact ⟨dotsF_W, dotsF_ok⟩
theorem shF_still {f : List Int} (hw : FrW f) (hk : okF f = true) : shF f 0 0 = f := by
  refine list12 shF_length hw.len fun y hy => ?_
  obtain ⟨n, hn, hlt⟩ := okF_row hk hw hy
  have := mvR_shl (f := f) (d := 0) (y := y) (n := n) (dy := 0) hy (by omega) (by rw [show ((y : Int) - 0).toNat = y by omega]; exact hn)
  rw [hn]
  have e : n * 2 ^ 0 % 4096 = n := by rw [Nat.pow_zero, Nat.mul_one, Nat.mod_eq_of_lt hlt]
  rw [e] at this
  exact this
def baseF (s : Sted) (v : List (List Int)) : List Int := if s.a == 0 then zr 12 0 else shF (fr v s.b.toNat) s.c s.d
def decF (s : Sted) (v : List (List Int)) : List Int := rowsX (baseF s v) s s.rows.length
def decL (l : List Sted) (k : Nat) : List (List Int) := itN (fun k v => v ++ [decF (at0 l k) v]) [] k
theorem decL_zero {l : List Sted} : decL l 0 = [] := itN_zero
theorem decL_succ {l : List Sted} {k : Nat} : decL l (k + 1) = decL l k ++ [decF (at0 l k) (decL l k)] := itN_succ
theorem decL_len {l : List Sted} {k : Nat} : (decL l k).length = k := by
  induction k with
  | zero => simp [decL_zero]
  | succ k ih => rw [decL_succ]; simp [ih]
theorem baseF_ok {s : Sted} {v : List (List Int)} : FrW (baseF s v) ∧ okF (baseF s v) = true := by
  unfold baseF; split
  · exact zr_ok
  · exact ⟨dotsF_W, dotsF_ok⟩
theorem okSt_rows {s : Sted} {i : Nat} (h : okSt s i = true) : rowsB s = true := by
  simp only [okSt, Bool.and_eq_true] at h; exact h.1
theorem decF_ok {s : Sted} {v : List (List Int)} (h : rowsB s = true) : FrW (decF s v) ∧ okF (decF s v) = true := rowsX_ok baseF_ok.1 baseF_ok.2 h (Nat.le_refl _)
theorem decL_ok {l : List Sted} (hk : okSts l = true) {k : Nat} (h : k ≤ l.length) : ∀ f ∈ decL l k, FrW f ∧ okF f = true := by
  induction k with
  | zero => intro f hf; rw [decL_zero] at hf; cases hf
  | succ k ih =>
    intro f hf
    rw [decL_succ] at hf
    rcases List.mem_append.1 hf with h1 | h1
    · exact ih (by omega) f h1
    · rw [List.mem_singleton] at h1
      subst h1
      exact decF_ok (okSt_rows (okSts_get hk (by omega)))
theorem okSt_still {s : Sted} {i : Nat} (h : okSt s i = true) (ha : (s.a == 1) = true) : s.c = 0 ∧ s.d = 0 := by
  simp only [okSt, kindB, Bool.and_eq_true] at h
  obtain ⟨_, h⟩ := h
  have h0 : (s.a == 0) = false := by
    have := eq_of_beq ha
    simp [this]
  rw [if_neg (by rw [h0]; decide), if_pos ha] at h
  simp only [Bool.and_eq_true, stillB] at h
  exact ⟨eq_of_beq h.2.1, eq_of_beq h.2.2⟩
/-- The rows of a step, put over a frame: the spec. -/
theorem inner418 {n0 : Nat} {G : Heap} {s : Sted} {y x g : Value} {i : Int} {B : List Int} (hB : B.length = 12) (hrw : Rw G y s) (hs : rowsB s = true) (hn : s.rows.length ≤ 1000000) {fs : List Fr} {Q : Ex → Env → Heap → Prop} {e : Env}
    (h0 : e 0 = x) (h3 : e 3 = g) (h4 : e 4 = .int .i64 i) (h5 : e 5 = agg (stC s y)) (h6 : e 6 = iv .u16 B) (h7 : e 7 = .int .i64 0)
    (hq : ∀ e', e' 0 = x → e' 3 = g → e' 4 = .int .i64 i → e' 6 = iv .u16 (rowsX B s s.rows.length) → KK tab n0 false (.exit 3) fs e' G Q) : WK tab n0 false (.loop b418_1) fs e G Q := by
  refine WP_forH 7 s.rows.length _ rfl (by omega) (fun k e => e 0 = x ∧ e 3 = g ∧ e 4 = .int .i64 i ∧ e 5 = agg (stC s y) ∧ e 6 = iv .u16 (rowsX B s k)) ?_ ?_ h7 ⟨h0, h3, h4, h5, by rw [rowsX_zero]; exact h6⟩
  · rintro k e hk hkk e4 h7 ⟨h0, h3, h4, h5, h6⟩
    obtain ⟨q, off, ver, ha, hr, hr1, hr2⟩ := Rw.at hrw hk
    obtain ⟨m, hm, hm12, u, o⟩ := rowB_get (allN_get (p := rowB s) hs hk)
    have hl := rowsX_length (s := s) (k := k) hB
    have hst : (rowsX B s k).set m (xorI (nth (rowsX B s k) m) (rw' s k).2) = rowsX B s (k + 1) := by rw [rowsX_succ, rowX, hm]; rfl
    have e9 := stc_at (k := .u16) (l := rowsX B s k) (by omega) hst
    rw [hm] at hr1
    simp only [stC] at h5
    simp (disch := omega) [b418_1, h0, h3, h4, h5, h6, h7, ldc5e, SlR.lenV hrw, hkk, ha, hr1, hr2, hm12, hl, xorI_eq, e9, e4, stC]
  · rintro e h7 ⟨h0, h3, h4, h5, h6⟩
    simp only [stC] at h5
    simp [b418_1, h5, h7, ldc5e, SlR.lenV hrw]
    exact hq _ (by simp [h0]) (by simp [h3]) (by simp [h4]) (by simp [h6])
end Fb
