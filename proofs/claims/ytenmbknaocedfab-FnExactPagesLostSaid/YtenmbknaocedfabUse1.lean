/- What each function computes. -/
import Derived.Test.YtenmbknaocedfabUse0
set_option linter.unusedVariables false
set_option linter.unusedSimpArgs false
namespace Fb
open Go
theorem call387 {pu : Bool} {H : Heap} {y : Value} {s : Sted} {i : Nat} (h : Rw H y s) (hw : StW s) (hn : s.rows.length ≤ 1000000) (hi : i ≤ 1000000) : Call tab pu 387 [agg (stC s y), .int .i64 i] H = some (.bool (okSt s i), H) := by
  refine Call_wp t387 (.inr rfl) rfl ?_
  have hst : stC s y = [.int .i8 s.a, .int .i8 s.b, .int .i8 s.c, .int .i8 s.d, y] := rfl
  simp [c387, k387, hst, ldc5e, SlR.lenV h]
  refine WP_forH 12 s.rows.length _ rfl (by omega) (fun j e => e 1 = .int .i64 i ∧ e 2 = agg [.int .i8 s.a, .int .i8 s.b, .int .i8 s.c, .int .i8 s.d, y] ∧ e 10 = y ∧ e 11 = .int .i64 s.rows.length ∧ ∀ i, i < j → rowB s i = true) ?_ ?_ (by simp) (by simp)
  · rintro j e hj hjj e4 h12 ⟨h1, h2, h10, h11, hp⟩
    obtain ⟨q, off, ver, ha, hr, hr1, hr2⟩ := Rw.at h hj
    obtain ⟨w1, w2⟩ := hw.row hj
    have e1 : IntKind.wrap .i64 (rw' s j).1 = (rw' s j).1 := wrap64 (by omega)
    have e2 : IntKind.wrap .i64 (rw' s j).2 = (rw' s j).2 := wrap64 (by omega)
    cases b1 : in1 (rw' s j).1 0 11 with
    | false =>
      have hb : rowB s j = false := by simp [rowB, b1]
      simp [b387_1, h12, h1, h2, h10, h11, hjj, ha, hr, stc2c, ldc2, ldc2b, e1, in295, b1, skip, okSt, rowsB, allN_false hj hb]
    | true =>
      cases b2 : in1 (rw' s j).2 1 4095 with
      | false =>
        have hb : rowB s j = false := by simp [rowB, b2]
        simp [b387_1, h12, h1, h2, h10, h11, hjj, ha, hr, stc2c, ldc2, ldc2b, e1, e2, in295, b1, b2, skip, okSt, rowsB, allN_false hj hb]
      | true =>
        rcases Nat.eq_zero_or_pos j with h0j | h0j
        · subst h0j
          have hb : rowB s 0 = true := by simp [rowB, b1, b2]
          have ha' : idxAV 2 y (.int .i64 0) = some (adr q off ver) := ha
          have h3' : e 12 = .int .i64 0 := h12
          have e4' : IntKind.wrap .i64 (0 + 1) = 1 := by decide
          simp [b387_1, h3', h1, h2, h10, h11, hj, ha', hr, stc2c, ldc2, ldc2b, e1, e2, in295, b1, b2, skip, e4']
          exact hb
        · obtain ⟨q', off', ver', ha', hr', hr1', hr2'⟩ := Rw.at h (j := j - 1) (by omega)
          have c1 : IntKind.wrap .i64 ((j : Int) - 1) = ((j - 1 : Nat) : Int) := by rw [wrap64 (by omega)]; omega
          by_cases hlt : (rw' s (j - 1)).1 < (rw' s j).1
          · have hb : rowB s j = true := by simp [rowB, b1, b2, hlt]
            have hnle : ¬ ((rw' s j).1 ≤ (rw' s (j - 1)).1) := by omega
            simp [b387_1, h12, h1, h2, h10, h11, hjj, ha, hr, stc2c, ldc2, ldc2b, ldc5e, e1, e2, in295, b1, b2, h0j, c1, ha', hr1', hnle, skip, e4]
            exact upto_succ hp hb
          · have hb : rowB s j = false := by simp [rowB, hlt]; intro _ _; omega
            have hle : (rw' s j).1 ≤ (rw' s (j - 1)).1 := by omega
            simp [b387_1, h12, h1, h2, h10, h11, hjj, ha, hr, stc2c, ldc2, ldc2b, ldc5e, e1, e2, in295, b1, b2, h0j, c1, ha', hr1', hle, skip, okSt, rowsB, allN_false hj hb]
  · rintro e h12 ⟨h1, h2, h10, h11, hp⟩
    have hr : rowsB s = true := allN_true hp
    have hok : okSt s i = kindB s i := by simp [okSt, hr]
    obtain ⟨wa, wb, wc, wd, _⟩ := hw
    have eb : IntKind.wrap .i64 s.b = s.b := wrap64 (by omega)
    have ec : IntKind.wrap .i64 s.c = s.c := wrap64 (by omega)
    have ed : IntKind.wrap .i64 s.d = s.d := wrap64 (by omega)
    have ei : IntKind.wrap .i64 ((i : Int) - 1) = (i : Int) - 1 := wrap64 (by omega)
    have e11 : e 12 = .int .i64 s.rows.length := h12
    simp only [b387_1]
    cases a0 : (s.a == 0)
    · cases a1 : (s.a == 1)
      · cases a2 : (s.a == 2)
        · cases c0 : (s.c == 0) <;> cases e0 : (s.d == 0) <;>
            simp [e11, h1, h2, h11, ldc5a, ldc5b, ldc5c, ldc5d, eb, ec, ed, ei, hok, skip, a0, a1, a2, c0, e0, in295, kindB, stillB]
        · cases c0 : (s.c == 0) <;> cases e0 : (s.d == 0) <;> cases b5 : in1 s.b 0 ((i : Int) - 1) <;> cases b2 : in1 s.c (-12) 12 <;> cases b3 : in1 s.d (-12) 12 <;>
            simp [e11, h1, h2, h11, ldc5a, ldc5b, ldc5c, ldc5d, eb, ec, ed, ei, hok, skip, a0, a1, a2, c0, e0, b5, b2, b3, in295, kindB, stillB]
      · cases c0 : (s.c == 0) <;> cases e0 : (s.d == 0) <;> cases b5 : in1 s.b 0 ((i : Int) - 1) <;>
          simp [e11, h1, h2, h11, ldc5a, ldc5b, ldc5c, ldc5d, eb, ec, ed, ei, hok, skip, a0, a1, c0, e0, b5, in295, kindB, stillB]
    · cases c0 : (s.c == 0) <;> cases e0 : (s.d == 0) <;> cases b0 : (s.b == 0) <;>
        simp [e11, h1, h2, h11, ldc5a, ldc5b, ldc5c, ldc5d, eb, ec, ed, ei, hok, skip, a0, c0, e0, b0, in295, kindB, stillB]
theorem call163 {pu : Bool} {H : Heap} {x : Value} {l : List Sted} (h : StS H x l) (hw : StsW l) : Call tab pu 163 [x] H = some (.bool (okSts l), H) := by
  refine Call_wp t163 (.inr rfl) rfl ?_
  have hn := hw.n
  simp [c163, k163, h.lenV]
  refine WP_forH 7 l.length _ rfl (by omega) (fun i e => e 0 = x ∧ e 5 = x ∧ e 6 = .int .i64 l.length ∧ ∀ j, j < i → okSt (at0 l j) j = true) ?_ ?_ (by simp) (by simp)
  · rintro i e hi hii e4 h7 ⟨h0, h5, h6, hp⟩
    obtain ⟨q, off, ver, y, ha, hrd, hrw⟩ := h.get hi
    have hc := call387 (pu := true) (i := i) hrw (hw.w _ (at0_mem hi)) (hw.r _ (at0_mem hi)) (by omega)
    have hst : ∀ s y, stC s y = [.int .i8 s.a, .int .i8 s.b, .int .i8 s.c, .int .i8 s.d, y] := fun _ _ => rfl
    rw [hst] at hc hrd
    cases hk : okSt (at0 l i) i with
    | true =>
      rw [hk] at hc
      simp [b163_1, h7, h0, h5, h6, hii, ha, hrd, stc5, ldc5, hc, e4]
      exact upto_succ hp hk
    | false =>
      rw [hk] at hc
      simp [b163_1, h7, h0, h5, h6, hii, ha, hrd, stc5, ldc5, hc, okSts, allN_false (p := fun i => okSt (at0 l i) i) hi hk]
  · rintro e h7 ⟨h0, h5, h6, hp⟩
    have e1 : decide ((l.length : Int) ≤ 40) = decide (l.length ≤ 40) := by apply decide_eq_decide.2; omega
    simp [b163_1, h7, h0, h6, h.lenV, okSts, allN_true (p := fun i => okSt (at0 l i) i) hp, e1]
/-- Steps as an argument: their lengths are not bounded yet. -/
structure StsA (l : List Sted) : Prop where
  w : ∀ s ∈ l, StW s
  n : l.length ≤ 9223372036854775807
  r : ∀ s ∈ l, s.rows.length ≤ 9223372036854775807
def askC (l : List Sted) (p : Int) : Int := if okSts l = true then if 0 ≤ p ∧ p < l.length then 0 else 2 else 1
theorem call398 {pu : Bool} {H : Heap} {x : Value} {l : List Sted} {p : Int} (h : StS H x l) (hw : StsW l) : Call tab pu 398 [x, .int .i64 p] H = some (.int .i64 (askC l p), H) := by
  refine Call_wp t398 (.inr rfl) rfl ?_
  have hn := hw.n
  have e1 : IntKind.wrap .i64 ((l.length : Int) - 1) = (l.length : Int) - 1 := wrap64 (by omega)
  cases hk : okSts l with
  | false => simp [c398, k398, call386 h hw, hk, askC]
  | true =>
    cases hp : in1 p 0 ((l.length : Int) - 1) with
    | false =>
      have : ¬ (0 ≤ p ∧ p < l.length) := by simp [in1] at hp; omega
      simp [c398, k398, call386 h hw, hk, h.lenV, e1, in304, hp, askC, this]
    | true =>
      have : 0 ≤ p ∧ p < l.length := by simp [in1] at hp; omega
      simp [c398, k398, call386 h hw, hk, h.lenV, e1, in304, hp, askC, this]
theorem call531 {pu : Bool} {H : Heap} {x : Value} {n : Nat} (h : lenV x = some (.int .i64 n)) : Call tab pu 531 [x] H = some (.int .i64 n, H) := by
  refine Call_wp t531 (.inr rfl) rfl ?_
  simp [c531, k531, h]
theorem call399 {pu : Bool} {H : Heap} {x : Value} {l : List Sted} {p : Int} (h : StS H x l) (hw : StsW l) : Call tab pu 399 [x, .int .i64 p] H = some (.int .i64 (askC l p), H) := by
  refine Call_wp t399 (.inr rfl) rfl ?_
  have hn := hw.n
  have e1 : IntKind.wrap .i64 ((l.length : Int) - 1) = (l.length : Int) - 1 := wrap64 (by omega)
  cases hk : okSts l with
  | false => simp [c399, k399, call163 h hw, hk, askC]
  | true =>
    cases hp : in1 p 0 ((l.length : Int) - 1) with
    | false =>
      have : ¬ (0 ≤ p ∧ p < l.length) := by simp [in1] at hp; omega
      simp [c399, k399, call163 h hw, hk, call531 h.lenV, e1, in295, hp, askC, this]
    | true =>
      have : 0 ≤ p ∧ p < l.length := by simp [in1] at hp; omega
      simp [c399, k399, call163 h hw, hk, call531 h.lenV, e1, in295, hp, askC, this]
theorem askC_zero {l : List Sted} {p : Int} (h : askC l p = 0) : okSts l = true ∧ 0 ≤ p ∧ p < l.length := by
  unfold askC at h
  split at h
  · rename_i h1
    split at h
    · rename_i h2; exact ⟨h1, h2⟩
    · omega
  · omega
def ms2 (c : Int) (i : Nat) : Value := if i % 2 = 0 then .int .i8 (IntKind.wrap .i8 (c + i)) else .int .u16 (IntKind.wrap .u16 (c + i))
theorem ms2_a {c : Int} {i : Nat} (h : i % 2 = 0) : ms2 c i = .int .i8 (IntKind.wrap .i8 (c + i)) := if_pos h
theorem ms2_b {c : Int} {i : Nat} (h : i % 2 ≠ 0) : ms2 c i = .int .u16 (IntKind.wrap .u16 (c + i)) := if_neg h
theorem ms2_flat {c : Int} {i : Nat} {n : Nat} : old0 n (ms2 c i) = true := by
  unfold ms2; split <;> exact old0_int
theorem mark391 {G : Heap} {b ver n cap : Nat} {ws : List Value} {c : Int} (hg : G[b]? = some ⟨ws, 2, ver, false⟩) (hD : n * 2 ≤ ws.length) (hn : n ≤ 1000000) (hc0 : 0 ≤ c) (hc1 : c ≤ 1000000000000000) :
    ∃ ws', ws'.length = ws.length ∧ Call tab false 391 [slc b 0 ver n cap, .int .i64 c] G = some (.int .i64 (c + (n * 2 : Nat)), G.set b ⟨ws', 2, ver, false⟩) := by
  refine ⟨mkC (ms2 c) ws (n * 2), mkC_length (by omega), Call_wp t391 (.inl rfl) rfl ?_⟩
  simp [c391, k391]
  refine WP_count 5 n n rfl (fun i e G' => e 0 = slc b 0 ver n cap ∧ e 1 = .int .i64 (c + (i * 2 : Nat)) ∧ G' = G.set b ⟨mkC (ms2 c) ws (i * 2), 2, ver, false⟩) (by omega) ?_ ?_ (by simp) ⟨by simp, by simp, by rw [Nat.zero_mul, mkC_zero]; exact (set_self hg).symm⟩
  · rintro i e _ _ hi hii e4 h5 ⟨h0, h1, rfl⟩
    have q0 := mk_wr (n0 := G.length) (ver := ver) (esz := 2) (k := i * 2) (ms := ms2 c) (D := ws) ⟨_, hg⟩ (by omega) ms2_flat
    have q1 := mk_wr (n0 := G.length) (ver := ver) (esz := 2) (k := i * 2 + 1) (ms := ms2 c) (D := ws) ⟨_, hg⟩ (by omega) ms2_flat
    rw [ms2_a (by omega)] at q0
    rw [ms2_b (by omega)] at q1
    have w1 : IntKind.wrap .i64 (c + (i * 2 : Nat) + 1) = c + (i * 2 + 1 : Nat) := by rw [wrap64 (by omega)]; omega
    have w2 : IntKind.wrap .i64 (c + (i * 2 + 1 : Nat) + 1) = c + ((i + 1) * 2 : Nat) := by rw [wrap64 (by omega)]; omega
    have e6 : (i + 1) * 2 = i * 2 + 1 + 1 := by omega
    simp (disch := decide) [b391_1, h5, h0, h1, hii, at_nat hi, q0, q1, wbOf, w1, w2, e4, e6, -Int.natCast_add, -Int.natCast_mul]
  · rintro e _ _ h5 ⟨h0, h1, rfl⟩
    simp [b391_1, h5, h0, h1]
/-- A copy of steps while marks are being written over it. -/
structure MkI (G G' : Heap) (b ver lo hi n : Nat) (y : Nat → Value) (m : Nat → Nat) : Prop where
  len : G'.length = G.length
  fr : ∀ j, j < lo ∨ hi ≤ j → G'[j]? = G[j]?
  inb : lo ≤ b ∧ b < hi
  out : ∃ vs, G'[b]? = some ⟨vs, 5, ver, false⟩ ∧ n * 5 ≤ vs.length ∧ ∀ i, i < n → vs[i * 5 + 4]? = some (y i)
  row : ∀ i, i < n → ∃ b' ver' cap' ws, y i = slc b' 0 ver' (m i) cap' ∧ lo ≤ b' ∧ b' < hi ∧ b' ≠ b ∧ G'[b']? = some ⟨ws, 2, ver', false⟩ ∧ m i * 2 ≤ ws.length
theorem MkI.cell {G G' : Heap} {b ver lo hi n n0 : Nat} {y : Nat → Value} {m : Nat → Nat} (h : MkI G G' b ver lo hi n y m) {k : Nat} {v : Value} (hk : k < n * 5) (h4 : k % 5 ≠ 4) (hv : old0 0 v = true) :
    ∃ G2, wr n0 true G' b k ver [v] = some G2 ∧ MkI G G2 b ver lo hi n y m := by
  obtain ⟨vs, hg, hl, hy⟩ := h.out
  refine ⟨_, wr_at hg rfl rfl (by simp [may, hv]) (by simp; omega), by simp [h.len], fun j hj => ?_, h.inb, ⟨_, get_set hg, ?_, fun i hi => ?_⟩, fun i hi => ?_⟩
  · have := h.inb
    rw [List.getElem?_set_ne (by omega)]
    exact h.fr j hj
  · simp only []
    rw [splice_one (by omega)]
    simpa using hl
  · simp only []
    rw [splice_one (by omega), List.getElem?_set_ne (by omega)]
    exact hy i hi
  · obtain ⟨b', ver', cap', ws, h1, h2, h3, h4, h5, h6⟩ := h.row i hi
    exact ⟨b', ver', cap', ws, h1, h2, h3, h4, by rw [List.getElem?_set_ne (by omega)]; exact h5, h6⟩
theorem MkI.rows {G G' : Heap} {b ver lo hi n : Nat} {y : Nat → Value} {m : Nat → Nat} (h : MkI G G' b ver lo hi n y m) {b' ver' : Nat} {ws ws' : List Value} (hb : lo ≤ b' ∧ b' < hi) (hne : b' ≠ b) (hg : G'[b']? = some ⟨ws, 2, ver', false⟩) (hw : ws'.length = ws.length) :
    MkI G (G'.set b' ⟨ws', 2, ver', false⟩) b ver lo hi n y m := by
  refine ⟨by simp [h.len], fun j hj => ?_, h.inb, ?_, fun i hi => ?_⟩
  · rw [List.getElem?_set_ne (by omega)]
    exact h.fr j hj
  · obtain ⟨vs, h1, h2⟩ := h.out
    exact ⟨vs, by rw [List.getElem?_set_ne hne]; exact h1, h2⟩
  · obtain ⟨b2, ver2, cap2, ws2, h1, h2, h3, h4, h5, h6⟩ := h.row i hi
    by_cases hb2 : b' = b2
    · subst hb2
      rw [hg] at h5
      cases h5
      exact ⟨b', ver', cap2, ws', h1, h2, h3, h4, get_set hg, by rw [hw]; exact h6⟩
    · exact ⟨b2, ver2, cap2, ws2, h1, h2, h3, h4, by rw [List.getElem?_set_ne hb2]; exact h5, h6⟩
def mkS (m : Nat → Nat) (i : Nat) : Nat := itN (fun i v => v + 4 + m i * 2) 0 i
theorem mkS_succ {m : Nat → Nat} {i : Nat} : mkS m (i + 1) = mkS m i + 4 + m i * 2 := itN_succ
theorem mkS_le {m : Nat → Nat} {n i : Nat} (hm : ∀ i, i < n → m i ≤ 1000000) (h : i ≤ n) : mkS m i ≤ i * 2000004 := by
  induction i with
  | zero => simp [mkS, itN_zero]
  | succ i ih =>
    have h1 := ih (by omega)
    have h2 := hm i (by omega)
    rw [mkS_succ]; omega
theorem mark181 {G : Heap} {b ver lo hi n cap : Nat} {y : Nat → Value} {m : Nat → Nat} (h : MkI G G b ver lo hi n y m) (hn : n ≤ 1000000) (hm : ∀ i, i < n → m i ≤ 1000000) :
    ∃ r, Call tab false 181 [slc b 0 ver n cap, .int .i64 101] G = some r ∧ ∃ c G', r = (.int .i64 c, G') ∧ 0 ≤ c ∧ MkI G G' b ver lo hi n y m := by
  refine Call_ex t181 (.inl rfl) rfl ?_
  simp [c181, k181]
  refine WP_count 5 n n rfl (fun i e G' => e 0 = slc b 0 ver n cap ∧ e 1 = .int .i64 (101 + (mkS m i : Nat)) ∧ MkI G G' b ver lo hi n y m) (by omega) ?_ ?_ (by simp) ⟨by simp, by simp [mkS, itN_zero], h⟩
  · rintro i e G' _ hi hii e4 h5 ⟨h0, h1, hI⟩
    have b1 := mkS_le hm (i := i) (by omega)
    have b2 := hm i hi
    have e5 := mkS_succ (m := m) (i := i)
    generalize hM : mkS m i = M at *
    obtain ⟨G1, q1, I1⟩ := hI.cell (n0 := G.length) (k := i * 5) (v := .int .i8 (IntKind.wrap .i8 (101 + (M : Int)))) (by omega) (by omega) old0_int
    obtain ⟨G2, q2, I2⟩ := I1.cell (n0 := G.length) (k := i * 5 + 1) (v := .int .i8 (IntKind.wrap .i8 (101 + ((M + 1 : Nat) : Int)))) (by omega) (by omega) old0_int
    obtain ⟨G3, q3, I3⟩ := I2.cell (n0 := G.length) (k := i * 5 + 2) (v := .int .i8 (IntKind.wrap .i8 (101 + ((M + 2 : Nat) : Int)))) (by omega) (by omega) old0_int
    obtain ⟨G4, q4, I4⟩ := I3.cell (n0 := G.length) (k := i * 5 + 3) (v := .int .i8 (IntKind.wrap .i8 (101 + ((M + 3 : Nat) : Int)))) (by omega) (by omega) old0_int
    obtain ⟨b', ver', cap', ws, r1, r2, r3, r4, r5, r6⟩ := I4.row i hi
    obtain ⟨ws', w1, w2⟩ := mark391 (cap := cap') (c := 101 + ((M + 4 : Nat) : Int)) r5 r6 b2 (by omega) (by omega)
    have I5 := I4.rows ⟨r2, r3⟩ r4 r5 w1
    obtain ⟨vs, o1, o2, o3⟩ := I4.out
    have hrd : rd G4 b (i * 5 + 4) ver 1 = some [slc b' 0 ver' (m i) cap'] := by
      rw [rd_at o1 rfl (by simp only []; omega)]
      have := o3 i hi
      rw [r1] at this
      obtain ⟨hlt, hv⟩ := List.getElem?_eq_some_iff.1 this
      simp only []
      rw [List.drop_eq_getElem_cons hlt, hv]; rfl
    have u1 : IntKind.wrap .i64 (101 + (M : Int) + 1) = 101 + ((M + 1 : Nat) : Int) := by rw [wrap64 (by omega)]; omega
    have u2 : IntKind.wrap .i64 (101 + ((M + 1 : Nat) : Int) + 1) = 101 + ((M + 2 : Nat) : Int) := by rw [wrap64 (by omega)]; omega
    have u3 : IntKind.wrap .i64 (101 + ((M + 2 : Nat) : Int) + 1) = 101 + ((M + 3 : Nat) : Int) := by rw [wrap64 (by omega)]; omega
    have u4 : IntKind.wrap .i64 (101 + ((M + 3 : Nat) : Int) + 1) = 101 + ((M + 4 : Nat) : Int) := by rw [wrap64 (by omega)]; omega
    have u5 : 101 + ((M + 4 : Nat) : Int) + ((m i * 2 : Nat) : Int) = 101 + ((mkS m (i + 1) : Nat) : Int) := by rw [e5]; omega
    rw [u5] at w2
    simp [b181_1, h5, h0, h1, hii, at_nat hi, q1, q2, q3, q4, hrd, w2, wbOf, u1, u2, u3, u4, e4, -Int.natCast_add, -Int.natCast_mul]
    exact I5
  · rintro e G' _ h5 ⟨h0, h1, hI⟩
    simp [b181_1, h5, h0, h1]
    exact ⟨_, _, ⟨rfl, rfl⟩, by omega, by rw [List.take_of_length_le (by rw [hI.len]; exact Nat.le_refl _)]; exact hI⟩
theorem elem_at {vs : List Value} {esz i o : Nat} (h : o < esz) : (elem vs esz i)[o]? = vs[i * esz + o]? := by
  unfold elem
  rw [List.getElem?_take, if_pos h, List.getElem?_drop]
theorem mkI_of {lo : Nat} {G G' : Heap} {x : Value} {l : List Sted} (h : CpS G x l) (hb : CpB lo G x l) (p : Pre G G') :
    ∃ b ver cap y, x = slc b 0 ver l.length cap ∧ MkI G' G' b ver lo G.length l.length y (fun i => (at0 l i).rows.length) := by
  obtain ⟨b, ver, vs, rfl, hg, hl, h1, _⟩ := h
  obtain ⟨b2, ver2, vs2, e, hg2, hlo, h2⟩ := hb
  cases e
  rw [hg] at hg2
  cases hg2
  have hbG := (List.getElem?_eq_some_iff.1 hg).1
  refine ⟨b, ver, _, fun i => (vs[i * 5 + 4]?).getD (.slice none 0 0), rfl, rfl, fun _ _ => rfl, ⟨hlo, hbG⟩, ⟨vs, by rw [p.get hbG]; exact hg, by omega, fun i hi => ?_⟩, fun i hi => ?_⟩
  · obtain ⟨y, e1, _⟩ := h1 i hi
    have := elem_at (vs := vs) (esz := 5) (i := i) (o := 4) (by omega)
    rw [e1] at this
    rw [← this]; rfl
  · obtain ⟨y, e1, hy⟩ := h1 i hi
    obtain ⟨y2, e2, ho⟩ := h2 i hi
    have hyy : y = y2 := by
      have := e1.symm.trans e2
      simpa [stC] using this
    subst hyy
    have := elem_at (vs := vs) (esz := 5) (i := i) (o := 4) (by omega)
    rw [e1] at this
    obtain ⟨b', ver', rfl, hg'⟩ := hy
    have hb' := (List.getElem?_eq_some_iff.1 hg').1
    rw [old0_slc] at ho
    have ho' : lo ≤ b' := by simpa using ho
    refine ⟨b', ver', (at0 l i).rows.length + roomN (at0 l i).rows.length, room (chsC (at0 l i).rows) (at0 l i).rows.length chF, ?_, ho', hb', ?_, by rw [p.get hb']; exact hg', ?_⟩
    · rw [← this]; rfl
    · rintro rfl
      rw [hg] at hg'
      cases hg'
    · have := room_length (n := (at0 l i).rows.length) (vs := chsC (at0 l i).rows) (fc := chF) (esz := 2) chsC_length rfl
      rw [this, Nat.add_mul]; omega
theorem Own.agree {G G' : Heap} {r : Value} {β : Option Nat} {n0 esz n : Nat} {vs : List Value} (h : Own G r β n0 esz n vs) (hne : ∀ b, β = some b → G'[b]? = G[b]?) : Own G' r β n0 esz n vs := by
  obtain ⟨hl, h⟩ := h
  refine ⟨hl, ?_⟩
  cases β with
  | none => exact h
  | some b =>
    obtain ⟨hb, ver, cap, rest, rfl, hc, hg⟩ := h
    exact ⟨hb, ver, cap, rest, rfl, hc, by rw [hne b rfl]; exact hg⟩
/-- What a function makes of steps: a list of its own, and a code. -/
def RsT (f : Nat) (extra : List Value) (l : List Sted) (eszR nR : Nat) (vsR : List Value) (c : Int) : Prop := ∀ (G : Heap) (y : Value), StS G y l →
  ∃ r G' β, Call tab true f (y :: extra) G = some (tup [r, .int .i64 c], G') ∧ Pre G G' ∧ Own G' r β G.length eszR nR vsR
theorem lsx_steps {sp im eR mR hR wR : Nat} {extra : List Value} {H : Heap} {x : Value} {l : List Sted} {eszR nR : Nat} {vsR : List Value} {c : Int} {msR : Int → Nat → Value}
    (hs : StS H x l) (hn : l.length ≤ 1000000) (hr : ∀ s ∈ l, s.rows.length ≤ 1000000)
    (hsp : RsT sp extra l eszR nR vsR c) (him : RsT im extra l eszR nR vsR c) (heq : EqF eR eszR nR vsR) (hmR : MkF mR eszR wR msR) (hhR : HdF hR eszR wR msR) (hnR : nR ≤ 1000000) :
    ∃ x1 G1 rs G1' x2 G2 ri G2' x3 G3 M G4 G5 x4 G6 r4 G7, Call tab true 159 [x, .bool false] H = some (x1, G1) ∧ Call tab true sp (x1 :: extra) G1 = some (tup [rs, .int .i64 c], G1') ∧
      Call tab true 159 [x, .bool false] G1' = some (x2, G2) ∧ Call tab true im (x2 :: extra) G2 = some (tup [ri, .int .i64 c], G2') ∧ Call tab true eR [ri, rs] G2' = some (.bool true, G2') ∧
      Call tab true 159 [x, .bool false] G2' = some (x3, G3) ∧ Call tab true 161 [x2, x3] G3 = some (.bool true, G3) ∧
      (Call tab false 181 [x2, .int .i64 101] G3).bind (elder H.length false G3) = some (.int .i64 M, G4) ∧ ¬ M < 0 ∧ Call tab true eR [ri, rs] G4 = some (.bool true, G4) ∧
      (Call tab false mR [ri, .int .i64 101] G4).bind (elder H.length false G4) = some (.int .i64 (101 + (nR * wR : Nat)), G5) ∧ Call tab true hR [ri, .int .i64 101] G5 = some (.int .i64 (101 + (nR * wR : Nat)), G5) ∧
      Call tab true 159 [x, .bool true] G5 = some (x4, G6) ∧ Call tab true im (x4 :: extra) G6 = some (tup [r4, .int .i64 c], G7) ∧ Call tab true eR [r4, rs] G7 = some (.bool true, G7) ∧
      Call tab true hR [ri, .int .i64 101] G7 = some (.int .i64 (101 + (nR * wR : Nat)), G7) ∧ Pre H G7 := by
  obtain ⟨x1, G1, q1, s1, p1, _⟩ := cp159 (pu := true) (flag := false) hs hn hr
  obtain ⟨rs, G1', βs, w1, p1', os⟩ := hsp G1 x1 s1
  have P1 := p1.trans p1'
  obtain ⟨x2, G2, q2, s2, p2, k2⟩ := cpB159 (pu := true) (flag := false) (hs.pre P1) hn hr
  obtain ⟨k2, kb⟩ := k2 rfl
  obtain ⟨ri, G2', βi, w2, p2', oi⟩ := him G2 x2 s2
  have P2 := (P1.trans p2).trans p2'
  have os2 := (os.pre p2).pre p2'
  have e1 := heq G2' ri rs oi.sl os2.sl
  obtain ⟨x3, G3, q3, s3, p3, k3⟩ := cp159 (pu := true) (flag := false) (hs.pre P2) hn hr
  have P3 := P2.trans p3
  have e2 := in161 (pu := true) (k2.pre (p2'.trans p3)) (k3 rfl) hn hr
  have os3 := os2.pre p3
  have oi3 := oi.pre p3
  obtain ⟨b, ver, cap, y, rfl, hI⟩ := mkI_of k2 kb (p2'.trans p3)
  obtain ⟨r, w3, M, G4, rfl, hM, hI4⟩ := mark181 (cap := cap) hI hn fun i hi => hr _ (at0_mem hi)
  have hG1 : H.length ≤ G1'.length := P1.len
  have P4 : Pre H G4 := pre_of_get (by rw [hI4.len]; exact P3.len) fun j hj => by rw [hI4.fr j (by omega), P3.get hj]
  have os4 : Own G4 rs βs G1.length eszR nR vsR := os3.agree fun j hj => by
    subst hj
    exact hI4.fr j (.inl os.lt.2)
  have oi4 : Own G4 ri βi G2.length eszR nR vsR := oi3.agree fun j hj => hI4.fr j (.inr (oi.below j hj))
  have e3 := heq G4 ri rs oi4.sl os4.sl
  obtain ⟨G5, w4, s5, oi5⟩ := hmR G4 ri βi _ nR vsR 101 oi4 hnR (by omega) (by omega)
  have hG2 : H.length ≤ G2.length := (P1.trans p2).len
  have P5 : Pre H G5 := s5.pre P4 fun b hb => Nat.le_trans hG2 (oi.below b hb)
  have os5 : Own G5 rs βs G1.length eszR nR vsR := os4.same s5 fun b hb he => by
    subst hb
    have h1 := os.lt
    have h2 := oi.below b he
    have h3 := p2.len
    omega
  have w5 := hhR true G5 ri βi _ nR 101 oi5 hnR (by omega) (by omega)
  obtain ⟨x4, G6, q4, s4, p6, _⟩ := cp159 (pu := true) (flag := true) (hs.pre P5) hn hr
  obtain ⟨r4', G7, β4, w6, p7, o4⟩ := him G6 x4 s4
  have P7 := (P5.trans p6).trans p7
  have os7 := (os5.pre p6).pre p7
  have oi7 := (oi5.pre p6).pre p7
  have e4 := heq G7 r4' rs o4.sl os7.sl
  have w7 := hhR true G7 ri βi _ nR 101 oi7 hnR (by omega) (by omega)
  refine ⟨x1, G1, rs, G1', _, G2, ri, G2', x3, G3, M, G4, G5, x4, G6, r4', G7, q1, w1, q2, w2, e1, q3, e2, ?_, by omega, e3, ?_, w5, q4, w6, e4, w7, P7⟩
  · rw [w3]; exact elder_pre P3 P4
  · rw [w4]; exact elder_pre P4 P5
/- Lists of numbers. -/
theorem elem_i {l : List Int} {k : IntKind} {i : Nat} (h : i < l.length) : elem (cs k l) 1 i = [.int k (nth l i)] := by
  unfold elem; rw [Nat.mul_one]; exact cs_one h
theorem eq180 {l : List Int} (hn : l.length ≤ 1000000) : EqF 180 1 l.length (cs .i64 l) := by
  intro G x y hx hy
  refine Call_wp t180 (.inr rfl) rfl ?_
  simp [c180, k180, hx.lenV, hy.lenV]
  refine WP_forH 5 l.length _ rfl (by omega) (fun i e => e 0 = x ∧ e 1 = y) ?_ ?_ (by simp) (by simp)
  · rintro i e hi hii e4 h5 ⟨h0, h1⟩
    obtain ⟨q, off, ver, ha, hr⟩ := hx.get1 hi
    obtain ⟨q', off', ver', ha', hr'⟩ := hy.get1 hi
    rw [elem_i hi] at hr hr'
    simp [b180_1, h5, h0, h1, hii, hx.lenV, ha, hr, ha', hr', e4]
  · rintro e h5 ⟨h0, h1⟩
    simp [b180_1, h5, h0, hx.lenV]
def msI (c : Int) (i : Nat) : Value := .int .i64 (c + i)
theorem mark182 : MkF 182 1 1 msI := by
  intro G r β n0 n vs c ho hn hc0 hc1
  cases β with
  | none =>
    obtain ⟨hl, rfl, rfl⟩ := ho
    refine ⟨G, Call_wp t182 (.inl rfl) rfl ?_, .refl, by simp [mkL], rfl, rfl⟩
    simp [c182, k182]
    refine WP_forH 5 0 0 rfl (by omega) (fun i e => e 0 = .slice none 0 0 ∧ e 1 = .int .i64 c) ?_ ?_ (by simp) (by simp)
    · intro i e hi; omega
    · rintro e h5 ⟨h0, h1⟩
      simp [b182_1, h5, h0, h1]
  | some b =>
    obtain ⟨hl, hb, ver, cap, rest, rfl, hcap, hg⟩ := ho
    have hD : n * 1 ≤ (vs ++ rest).length := by simp [hl]
    refine ⟨G.set b ⟨mkL (msI c) (n * 1) ++ rest, 1, ver, false⟩, Call_wp t182 (.inl rfl) rfl ?_, .set, mkL_length, hb, ver, cap, rest, rfl, hcap, get_set hg⟩
    simp [c182, k182]
    refine WP_count 5 n n rfl (fun i e G' => e 0 = slc b 0 ver n cap ∧ e 1 = .int .i64 (c + (i : Nat)) ∧ G' = G.set b ⟨mkC (msI c) (vs ++ rest) i, 1, ver, false⟩) (by omega) ?_ ?_ (by simp) ⟨by simp, by simp, by rw [mkC_zero]; exact (set_self hg).symm⟩
    · rintro i e _ _ hi hii e4 h5 ⟨h0, h1, rfl⟩
      have q0 := mk_wr (n0 := G.length) (ver := ver) (esz := 1) (k := i) (ms := msI c) (D := vs ++ rest) ⟨_, hg⟩ (by omega) old0_int
      simp only [msI] at q0
      have w1 : IntKind.wrap .i64 (c + (i : Nat) + 1) = c + (i + 1 : Nat) := by rw [wrap64 (by omega)]; omega
      simp (disch := decide) [b182_1, h5, h0, h1, hii, at_nat hi, q0, wbOf, w1, e4, -Int.natCast_add]
    · rintro e _ _ h5 ⟨h0, h1, rfl⟩
      rw [Nat.mul_one] at hl
      simp [b182_1, h5, h0, h1, mkC_all hl]
theorem held183 : HdF 183 1 1 msI := by
  intro pu G r β n0 n c ho hn hc0 hc1
  have hs := ho.sl
  refine Call_wp t183 (.inr rfl) rfl ?_
  simp [c183, k183]
  refine WP_forH 5 n n rfl (by omega) (fun i e => e 0 = r ∧ e 1 = .int .i64 (c + (i : Nat))) ?_ ?_ (by simp) (by simp)
  · rintro i e hi hii e4 h5 ⟨h0, h1⟩
    obtain ⟨q, off, ver, ha, hr⟩ := hs.get1 hi
    have hd : rd G q off ver 1 = some [.int .i64 (c + (i : Nat))] := by
      rw [hr]
      unfold elem
      rw [mkL_cell (by omega), Nat.mul_one]; rfl
    have w1 : IntKind.wrap .i64 (c + (i : Nat) + 1) = c + (i + 1 : Nat) := by rw [wrap64 (by omega)]; omega
    simp (disch := decide) [b183_1, h5, h0, h1, hs.lenV, hii, ha, hd, w1, e4, -Int.natCast_add]
  · rintro e h5 ⟨h0, h1⟩
    simp [b183_1, h5, h0, hs.lenV, h1]
theorem cs_push {k : IntKind} {l : List Int} {a : Int} : cs k l ++ [.int k a] = cs k (l ++ [a]) := by simp [cs]
theorem room8 {i : Nat} (h : i ≤ 1000000) : (i + 1) * 8 ≤ roomMax := by have : roomMax = 140737488355328 := rfl; omega
def memI (v : List Int) (a : Int) : Bool := decide (a ∈ v)
theorem memI_get {v : List Int} {a : Int} {j : Nat} (hj : j < v.length) (h : nth v j = a) : memI v a = true := by
  simp only [memI, decide_eq_true_eq]; exact h ▸ nth_mem hj
theorem memI_not {v : List Int} {a : Int} (h : ∀ j, j < v.length → nth v j ≠ a) : memI v a = false := by
  simp only [memI, decide_eq_false_iff_not]
  intro hm
  obtain ⟨j, hj, e⟩ := List.getElem_of_mem hm
  exact h j hj (nth_of (by rw [List.getElem?_eq_getElem hj, e]))
theorem upto_ne {p : Nat → Prop} {i : Nat} (h : ∀ j, j < i → p j) (hi : p i) : ∀ j, j < i + 1 → p j := fun j hj => by
  rcases Nat.lt_or_ge j i with h1 | h1
  · exact h j h1
  · obtain rfl : j = i := by omega
    exact hi
theorem call401 {pu : Bool} {G : Heap} {g : Value} {v : List Int} {a : Int} (h : SlR G g 1 v.length (cs .i64 v)) (hn : v.length ≤ 10000000) : Call tab pu 401 [g, .int .i64 a] G = some (.bool (memI v a), G) := by
  refine Call_wp t401 (.inr rfl) rfl ?_
  simp [c401, k401]
  refine WP_forH 5 v.length _ rfl (by omega) (fun i e => e 0 = g ∧ e 1 = .int .i64 a ∧ ∀ j, j < i → nth v j ≠ a) ?_ ?_ (by simp) ⟨by simp, by simp, fun j hj => by omega⟩
  · rintro i e hi hii e4 h5 ⟨h0, h1, hj⟩
    obtain ⟨q, off, ver, ha, hr⟩ := h.get1 hi
    rw [elem_i hi] at hr
    cases he : nth v i == a with
    | true =>
      have : memI v a = true := memI_get hi (eq_of_beq he)
      simp [b401_1, h5, h0, h1, hii, h.lenV, ha, hr, he, this]
    | false =>
      simp [b401_1, h5, h0, h1, hii, h.lenV, ha, hr, he, e4]
      exact upto_ne hj (by simpa using he)
  · rintro e h5 ⟨h0, h1, hj⟩
    have : memI v a = false := memI_not hj
    simp [b401_1, h5, h0, h.lenV, this]
theorem call532 {pu : Bool} {G : Heap} {g : Value} {v : List Int} {a : Int} (h : SlR G g 1 v.length (cs .i64 v)) (hn : v.length ≤ 10000000) : ∃ r, Call tab pu 532 [g, .int .i64 a] G = some r ∧ ∃ c, r = (.int .i64 c, G) ∧ decide (0 ≤ c) = memI v a := by
  refine Call_ex t532 (.inr rfl) rfl ?_
  simp [c532, k532, h.lenV]
  refine WP_forH 8 v.length _ rfl (by omega) (fun i e => e 0 = g ∧ e 1 = .int .i64 a ∧ e 7 = .int .i64 v.length ∧ ∀ j, j < i → nth v j ≠ a) ?_ ?_ (by simp) ⟨by simp, by simp, by simp, fun j hj => by omega⟩
  · rintro i e hi hii e4 h5 ⟨h0, h1, h7, hj⟩
    obtain ⟨q, off, ver, ha, hr⟩ := h.get1 hi
    rw [elem_i hi] at hr
    cases he : a == nth v i with
    | true =>
      have : memI v a = true := memI_get hi (eq_of_beq he).symm
      simp [b532_1, h5, h0, h1, h7, hii, ha, hr, he, this]
    | false =>
      simp [b532_1, h5, h0, h1, h7, hii, ha, hr, he, e4]
      exact upto_ne hj (fun h => by rw [h] at he; simp at he)
  · rintro e h5 ⟨h0, h1, h7, hj⟩
    have : memI v a = false := memI_not hj
    simp [b532_1, h5, h7, this]
theorem call402 {pu : Bool} {G : Heap} {g : Value} {v : List Int} {a : Int} (h : SlR G g 1 v.length (cs .i64 v)) (hn : v.length ≤ 10000000) : Call tab pu 402 [g, .int .i64 a] G = some (.bool (memI v a), G) := by
  refine Call_wp t402 (.inr rfl) rfl ?_
  obtain ⟨_, hc, c, rfl, hm⟩ := call532 (pu := true) (a := a) h hn
  simp [c402, k402, hc, hm]
def losB (s : Sted) (v : List Int) : Bool := s.a != 0 && memI v s.b
def losL (l : List Sted) (p k : Nat) : List Int := itN (fun k v => if losB (at0 l (p + 1 + k)) v = true then v ++ [((p + 1 + k : Nat) : Int)] else v) [(p : Int)] k
theorem losL_zero {l : List Sted} {p : Nat} : losL l p 0 = [(p : Int)] := itN_zero
theorem losL_succ {l : List Sted} {p k : Nat} : losL l p (k + 1) = if losB (at0 l (p + 1 + k)) (losL l p k) = true then losL l p k ++ [((p + 1 + k : Nat) : Int)] else losL l p k := itN_succ
theorem losL_len {l : List Sted} {p k : Nat} : (losL l p k).length ≤ k + 1 := by
  induction k with
  | zero => simp [losL_zero]
  | succ k ih =>
    rw [losL_succ]
    split
    · simp; omega
    · omega
def losR (l : List Sted) (p : Int) : List Int := if askC l p = 0 then losL l p.toNat (l.length - (p.toNat + 1)) else []
theorem losR_len {l : List Sted} {p : Int} (hw : l.length ≤ 1000000) : (losR l p).length ≤ 1000000 := by
  unfold losR; split
  · rename_i h
    obtain ⟨_, h1, h2⟩ := askC_zero h
    have := losL_len (l := l) (p := p.toNat) (k := l.length - (p.toNat + 1))
    omega
  · simp
theorem rs184 {l : List Sted} {p : Int} (hw : StsW l) : RsT 184 [.int .i64 p] l 1 (losR l p).length (cs .i64 (losR l p)) (askC l p) := by
  intro H x h
  have hn := hw.n
  have hc := call398 (pu := true) (p := p) h hw
  by_cases h0 : askC l p = 0
  rotate_left
  · have h1 : (askC l p != 0) = true := by simpa using h0
    have hfin := (Gr.new (H := H) (esz := 1) .refl).fin2 (c := askC l p) (by intro v hv; simp at hv)
    refine ⟨slc H.length 0 0 0 0, H ++ [⟨[], 1, 0, false⟩], some H.length, Call_wp t184 (.inr rfl) rfl ?_, Pre.one, ?_⟩
    · simp [c184, k184, hc, h1, fill, rep, hfin]
    · simp [losR, h0, cs]; exact own_new (n := 0) rfl
  obtain ⟨hk, hp0, hpl⟩ := askC_zero h0
  obtain ⟨m, rfl⟩ := Int.eq_ofNat_of_zero_le hp0
  have hm : m < l.length := by omega
  have e1 : losR l m = losL l m (l.length - (m + 1)) := by rw [losR, if_pos h0]; rfl
  refine ⟨slc H.length 0 0 (losR l m).length (losR l m).length, H ++ [⟨cs .i64 (losR l m), 1, 0, false⟩], some H.length, Call_wp t184 (.inr rfl) rfl ?_, Pre.one, own_new (by simp)⟩
  rw [e1]
  have hf0 := fill_one (z := [.int .i64 0]) (v := .int .i64 (m : Int)) (esz := 1) rfl rfl
  have u1 : IntKind.wrap .i64 ((m : Int) + 1) = (m : Int) + 1 := wrap64 (by omega)
  have hg0 : Gr H (H ++ [⟨[.int .i64 (m : Int)], 1, 0, false⟩]) (slc H.length 0 0 1 1) 1 1 (cs .i64 [(m : Int)]) := ⟨_, _, rfl, get_last, Nat.le_refl _, rfl, Pre.one⟩
  simp [c184, k184, hc, h0, hf0, u1]
  refine WP_from 8 (m + 1) l.length _ rfl (fun i e G => e 0 = x ∧ ∃ g, e 7 = g ∧ Gr H G g 1 (losL l m (i - (m + 1))).length (cs .i64 (losL l m (i - (m + 1))))) (by omega) (by omega) ?_ ?_ (by simp) (by simp [losL_zero]; exact hg0)
  · rintro i e G hai hi hii e4 h8 ⟨h0e, g, h7, hg⟩
    obtain ⟨q, off, ver, y, ha, hrd, _⟩ := (h.pre hg.pre).get hi
    have d0 := rd_part hrd (o := 0) (m := 1) (by omega)
    have d1 := rd_part hrd (o := 1) (m := 1) (by omega)
    simp [stC] at d0 d1
    obtain ⟨k, rfl⟩ : ∃ k, i = m + 1 + k := ⟨i - (m + 1), by omega⟩
    have ek : m + 1 + k - (m + 1) = k := by omega
    have ek1 : m + 1 + k + 1 - (m + 1) = k + 1 := by omega
    rw [ek] at hg
    rw [ek1]
    have hll := losL_len (l := l) (p := m) (k := k)
    have hsucc := losL_succ (l := l) (p := m) (k := k)
    obtain ⟨g', G', hpush, hg'⟩ := hg.push (c := [.int .i64 ((m + 1 + k : Nat) : Int)]) (bytes := 8) rfl (room8 (by omega)) (wb := false)
    have hf1 := fill_one (z := [.int .i64 0]) (v := .int .i64 ((m + 1 + k : Nat) : Int)) (esz := 1) rfl rfl
    rw [cs_push] at hg'
    have hb1 := (hw.w _ (at0_mem hi)).b
    have hb2 : IntKind.wrap .i64 (at0 l (m + 1 + k)).b = (at0 l (m + 1 + k)).b := wrap64 (by have := hb1.1; have := hb1.2; omega)
    have hmem := call401 (pu := true) (a := (at0 l (m + 1 + k)).b) hg.sl (by omega)
    cases hz : (at0 l (m + 1 + k)).a != 0 with
    | false =>
      have : losB (at0 l (m + 1 + k)) (losL l m k) = false := by simp [losB, hz]
      rw [this, if_neg (by decide)] at hsucc
      simp [b184_1, h8, h0e, h7, hii, h.lenV, ha, d0, hz, e4, skip, hsucc, -Int.natCast_add]
      exact hg
    | true =>
      cases hq : memI (losL l m k) (at0 l (m + 1 + k)).b with
      | false =>
        have : losB (at0 l (m + 1 + k)) (losL l m k) = false := by simp [losB, hq]
        rw [this, if_neg (by decide)] at hsucc
        simp [b184_1, h8, h0e, h7, hii, h.lenV, ha, d0, d1, hz, hb2, hmem, hq, e4, hsucc, -Int.natCast_add]
        exact hg
      | true =>
        have : losB (at0 l (m + 1 + k)) (losL l m k) = true := by simp [losB, hq, hz]
        rw [this, if_pos rfl] at hsucc
        rw [← hsucc] at hg'
        have hgl : (losL l m (k + 1)).length = (losL l m k).length + 1 := by rw [hsucc]; simp
        rw [← hgl] at hg'
        simp [b184_1, h8, h0e, h7, hii, h.lenV, ha, d0, d1, hz, hb2, hmem, hq, hf1, hpush, wbOf, e4, -Int.natCast_add]
        exact hg'
  · rintro e G h8 ⟨h0e, g, h7, hg⟩
    have hfin := hg.fin2 (c := 0) flat_cs
    simp [b184_1, h8, h0e, h.lenV, h7, hfin]
theorem rs185 {l : List Sted} {p : Int} (hw : StsW l) : RsT 185 [.int .i64 p] l 1 (losR l p).length (cs .i64 (losR l p)) (askC l p) := by
  intro H x h
  have hn := hw.n
  have hc := call399 (pu := true) (p := p) h hw
  by_cases h0 : askC l p = 0
  rotate_left
  · have h1 : (askC l p != 0) = true := by simpa using h0
    refine ⟨.slice none 0 0, H, none, Call_wp t185 (.inr rfl) rfl ?_, .refl, ?_⟩
    · simp [c185, k185, hc, h1, finish_nil2]
    · simp [losR, h0, cs, Own]
  obtain ⟨hk, hp0, hpl⟩ := askC_zero h0
  obtain ⟨m, rfl⟩ := Int.eq_ofNat_of_zero_le hp0
  have hm : m < l.length := by omega
  have e1 : losR l m = losL l m (l.length - (m + 1)) := by rw [losR, if_pos h0]; rfl
  refine ⟨slc H.length 0 0 (losR l m).length (losR l m).length, H ++ [⟨cs .i64 (losR l m), 1, 0, false⟩], some H.length, Call_wp t185 (.inr rfl) rfl ?_, Pre.one, own_new (by simp)⟩
  rw [e1]
  have hf0 := fill_one (z := [.int .i64 0]) (v := .int .i64 (m : Int)) (esz := 1) rfl rfl
  have hg0 : Gr H (H ++ [⟨[.int .i64 (m : Int)], 1, 0, false⟩]) (slc H.length 0 0 1 1) 1 1 (cs .i64 [(m : Int)]) := ⟨_, _, rfl, get_last, Nat.le_refl _, rfl, Pre.one⟩
  simp [c185, k185, hc, h0, hf0, h.lenV]
  refine WP_count 20 l.length l.length rfl (fun i e G => e 18 = x ∧ e 19 = .int .i64 l.length ∧ e 1 = .int .i64 m ∧ ∃ g, e 7 = g ∧ Gr H G g 1 (losL l m (i - (m + 1))).length (cs .i64 (losL l m (i - (m + 1))))) (by omega) ?_ ?_ (by simp) (by simp [losL_zero]; exact hg0)
  · rintro i e G _ hi hii e4 h8 ⟨h0e, h19, h1, g, h7, hg⟩
    obtain ⟨q, off, ver, y, ha, hrd, _⟩ := (h.pre hg.pre).get hi
    simp only [stC] at hrd
    have hll := losL_len (l := l) (p := m) (k := i - (m + 1))
    have hb1 := (hw.w _ (at0_mem hi)).b
    have hb2 : IntKind.wrap .i64 (at0 l i).b = (at0 l i).b := wrap64 (by have := hb1.1; have := hb1.2; omega)
    have hmem := call402 (pu := true) (a := (at0 l i).b) hg.sl (by omega)
    have hkeep : losL l m (i + 1 - (m + 1)) = losL l m (i - (m + 1)) → Gr H G g 1 (losL l m (i + 1 - (m + 1))).length (cs .i64 (losL l m (i + 1 - (m + 1)))) := fun h => by rw [h]; exact hg
    cases hz : (at0 l i).a != 0 with
    | false =>
      have hl : losL l m (i + 1 - (m + 1)) = losL l m (i - (m + 1)) := by
        rcases Nat.lt_or_ge m i with h2 | h2
        · obtain ⟨k, rfl⟩ : ∃ k, i = m + 1 + k := ⟨i - (m + 1), by omega⟩
          have : losB (at0 l (m + 1 + k)) (losL l m k) = false := by simp [losB, hz]
          rw [show m + 1 + k + 1 - (m + 1) = k + 1 by omega, show m + 1 + k - (m + 1) = k by omega, losL_succ, this, if_neg (by decide)]
        · rw [show i + 1 - (m + 1) = 0 by omega, show i - (m + 1) = 0 by omega]
      simp [b185_1, h8, h0e, h19, h1, h7, hii, ha, hrd, stc5, ldc5a, ldc5b, hz, e4, skip]
      have hkk := hkeep hl
      rw [show i + 1 - (m + 1) = i - m by omega] at hkk
      exact hkk
    | true =>
      cases hq : memI (losL l m (i - (m + 1))) (at0 l i).b with
      | false =>
        have hl : losL l m (i + 1 - (m + 1)) = losL l m (i - (m + 1)) := by
          rcases Nat.lt_or_ge m i with h2 | h2
          · obtain ⟨k, rfl⟩ : ∃ k, i = m + 1 + k := ⟨i - (m + 1), by omega⟩
            rw [show m + 1 + k - (m + 1) = k by omega] at hq
            have : losB (at0 l (m + 1 + k)) (losL l m k) = false := by simp [losB, hq]
            rw [show m + 1 + k + 1 - (m + 1) = k + 1 by omega, show m + 1 + k - (m + 1) = k by omega, losL_succ, this, if_neg (by decide)]
          · rw [show i + 1 - (m + 1) = 0 by omega, show i - (m + 1) = 0 by omega]
        simp [b185_1, h8, h0e, h19, h1, h7, hii, ha, hrd, stc5, ldc5a, ldc5b, hz, hb2, hmem, hq, e4, skip]
        have hkk := hkeep hl
        rw [show i + 1 - (m + 1) = i - m by omega] at hkk
        exact hkk
      | true =>
        rcases Nat.lt_or_ge m i with h2 | h2
        · obtain ⟨k, rfl⟩ : ∃ k, i = m + 1 + k := ⟨i - (m + 1), by omega⟩
          have ek : m + 1 + k - (m + 1) = k := by omega
          have ek1 : m + 1 + k + 1 - (m + 1) = k + 1 := by omega
          rw [ek] at hg hq hll hmem
          rw [ek1]
          have hsucc := losL_succ (l := l) (p := m) (k := k)
          obtain ⟨g', G', hpush, hg'⟩ := hg.push (c := [.int .i64 ((m + 1 + k : Nat) : Int)]) (bytes := 8) rfl (room8 (by omega)) (wb := false)
          have hf1 := fill_one (z := [.int .i64 0]) (v := .int .i64 ((m + 1 + k : Nat) : Int)) (esz := 1) rfl rfl
          rw [cs_push] at hg'
          have : losB (at0 l (m + 1 + k)) (losL l m k) = true := by simp [losB, hq, hz]
          rw [this, if_pos rfl] at hsucc
          rw [← hsucc] at hg'
          have hgl : (losL l m (k + 1)).length = (losL l m k).length + 1 := by rw [hsucc]; simp
          rw [← hgl] at hg'
          have hgt : m < m + 1 + k := by omega
          simp [b185_1, h8, h0e, h19, h1, h7, hii, ha, hrd, stc5, ldc5a, ldc5b, hz, hb2, hmem, hq, hgt, hf1, hpush, wbOf, e4, -Int.natCast_add]
          exact hg'
        · have hl : losL l m (i + 1 - (m + 1)) = losL l m (i - (m + 1)) := by rw [show i + 1 - (m + 1) = 0 by omega, show i - (m + 1) = 0 by omega]
          have hgt : ¬ (m < i) := by omega
          simp [b185_1, h8, h0e, h19, h1, h7, hii, ha, hrd, stc5, ldc5a, ldc5b, hz, hb2, hmem, hq, hgt, e4]
          have hkk := hkeep hl
          rw [show i + 1 - (m + 1) = i - m by omega] at hkk
          exact hkk
  · rintro e G _ h8 ⟨h0e, h19, h1, g, h7, hg⟩
    have hfin := hg.fin2 (c := 0) flat_cs
    simp [b185_1, h8, h19, h7, hfin]
theorem call32 {H : Heap} {x : Value} {l : List Sted} {p : Int} (hs : StS H x l) (ha : StsA l) : ∃ H', Call tab false 32 [x, .int .i64 p] H = some (.bool true, H') := by
  refine ⟨H, Call_wp t32 (.inl rfl) rfl ?_⟩
  obtain ⟨v, hsz, _, hv⟩ := sz157 hs ha.n ha.r (left := 1000000) (by omega) (by omega)
  by_cases hneg : v < 0
  · simp [c32, k32, hsz, hneg]
  obtain ⟨hn, hr⟩ := hv (by omega)
  have hw : StsW l := ⟨ha.w, hn, hr⟩
  have hnR := losR_len (l := l) (p := p) hn
  obtain ⟨x1, G1, rs, G1', x2, G2, ri, G2', x3, G3, M, G4, G5, x4, G6, r4, G7, q1, w1, q2, w2, e1, q3, i1, k1, hM, e2, k2, d1, q4, w4, e4, d2, P⟩ := lsx_steps hs hn hr (rs184 (p := p) hw) (rs185 hw) (eq180 hnR) mark182 held183 hnR
  have hneg2 : ¬ (101 + (((losR l p).length * 1 : Nat) : Int)) < 0 := by omega
  simp [c32, k32, wbOf, hsz, hneg, q1, w1, q2, w2, e1, q3, i1, k1, hM, e2, k2, d1, q4, w4, e4, d2, hneg2, skip, P.take, -Int.natCast_mul, -Nat.mul_one]
end Fb
