/- What each function computes. -/
import Derived.Test.YtkjlnflhimibdabUse1
set_option linter.unusedVariables false
set_option linter.unusedSimpArgs false
namespace Fb
open Go
theorem swM_ok {n0 : Nat} {G0 : Heap} {bq ver n : Nat} {l l' : ML} {i j : Int} (hb : bq < G0.length) (hn : l.length = n) (h : swM l i j = some l') :
    ∃ (a b : Int × Int) (p q : Nat), at' n (.int .i64 i) = some p ∧ at' n (.int .i64 j) = some q ∧ rd (hp G0 bq ver l) bq (p * 2) ver 2 = some (mvC a) ∧ rd (hp G0 bq ver l) bq (q * 2) ver 2 = some (mvC b) ∧
      wr n0 true (hp G0 bq ver l) bq (p * 2) ver (mvC b) = some (hp G0 bq ver (l.set p b)) ∧ wr n0 true (hp G0 bq ver (l.set p b)) bq (q * 2) ver (mvC a) = some (hp G0 bq ver l') ∧ l'.length = n ∧ i = p ∧ j = q := by
  unfold swM at h
  cases ha : gtM l i with
  | none => rw [ha] at h; cases h
  | some a =>
    cases hb2 : gtM l j with
    | none => rw [ha, hb2] at h; cases h
    | some b =>
      rw [ha, hb2] at h
      simp only [Option.bind_some, Option.some.injEq] at h
      obtain ⟨p, rfl, hp1, hp2, hp3⟩ := gtM_ok (ver := ver) hb hn ha
      obtain ⟨q, rfl, hq1, hq2, hq3⟩ := gtM_ok (ver := ver) hb hn hb2
      simp only [Int.toNat_natCast] at h
      subst h
      exact ⟨a, b, p, q, hp2, hq2, hp3, hq3, hp_wr hb (by omega), hp_wr hb (by simp; omega), by simp [hn], rfl, rfl⟩
/-- What the sort leans on: the block, and the function that compares. -/
structure SrtH (G0 : Heap) (bq ver n : Nat) (F : Value) : Prop where
  hb : bq < G0.length
  hn : n ≤ 1000
  hf : ∀ l a c, l.length = n → smallM a = true → smallM c = true → callV (Call tab) (hp G0 bq ver l) F [agg (mvC a), agg (mvC c)] = some (.int .i64 (kcmp a c), hp G0 bq ver l)
theorem cmM_ok {G0 : Heap} {bq ver n : Nat} {F : Value} {l : ML} {i j c : Int} (S : SrtH G0 bq ver n F) (hn : l.length = n) (h : cmM l i j = some c) :
    ∃ (a b : Int × Int) (p q : Nat), at' n (.int .i64 i) = some p ∧ at' n (.int .i64 j) = some q ∧ rd (hp G0 bq ver l) bq (p * 2) ver 2 = some (mvC a) ∧ rd (hp G0 bq ver l) bq (q * 2) ver 2 = some (mvC b) ∧
      callV (Call tab) (hp G0 bq ver l) F [agg (mvC a), agg (mvC b)] = some (.int .i64 c, hp G0 bq ver l) ∧ i = p ∧ j = q := by
  unfold cmM at h
  cases ha : gtM l i with
  | none => rw [ha] at h; cases h
  | some a =>
    cases hb2 : gtM l j with
    | none => rw [ha, hb2] at h; cases h
    | some b =>
      rw [ha, hb2] at h
      simp only [Option.bind_some] at h
      split at h
      · rename_i hs
        simp only [Bool.and_eq_true] at hs
        cases h
        obtain ⟨p, rfl, hp1, hp2, hp3⟩ := gtM_ok (ver := ver) S.hb hn ha
        obtain ⟨q, rfl, hq1, hq2, hq3⟩ := gtM_ok (ver := ver) S.hb hn hb2
        exact ⟨a, b, p, q, hp2, hq2, hp3, hq3, S.hf l a b hn hs.1 hs.2, rfl, rfl⟩
      · cases h
theorem in9_ok {a : Int} (h : in9 a = true) : 0 ≤ a ∧ a ≤ 1000 := by simpa [in9] using h
theorem call624 {G0 : Heap} {bq ver n : Nat} {F : Value} {l l' : ML} {a b k : Int} (S : SrtH G0 bq ver n F) (hn : l.length = n) (h : swapR l a b k = some l') :
    Call tab false 624 [slc bq 0 ver n n, .int .i64 a, .int .i64 b, .int .i64 k, F] (hp G0 bq ver l) = some (tup [], hp G0 bq ver l') ∧ l'.length = n := by
  unfold swapR at h
  split at h
  · rename_i hg
    simp only [Bool.and_eq_true] at hg
    obtain ⟨⟨ha, hb⟩, hk⟩ := hg
    have ha := in9_ok ha
    have hb := in9_ok hb
    have hk := in9_ok hk
    rw [Option.map_eq_some_iff] at h
    obtain ⟨r, h, rfl⟩ := h
    suffices main : ∃ q, Call tab false 624 [slc bq 0 ver n n, .int .i64 a, .int .i64 b, .int .i64 k, F] (hp G0 bq ver l) = some q ∧ (q = (tup [], hp G0 bq ver r.1) ∧ r.1.length = n) by
      obtain ⟨q, h1, rfl, h2⟩ := main; exact ⟨h1, h2⟩
    refine Call_ex t624 (.inl rfl) rfl ?_
    simp [c624, k624, hp_len]
    refine WK_sim _ (fun s e G => e 0 = slc bq 0 ver n n ∧ e 1 = .int .i64 a ∧ e 2 = .int .i64 b ∧ e 3 = .int .i64 k ∧ e 10 = .int .i64 s.2 ∧ 0 ≤ s.2 ∧ s.1.length = n ∧ G = hp G0 bq ver s.1) ?_ ?_ h ⟨by simp, by simp, by simp, by simp, by simp, by simp, hn, rfl⟩
    · rintro ⟨l, i⟩ s' e G _ ⟨h0, h1, h2, h3, h10, hi0, hl, rfl⟩ hf
      simp only [] at *
      by_cases hi : i < k
      · rw [if_pos hi, Option.map_eq_some_iff] at hf
        obtain ⟨l2, hsw, hgo⟩ := hf
        cases hgo
        obtain ⟨x, y, p, q, r1, r2, r3, r4, r5, r6, r7, -, -⟩ := swM_ok (n0 := G0.length) (ver := ver) S.hb hl hsw
        have w1 : IntKind.wrap .i64 (a + i) = a + i := wrap64 (by omega)
        have w2 : IntKind.wrap .i64 (b + i) = b + i := wrap64 (by omega)
        have w3 : IntKind.wrap .i64 (i + 1) = i + 1 := wrap64 (by omega)
        simp [b624_1, h0, h1, h2, h3, h10, hi, w1, w2, w3, r1, r2, r3, r4, r5, r6, mvC_len, hp_len, wbOf]
        exact ⟨by omega, r7⟩
      · rw [if_neg hi] at hf; cases hf
    · rintro ⟨l, i⟩ e G _ ⟨h0, h1, h2, h3, h10, hi0, hl, rfl⟩ hf
      simp only [] at *
      by_cases hi : i < k
      · rw [if_pos hi, Option.map_eq_some_iff] at hf
        obtain ⟨_, _, hgo⟩ := hf
        cases hgo
      · rw [if_neg hi] at hf
        cases hf
        simp [b624_1, h3, h10, hi]
        exact ⟨List.take_of_length_le (by simp [hp_len]), hl⟩
  · cases h
theorem call610 {G0 : Heap} {bq ver n : Nat} {F : Value} {l l' : ML} {a m b : Int} (S : SrtH G0 bq ver n F) (hn : l.length = n) (h : rotM l a m b = some l') :
    Call tab false 610 [slc bq 0 ver n n, .int .i64 a, .int .i64 m, .int .i64 b, F] (hp G0 bq ver l) = some (tup [], hp G0 bq ver l') ∧ l'.length = n := by
  unfold rotM at h
  split at h
  · rename_i hg
    simp only [Bool.and_eq_true] at hg
    obtain ⟨⟨ha, hm⟩, hb⟩ := hg
    have ha := in9_ok ha
    have hb := in9_ok hb
    have hm := in9_ok hm
    rw [Option.bind_eq_some_iff] at h
    obtain ⟨r, h, hlast⟩ := h
    suffices main : ∃ q, Call tab false 610 [slc bq 0 ver n n, .int .i64 a, .int .i64 m, .int .i64 b, F] (hp G0 bq ver l) = some q ∧ (q = (tup [], hp G0 bq ver l') ∧ l'.length = n) by
      obtain ⟨q, h1, rfl, h2⟩ := main; exact ⟨h1, h2⟩
    refine Call_ex t610 (.inl rfl) rfl ?_
    have w1 : IntKind.wrap .i64 (m - a) = m - a := wrap64 (by omega)
    have w2 : IntKind.wrap .i64 (b - m) = b - m := wrap64 (by omega)
    simp [c610, k610, hp_len, w1, w2]
    refine WK_sim _ (fun s e G => e 0 = slc bq 0 ver n n ∧ e 2 = .int .i64 m ∧ e 4 = F ∧ e 10 = .int .i64 s.2.1 ∧ e 11 = .int .i64 s.2.2 ∧ s.1.length = n ∧ G = hp G0 bq ver s.1) ?_ ?_ h ⟨by simp, by simp, by simp, by simp, by simp, hn, rfl⟩
    · rintro ⟨l, i, j⟩ s' e G _ ⟨h0, h2, h4, h10, h11, hl, rfl⟩ hf
      simp only [] at *
      by_cases hij : i = j
      · rw [if_pos hij] at hf; cases hf
      · rw [if_neg hij] at hf
        split at hf
        · rename_i hg
          simp only [Bool.and_eq_true] at hg
          have hi := in9_ok hg.1
          have hj := in9_ok hg.2
          have hne : (i != j) = true := by simpa using hij
          have w3 : IntKind.wrap .i64 (m - i) = m - i := wrap64 (by omega)
          have w4 : IntKind.wrap .i64 (i - j) = i - j := wrap64 (by omega)
          have w5 : IntKind.wrap .i64 (j - i) = j - i := wrap64 (by omega)
          have w6 : IntKind.wrap .i64 (m + j) = m + j := wrap64 (by omega)
          have w7 : IntKind.wrap .i64 (m + j - i) = m + j - i := wrap64 (by omega)
          by_cases hlt : j < i
          · rw [if_pos hlt, Option.map_eq_some_iff] at hf
            obtain ⟨l2, hsw, hgo⟩ := hf
            cases hgo
            obtain ⟨r1, r2⟩ := call624 S hl hsw
            simp [b610_1, h0, h2, h4, h10, h11, hne, hlt, w3, w4, r1, wbOf]
            exact r2
          · rw [if_neg hlt, Option.map_eq_some_iff] at hf
            obtain ⟨l2, hsw, hgo⟩ := hf
            cases hgo
            obtain ⟨r1, r2⟩ := call624 S hl hsw
            simp [b610_1, h0, h2, h4, h10, h11, hne, hlt, w3, w5, w6, w7, r1, wbOf]
            exact r2
        · cases hf
    · rintro ⟨l, i, j⟩ e G _ ⟨h0, h2, h4, h10, h11, hl, rfl⟩ hf
      simp only [] at *
      by_cases hij : i = j
      · rw [if_pos hij] at hf
        cases hf
        simp only [] at hlast
        split at hlast
        · rename_i hg
          have hi := in9_ok hg
          have hne : (i != j) = false := by simpa using hij
          have w3 : IntKind.wrap .i64 (m - i) = m - i := wrap64 (by omega)
          obtain ⟨r1, r2⟩ := call624 S hl hlast
          simp [b610_1, h0, h2, h4, h10, h11, hne, w3, r1, wbOf]
          exact ⟨List.take_of_length_le (by simp [hp_len]), r2⟩
        · cases hlast
      · rw [if_neg hij] at hf
        split at hf
        · split at hf
          · rw [Option.map_eq_some_iff] at hf
            obtain ⟨_, _, hgo⟩ := hf
            cases hgo
          · rw [Option.map_eq_some_iff] at hf
            obtain ⟨_, _, hgo⟩ := hf
            cases hgo
        · cases hf
  · cases h
theorem call589 {G0 : Heap} {bq ver n : Nat} {F : Value} {l l' : ML} {a b : Int} (S : SrtH G0 bq ver n F) (hn : l.length = n) (h : insM l a b = some l') :
    Call tab false 589 [slc bq 0 ver n n, .int .i64 a, .int .i64 b, F] (hp G0 bq ver l) = some (tup [], hp G0 bq ver l') ∧ l'.length = n := by
  unfold insM at h
  split at h
  · rename_i hg
    simp only [Bool.and_eq_true] at hg
    obtain ⟨ha, hb⟩ := hg
    have ha := in9_ok ha
    have hb := in9_ok hb
    rw [Option.map_eq_some_iff] at h
    obtain ⟨r, h, rfl⟩ := h
    suffices main : ∃ q, Call tab false 589 [slc bq 0 ver n n, .int .i64 a, .int .i64 b, F] (hp G0 bq ver l) = some q ∧ (q = (tup [], hp G0 bq ver r.1) ∧ r.1.length = n) by
      obtain ⟨q, h1, rfl, h2⟩ := main; exact ⟨h1, h2⟩
    refine Call_ex t589 (.inl rfl) rfl ?_
    have w1 : IntKind.wrap .i64 (a + 1) = a + 1 := wrap64 (by omega)
    simp [c589, k589, hp_len, w1]
    refine WK_sim _ (fun s e G => e 0 = slc bq 0 ver n n ∧ e 1 = .int .i64 a ∧ e 2 = .int .i64 b ∧ e 3 = F ∧ e 8 = .int .i64 s.2 ∧ a < s.2 ∧ s.1.length = n ∧ G = hp G0 bq ver s.1) ?_ ?_ h ⟨by simp, by simp, by simp, by simp, by simp, by simp only []; omega, hn, rfl⟩
    · rintro ⟨l, i⟩ s' e G _ ⟨h0, h1, h2, h3, h8, hai, hl, rfl⟩ hf
      simp only [] at *
      by_cases hi : i < b
      · rw [if_pos hi, Option.map_eq_some_iff] at hf
        obtain ⟨t, hin, hgo⟩ := hf
        cases hgo
        have w2 : IntKind.wrap .i64 (i + 1) = i + 1 := wrap64 (by omega)
        simp [b589_2, h0, h1, h2, h3, h8, hi]
        refine WK_sim _ (fun s e G => e 0 = slc bq 0 ver n n ∧ e 1 = .int .i64 a ∧ e 2 = .int .i64 b ∧ e 3 = F ∧ e 8 = .int .i64 i ∧ e 9 = .int .i64 s.2 ∧ a ≤ s.2 ∧ s.2 ≤ 1000 ∧ s.1.length = n ∧ G = hp G0 bq ver s.1) ?_ ?_ hin ⟨by simp [h0], by simp [h1], by simp [h2], by simp [h3], by simp [h8], by simp, by simp only []; omega, by simp only []; omega, hl, rfl⟩
        · rintro ⟨l, j⟩ s' e G _ ⟨h0, h1, h2, h3, h8, h9, haj, hj9, hl, rfl⟩ hf
          simp only [] at *
          by_cases hj : a < j
          · rw [if_pos hj, Option.bind_eq_some_iff] at hf
            obtain ⟨c, hc, hf⟩ := hf
            by_cases hc0 : c < 0
            · rw [if_pos hc0, Option.map_eq_some_iff] at hf
              obtain ⟨l2, hsw, hgo⟩ := hf
              cases hgo
              obtain ⟨x, y, p, q, r1, r2, r3, r4, r5, -, -⟩ := cmM_ok S hl hc
              obtain ⟨x2, y2, p2, q2, s1, s2, s3, s4, s5, s6, s7, -, -⟩ := swM_ok (n0 := G0.length) (ver := ver) S.hb hl hsw
              have w3 : IntKind.wrap .i64 (j - 1) = j - 1 := wrap64 (by omega)
              rw [r1] at s1
              cases s1
              rw [r2] at s2
              cases s2
              obtain rfl := mvC_inj (r3.symm.trans s3)
              obtain rfl := mvC_inj (r4.symm.trans s4)
              simp [b589_1, h0, h1, h2, h3, h8, h9, hj, w3, r1, r2, r3, r4, r5, hc0, s5, s6, mvC_len, wbOf]
              exact ⟨by omega, by omega, s7⟩
            · rw [if_neg hc0] at hf; cases hf
          · rw [if_neg hj] at hf; cases hf
        · rintro ⟨l, j⟩ e G _ ⟨h0, h1, h2, h3, h8, h9, haj, hj9, hl, rfl⟩ hf
          simp only [] at *
          by_cases hj : a < j
          · rw [if_pos hj, Option.bind_eq_some_iff] at hf
            obtain ⟨c, hc, hf⟩ := hf
            by_cases hc0 : c < 0
            · rw [if_pos hc0, Option.map_eq_some_iff] at hf
              obtain ⟨_, _, hgo⟩ := hf
              cases hgo
            · rw [if_neg hc0] at hf
              cases hf
              obtain ⟨x, y, p, q, r1, r2, r3, r4, r5, -, -⟩ := cmM_ok S hl hc
              have w3 : IntKind.wrap .i64 (j - 1) = j - 1 := wrap64 (by omega)
              simp [b589_1, h0, h1, h2, h3, h8, h9, hj, w3, r1, r2, r3, r4, r5, hc0, w2, wbOf]
              exact ⟨by omega, hl⟩
          · rw [if_neg hj] at hf
            cases hf
            simp [b589_1, h0, h1, h2, h3, h8, h9, hj, w2, wbOf, skip]
            exact ⟨by omega, hl⟩
      · rw [if_neg hi] at hf; cases hf
    · rintro ⟨l, i⟩ e G _ ⟨h0, h1, h2, h3, h8, hai, hl, rfl⟩ hf
      simp only [] at *
      by_cases hi : i < b
      · rw [if_pos hi, Option.map_eq_some_iff] at hf
        obtain ⟨_, _, hgo⟩ := hf
        cases hgo
      · rw [if_neg hi] at hf
        cases hf
        simp [b589_2, h2, h8, hi]
        exact ⟨List.take_of_length_le (by simp [hp_len]), hl⟩
  · cases h
theorem shr_one {x : Int} (h : 0 ≤ x ∧ x ≤ 4000) : shiftOf .shr .u64 x 1 = some (.int .u64 (x / 2)) := by
  unfold shiftOf
  rw [if_neg (by omega)]
  have e1 : min ((1 : Int).toNat) (IntKind.bits .u64) = 1 := rfl
  simp only [e1]
  show some (Value.int .u64 (x.fdiv (2 ^ 1))) = _
  rw [Int.fdiv_eq_ediv_of_nonneg _ (by omega)]; rfl
theorem hf_wraps {i j : Int} (h : 0 ≤ i + j ∧ i + j ≤ 4000) : IntKind.wrap .i64 (i + j) = i + j ∧ IntKind.wrap .u64 (i + j) = i + j ∧ shiftOf .shr .u64 (i + j) 1 = some (.int .u64 (hf i j)) ∧ IntKind.wrap .i64 (hf i j) = hf i j ∧ IntKind.wrap .i64 (hf i j + 1) = hf i j + 1 := by
  have : 0 ≤ hf i j ∧ hf i j ≤ 2000 := by unfold hf; omega
  exact ⟨wrap64 (by omega), wrapu64 (by omega), shr_one h, wrap64 (by omega), wrap64 (by omega)⟩
theorem hf_le {i j : Int} {p n : Nat} (h : hf i j = p) (hp : p < n) (hn : n ≤ 1000) : 0 ≤ i + j ∧ i + j ≤ 4000 := by unfold hf at h; omega
theorem at_lt {n p : Nat} {i : Int} (h : at' n (.int .i64 i) = some p) : p < n := by
  have h' : (if 0 ≤ i ∧ i < (n : Int) then some i.toNat else none) = some p := h
  split at h'
  · simp only [Option.some.injEq] at h'; omega
  · cases h'
theorem hp_take {G0 : Heap} {bq ver : Nat} {l : ML} : (hp G0 bq ver l).take G0.length = hp G0 bq ver l := List.take_of_length_le (by simp [hp_len])
/-- A loop that looks for a place by halves. -/
theorem call590 {G0 : Heap} {bq ver n : Nat} {F : Value} (S : SrtH G0 bq ver n F) : ∀ (fuel : Nat) {l l' : ML} {a m b : Int}, l.length = n → symM fuel l a m b = some l' →
    Call tab false 590 [slc bq 0 ver n n, .int .i64 a, .int .i64 m, .int .i64 b, F] (hp G0 bq ver l) = some (tup [], hp G0 bq ver l') ∧ l'.length = n := by
  intro fuel
  induction fuel with
  | zero => intro l l' a m b _ h; simp [symM] at h
  | succ fuel ih =>
    intro l l' a m b hn h
    simp only [symM] at h
    split at h
    rotate_left
    · cases h
    rename_i hg
    simp only [Bool.and_eq_true] at hg
    obtain ⟨⟨ha, hm⟩, hb⟩ := hg
    have ha := in9_ok ha
    have hb := in9_ok hb
    have hm := in9_ok hm
    have hS := S.hn
    suffices main : ∃ q, Call tab false 590 [slc bq 0 ver n n, .int .i64 a, .int .i64 m, .int .i64 b, F] (hp G0 bq ver l) = some q ∧ (q = (tup [], hp G0 bq ver l') ∧ l'.length = n) by
      obtain ⟨q, h1, rfl, h2⟩ := main; exact ⟨h1, h2⟩
    have w1 : IntKind.wrap .i64 (m - a) = m - a := wrap64 (by omega)
    have w2 : IntKind.wrap .i64 (b - m) = b - m := wrap64 (by omega)
    by_cases h1 : m - a = 1
    · rw [if_pos h1, Option.bind_eq_some_iff] at h
      obtain ⟨r, hlp, h⟩ := h
      rw [Option.map_eq_some_iff] at h
      obtain ⟨u, hlp2, rfl⟩ := h
      have h1' : (m - a == 1) = true := by simpa using h1
      refine Call_ex t590 (.inl rfl) rfl ?_
      simp [c590, k590, hp_len, w1, h1']
      refine WK_sim _ (fun s e G => e 0 = slc bq 0 ver n n ∧ e 1 = .int .i64 a ∧ e 4 = F ∧ e 10 = .int .i64 s.1 ∧ e 11 = .int .i64 s.2 ∧ 0 ≤ s.1 ∧ s.1 ≤ 1000 ∧ G = hp G0 bq ver l) ?_ ?_ hlp ⟨by simp, by simp, by simp, by simp, by simp, by simp only []; omega, by simp only []; omega, rfl⟩
      · rintro ⟨i, j⟩ s' e G _ ⟨h0, h1e, h4, h10, h11, hi0, hi9, rfl⟩ hf
        simp only [] at *
        by_cases hij : i < j
        · rw [if_pos hij, Option.map_eq_some_iff] at hf
          obtain ⟨c, hc, hf⟩ := hf
          obtain ⟨x, y, p, q, r1, r2, r3, r4, r5, e1, e2⟩ := cmM_ok S hn hc
          have hpn := at_lt r1
          obtain ⟨v1, v2, v3, v4, v5⟩ := hf_wraps (hf_le e1 hpn hS)
          by_cases hc0 : c < 0
          · rw [if_pos hc0] at hf
            cases hf
            simp [b590_1, h0, h1e, h4, h10, h11, hij, v1, v2, v3, v4, v5, r1, r2, r3, r4, r5, hc0]
            omega
          · rw [if_neg hc0] at hf
            cases hf
            simp [b590_1, h0, h1e, h4, h10, h11, hij, v1, v2, v3, v4, v5, r1, r2, r3, r4, r5, hc0]
            omega
        · rw [if_neg hij] at hf; cases hf
      · rintro ⟨i, j⟩ e G _ ⟨h0, h1e, h4, h10, h11, hi0, hi9, rfl⟩ hf
        simp only [] at *
        by_cases hij : i < j
        · rw [if_pos hij, Option.map_eq_some_iff] at hf
          obtain ⟨c, hc, hf⟩ := hf
          split at hf <;> cases hf
        · rw [if_neg hij] at hf
          cases hf
          have w3 : IntKind.wrap .i64 (i - 1) = i - 1 := wrap64 (by omega)
          simp [b590_1, h0, h1e, h4, h10, h11, hij]
          refine WK_sim _ (fun s e G => e 0 = slc bq 0 ver n n ∧ e 10 = .int .i64 i ∧ e 13 = .int .i64 s.2 ∧ s.1.length = n ∧ G = hp G0 bq ver s.1) ?_ ?_ hlp2 ⟨by simp [h0], by simp [h10], by simp, hn, rfl⟩
          · rintro ⟨l, k⟩ s' e G _ ⟨h0, h10, h13, hl, rfl⟩ hf
            simp only [] at *
            by_cases hk : k < i - 1
            · rw [if_pos hk, Option.map_eq_some_iff] at hf
              obtain ⟨l2, hsw, hgo⟩ := hf
              cases hgo
              obtain ⟨x, y, p, q, r1, r2, r3, r4, r5, r6, r7, e1, -⟩ := swM_ok (n0 := G0.length) (ver := ver) S.hb hl hsw
              have hpn := at_lt r1
              have w4 : IntKind.wrap .i64 (k + 1) = k + 1 := wrap64 (by omega)
              simp [b590_2, h0, h10, h13, hk, w3, w4, r1, r2, r3, r4, r5, r6, mvC_len, wbOf]
              exact r7
            · rw [if_neg hk] at hf; cases hf
          · rintro ⟨l, k⟩ e G _ ⟨h0, h10, h13, hl, rfl⟩ hf
            simp only [] at *
            by_cases hk : k < i - 1
            · rw [if_pos hk, Option.map_eq_some_iff] at hf
              obtain ⟨l2, hsw, hgo⟩ := hf
              cases hgo
            · rw [if_neg hk] at hf
              cases hf
              simp [b590_2, h0, h10, h13, hk, w3, hp_take]
              exact hl
    rw [if_neg h1] at h
    have h1' : (m - a == 1) = false := by simpa using h1
    by_cases h2 : b - m = 1
    · rw [if_pos h2, Option.bind_eq_some_iff] at h
      obtain ⟨r, hlp, h⟩ := h
      rw [Option.map_eq_some_iff] at h
      obtain ⟨u, hlp2, rfl⟩ := h
      have h2' : (b - m == 1) = true := by simpa using h2
      refine Call_ex t590 (.inl rfl) rfl ?_
      simp [c590, k590, hp_len, w1, h1', w2, h2']
      refine WK_sim _ (fun s e G => e 0 = slc bq 0 ver n n ∧ e 2 = .int .i64 m ∧ e 4 = F ∧ e 14 = .int .i64 s.1 ∧ e 15 = .int .i64 s.2 ∧ 0 ≤ s.1 ∧ s.1 ≤ 1000 ∧ G = hp G0 bq ver l) ?_ ?_ hlp ⟨by simp, by simp, by simp, by simp, by simp, by simp only []; omega, by simp only []; omega, rfl⟩
      · rintro ⟨i, j⟩ s' e G _ ⟨h0, h1e, h4, h10, h11, hi0, hi9, rfl⟩ hf
        simp only [] at *
        by_cases hij : i < j
        · rw [if_pos hij, Option.map_eq_some_iff] at hf
          obtain ⟨c, hc, hf⟩ := hf
          obtain ⟨x, y, p, q, r1, r2, r3, r4, r5, e1, e2⟩ := cmM_ok S hn hc
          have hqn := at_lt r2
          obtain ⟨v1, v2, v3, v4, v5⟩ := hf_wraps (hf_le e2 hqn hS)
          by_cases hc0 : c < 0
          · rw [if_pos hc0] at hf
            cases hf
            simp [b590_3, h0, h1e, h4, h10, h11, hij, v1, v2, v3, v4, v5, r1, r2, r3, r4, r5, hc0]
            omega
          · rw [if_neg hc0] at hf
            cases hf
            simp [b590_3, h0, h1e, h4, h10, h11, hij, v1, v2, v3, v4, v5, r1, r2, r3, r4, r5, hc0]
            omega
        · rw [if_neg hij] at hf; cases hf
      · rintro ⟨i, j⟩ e G _ ⟨h0, h1e, h4, h10, h11, hi0, hi9, rfl⟩ hf
        simp only [] at *
        by_cases hij : i < j
        · rw [if_pos hij, Option.map_eq_some_iff] at hf
          obtain ⟨c, hc, hf⟩ := hf
          split at hf <;> cases hf
        · rw [if_neg hij] at hf
          cases hf
          simp [b590_3, h0, h1e, h4, h10, h11, hij]
          refine WK_sim _ (fun s e G => e 0 = slc bq 0 ver n n ∧ e 14 = .int .i64 i ∧ e 17 = .int .i64 s.2 ∧ s.1.length = n ∧ G = hp G0 bq ver s.1) ?_ ?_ hlp2 ⟨by simp [h0], by simp [h10], by simp, hn, rfl⟩
          · rintro ⟨l, k⟩ s' e G _ ⟨h0, h10, h13, hl, rfl⟩ hf
            simp only [] at *
            by_cases hk : i < k
            · rw [if_pos hk, Option.map_eq_some_iff] at hf
              obtain ⟨l2, hsw, hgo⟩ := hf
              cases hgo
              obtain ⟨x, y, p, q, r1, r2, r3, r4, r5, r6, r7, e1, -⟩ := swM_ok (n0 := G0.length) (ver := ver) S.hb hl hsw
              have hpn := at_lt r1
              have w4 : IntKind.wrap .i64 (k - 1) = k - 1 := wrap64 (by omega)
              simp [b590_4, h0, h10, h13, hk, w4, r1, r2, r3, r4, r5, r6, mvC_len, wbOf]
              exact r7
            · rw [if_neg hk] at hf; cases hf
          · rintro ⟨l, k⟩ e G _ ⟨h0, h10, h13, hl, rfl⟩ hf
            simp only [] at *
            by_cases hk : i < k
            · rw [if_pos hk, Option.map_eq_some_iff] at hf
              obtain ⟨l2, hsw, hgo⟩ := hf
              cases hgo
            · rw [if_neg hk] at hf
              cases hf
              simp [b590_4, h0, h10, h13, hk, hp_take]
              exact hl
    rw [if_neg h2] at h
    have h2' : (b - m == 1) = false := by simpa using h2
    rw [Option.bind_eq_some_iff] at h
    obtain ⟨r, hlp, h⟩ := h
    obtain ⟨v1, v2, v3, v4, v5⟩ := hf_wraps (i := a) (j := b) (by omega)
    obtain ⟨d, hd⟩ : ∃ d, d = hf a b := ⟨_, rfl⟩
    have hd9 : 0 ≤ d ∧ d ≤ 1000 := by rw [hd]; unfold hf; omega
    rw [← hd] at h hlp v3 v4 v5
    have w3 : IntKind.wrap .i64 (d + m) = d + m := wrap64 (by omega)
    have w4 : IntKind.wrap .i64 (d + m - b) = d + m - b := wrap64 (by omega)
    have w5 : IntKind.wrap .i64 (d + m - 1) = d + m - 1 := wrap64 (by omega)
    obtain ⟨s0, hs0⟩ : ∃ s0, s0 = (if d < m then (d + m - b, d) else (a, m)) := ⟨_, rfl⟩
    rw [← hs0] at hlp
    have hs9 : -2000 ≤ s0.1 ∧ s0.1 ≤ 2000 := by
      rw [hs0]; split <;> simp only [] <;> omega
    refine Call_ex t590 (.inl rfl) rfl ?_
    have loop : ∀ e : Env, e 0 = slc bq 0 ver n n → e 1 = .int .i64 a → e 2 = .int .i64 m → e 3 = .int .i64 b → e 4 = F → e 18 = .int .i64 d → e 19 = .int .i64 (d + m) → e 20 = .int .i64 s0.1 → e 21 = .int .i64 s0.2 → e 22 = .int .i64 (d + m - 1) → ∀ fs Q,
        (∀ e' : Env, e' 0 = slc bq 0 ver n n → e' 1 = .int .i64 a → e' 2 = .int .i64 m → e' 3 = .int .i64 b → e' 4 = F → e' 18 = .int .i64 d → e' 19 = .int .i64 (d + m) → e' 20 = .int .i64 r.1 → -2000 ≤ r.1 → r.1 ≤ 2000 → KK tab G0.length true (.exit 8) fs e' (hp G0 bq ver l) Q) →
        WK tab G0.length true (.loop b590_5) fs e (hp G0 bq ver l) Q := by
      intro e q0 q1 q2 q3 q4 q18 q19 q20 q21 q22 fs Q hq
      refine WK_sim _ (fun s e G => e 0 = slc bq 0 ver n n ∧ e 1 = .int .i64 a ∧ e 2 = .int .i64 m ∧ e 3 = .int .i64 b ∧ e 4 = F ∧ e 18 = .int .i64 d ∧ e 19 = .int .i64 (d + m) ∧ e 20 = .int .i64 s.1 ∧ e 21 = .int .i64 s.2 ∧ e 22 = .int .i64 (d + m - 1) ∧ -2000 ≤ s.1 ∧ s.1 ≤ 2000 ∧ G = hp G0 bq ver l) ?_ ?_ hlp ⟨q0, q1, q2, q3, q4, q18, q19, q20, q21, q22, hs9.1, hs9.2, rfl⟩
      · rintro ⟨i, j⟩ s' e G _ ⟨h0, h1, h2, h3, h4, h18, h19, h20, h21, h22, hi0, hi9, rfl⟩ hf'
        simp only [] at *
        by_cases hij : i < j
        · rw [if_pos hij, Option.map_eq_some_iff] at hf'
          obtain ⟨c, hc, hf'⟩ := hf'
          obtain ⟨x, y, p, q, r1, r2, r3, r4, r5, e1, e2⟩ := cmM_ok S hn hc
          have hqn := at_lt r2
          obtain ⟨v1, v2, v3, v4, v5⟩ := hf_wraps (hf_le e2 hqn hS)
          have w6 : IntKind.wrap .i64 (d + m - 1 - hf i j) = d + m - 1 - hf i j := wrap64 (by omega)
          by_cases hc0 : c < 0
          · rw [if_pos hc0] at hf'
            cases hf'
            simp [b590_5, h0, h1, h2, h3, h4, h18, h19, h20, h21, h22, hij, v1, v2, v3, v4, v5, w6, r1, r2, r3, r4, r5, hc0]
            omega
          · rw [if_neg hc0] at hf'
            cases hf'
            simp [b590_5, h0, h1, h2, h3, h4, h18, h19, h20, h21, h22, hij, v1, v2, v3, v4, v5, w6, r1, r2, r3, r4, r5, hc0]
            omega
        · rw [if_neg hij] at hf'; cases hf'
      · rintro ⟨i, j⟩ e G _ ⟨h0, h1, h2, h3, h4, h18, h19, h20, h21, h22, hi0, hi9, rfl⟩ hf'
        simp only [] at *
        by_cases hij : i < j
        · rw [if_pos hij, Option.map_eq_some_iff] at hf'
          obtain ⟨c, hc, hf'⟩ := hf'
          split at hf' <;> cases hf'
        · rw [if_neg hij] at hf'
          cases hf'
          simp [b590_5, h20, h21, hij]
          exact hq _ (by simp [h0]) (by simp [h1]) (by simp [h2]) (by simp [h3]) (by simp [h4]) (by simp [h18]) (by simp [h19]) (by simp [h20]) hi0 hi9
    rw [Option.bind_eq_some_iff] at h
    obtain ⟨l1, hl1, h⟩ := h
    rw [Option.bind_eq_some_iff] at h
    obtain ⟨l2, hl2, h⟩ := h
    have hw6 : -2000 ≤ r.1 → r.1 ≤ 2000 → IntKind.wrap .i64 (d + m - r.1) = d + m - r.1 := fun _ _ => wrap64 (by omega)
    have C1 : ((r.1 < m ∧ m < d + m - r.1 ∧ Call tab false 610 [slc bq 0 ver n n, .int .i64 r.1, .int .i64 m, .int .i64 (d + m - r.1), F] (hp G0 bq ver l) = some (tup [], hp G0 bq ver l1)) ∨ (r.1 < m ∧ ¬ m < d + m - r.1 ∧ l1 = l) ∨ (¬ r.1 < m ∧ l1 = l)) ∧ l1.length = n := by
      by_cases a1 : r.1 < m
      · by_cases a2 : m < d + m - r.1
        · rw [if_pos ⟨a1, a2⟩] at hl1
          obtain ⟨z1, z2⟩ := call610 S hn hl1
          exact ⟨.inl ⟨a1, a2, z1⟩, z2⟩
        · rw [if_neg (fun z => a2 z.2)] at hl1
          cases hl1
          exact ⟨.inr (.inl ⟨a1, a2, rfl⟩), hn⟩
      · rw [if_neg (fun z => a1 z.1)] at hl1
        cases hl1
        exact ⟨.inr (.inr ⟨a1, rfl⟩), hn⟩
    obtain ⟨C1, hn1⟩ := C1
    have C2 : ((a < r.1 ∧ r.1 < d ∧ Call tab false 590 [slc bq 0 ver n n, .int .i64 a, .int .i64 r.1, .int .i64 d, F] (hp G0 bq ver l1) = some (tup [], hp G0 bq ver l2)) ∨ (a < r.1 ∧ ¬ r.1 < d ∧ l2 = l1) ∨ (¬ a < r.1 ∧ l2 = l1)) ∧ l2.length = n := by
      by_cases a1 : a < r.1
      · by_cases a2 : r.1 < d
        · rw [if_pos ⟨a1, a2⟩] at hl2
          obtain ⟨z1, z2⟩ := ih hn1 hl2
          exact ⟨.inl ⟨a1, a2, z1⟩, z2⟩
        · rw [if_neg (fun z => a2 z.2)] at hl2
          cases hl2
          exact ⟨.inr (.inl ⟨a1, a2, rfl⟩), hn1⟩
      · rw [if_neg (fun z => a1 z.1)] at hl2
        cases hl2
        exact ⟨.inr (.inr ⟨a1, rfl⟩), hn1⟩
    obtain ⟨C2, hn2⟩ := C2
    have C3 : ((d < d + m - r.1 ∧ d + m - r.1 < b ∧ Call tab false 590 [slc bq 0 ver n n, .int .i64 d, .int .i64 (d + m - r.1), .int .i64 b, F] (hp G0 bq ver l2) = some (tup [], hp G0 bq ver l')) ∨ (d < d + m - r.1 ∧ ¬ d + m - r.1 < b ∧ l' = l2) ∨ (¬ d < d + m - r.1 ∧ l' = l2)) ∧ l'.length = n := by
      by_cases a1 : d < d + m - r.1
      · by_cases a2 : d + m - r.1 < b
        · rw [if_pos ⟨a1, a2⟩] at h
          obtain ⟨z1, z2⟩ := ih hn2 h
          exact ⟨.inl ⟨a1, a2, z1⟩, z2⟩
        · rw [if_neg (fun z => a2 z.2)] at h
          cases h
          exact ⟨.inr (.inl ⟨a1, a2, rfl⟩), hn2⟩
      · rw [if_neg (fun z => a1 z.1)] at h
        cases h
        exact ⟨.inr (.inr ⟨a1, rfl⟩), hn2⟩
    obtain ⟨C3, hn3⟩ := C3
    obtain ⟨E, hE⟩ : ∃ E, d + m - r.1 = E := ⟨_, rfl⟩
    rw [hE] at C1 C3 hw6
    by_cases hdm : d < m
    · rw [if_pos hdm] at hs0
      rw [hs0] at loop
      simp [c590, k590, hp_len, w1, h1', w2, h2', v1, v2, v3, v4, w3, w4, w5, hdm, wbOf]
      refine loop _ (by simp) (by simp) (by simp) (by simp) (by simp) (by simp) (by simp) (by simp) (by simp) (by simp) _ _ fun e q0 q1 q2 q3 q4 q18 q19 q20 hr0 hr9 => ?_
      have w6 := hw6 hr0 hr9
      clear loop ih hlp hl1 hl2 h hd hs0 hs9 v1 v2 v3 v4 v5 hd9 hw6
      rcases C1 with ⟨a1, a2, z1⟩ | ⟨a1, a2, rfl⟩ | ⟨a1, rfl⟩ <;> rcases C2 with ⟨b1, b2, z2⟩ | ⟨b1, b2, rfl⟩ | ⟨b1, rfl⟩ <;> rcases C3 with ⟨c1, c2, z3⟩ | ⟨c1, c2, rfl⟩ | ⟨c1, rfl⟩ <;>
        simp [*, hp_take, skip]
    · rw [if_neg hdm] at hs0
      rw [hs0] at loop
      simp [c590, k590, hp_len, w1, h1', w2, h2', v1, v2, v3, v4, w3, w4, w5, hdm, wbOf]
      refine loop _ (by simp) (by simp) (by simp) (by simp) (by simp) (by simp) (by simp) (by simp) (by simp) (by simp) _ _ fun e q0 q1 q2 q3 q4 q18 q19 q20 hr0 hr9 => ?_
      have w6 := hw6 hr0 hr9
      clear loop ih hlp hl1 hl2 h hd hs0 hs9 v1 v2 v3 v4 v5 hd9 hw6
      rcases C1 with ⟨a1, a2, z1⟩ | ⟨a1, a2, rfl⟩ | ⟨a1, rfl⟩ <;> rcases C2 with ⟨b1, b2, z2⟩ | ⟨b1, b2, rfl⟩ | ⟨b1, rfl⟩ <;> rcases C3 with ⟨c1, c2, z3⟩ | ⟨c1, c2, rfl⟩ | ⟨c1, rfl⟩ <;>
        simp [*, hp_take, skip]
theorem insM_in {l l' : ML} {a b : Int} (h : insM l a b = some l') : (0 ≤ a ∧ a ≤ 1000) ∧ 0 ≤ b ∧ b ≤ 1000 := by
  unfold insM at h
  split at h
  · rename_i hg
    simp only [Bool.and_eq_true] at hg
    exact ⟨in9_ok hg.1, in9_ok hg.2⟩
  · cases h
theorem symM_in {f : Nat} {l l' : ML} {a m b : Int} (h : symM f l a m b = some l') : (0 ≤ a ∧ a ≤ 1000) ∧ (0 ≤ m ∧ m ≤ 1000) ∧ 0 ≤ b ∧ b ≤ 1000 := by
  cases f with
  | zero => simp [symM] at h
  | succ f =>
    simp only [symM] at h
    split at h
    · rename_i hg
      simp only [Bool.and_eq_true] at hg
      exact ⟨in9_ok hg.1.1, in9_ok hg.1.2, in9_ok hg.2⟩
    · cases h
theorem call565 {G0 : Heap} {bq ver n : Nat} {F : Value} {l l' : ML} {m : Int} (S : SrtH G0 bq ver n F) (hn : l.length = n) (h : stbM l m = some l') :
    Call tab false 565 [slc bq 0 ver n n, .int .i64 m, F] (hp G0 bq ver l) = some (tup [], hp G0 bq ver l') ∧ l'.length = n := by
  unfold stbM at h
  split at h
  rotate_left
  · cases h
  rename_i hg
  have hm := in9_ok hg
  rw [Option.bind_eq_some_iff] at h
  obtain ⟨r, hlp, h⟩ := h
  rw [Option.bind_eq_some_iff] at h
  obtain ⟨l1, hins, h⟩ := h
  rw [Option.map_eq_some_iff] at h
  obtain ⟨u, hlp3, rfl⟩ := h
  suffices main : ∃ q, Call tab false 565 [slc bq 0 ver n n, .int .i64 m, F] (hp G0 bq ver l) = some q ∧ (q = (tup [], hp G0 bq ver u.1) ∧ u.1.length = n) by
    obtain ⟨q, h1, rfl, h2⟩ := main; exact ⟨h1, h2⟩
  refine Call_ex t565 (.inl rfl) rfl ?_
  simp [c565, k565, hp_len]
  refine WK_sim _ (fun s e G => e 0 = slc bq 0 ver n n ∧ e 1 = .int .i64 m ∧ e 2 = F ∧ e 6 = .int .i64 20 ∧ e 7 = .int .i64 s.2.1 ∧ e 8 = .int .i64 s.2.2 ∧ s.1.length = n ∧ G = hp G0 bq ver s.1) ?_ ?_ hlp ⟨by simp, by simp, by simp, by simp, by simp, by simp, hn, rfl⟩
  · rintro ⟨l, i, j⟩ s' e G _ ⟨h0, h1, h2, h6, h7, h8, hl, rfl⟩ hf
    simp only [] at *
    by_cases hj : j ≤ m
    · rw [if_pos hj, Option.map_eq_some_iff] at hf
      obtain ⟨l2, hi2, hgo⟩ := hf
      cases hgo
      have hb := insM_in hi2
      have w1 : IntKind.wrap .i64 (j + 20) = j + 20 := wrap64 (by omega)
      obtain ⟨r1, r2⟩ := call589 S hl hi2
      simp [b565_1, h0, h1, h2, h6, h7, h8, hj, w1, r1, wbOf]
      exact r2
    · rw [if_neg hj] at hf; cases hf
  · rintro ⟨l, i, j⟩ e G _ ⟨h0, h1, h2, h6, h7, h8, hl, rfl⟩ hf
    simp only [] at *
    by_cases hj : j ≤ m
    · rw [if_pos hj, Option.map_eq_some_iff] at hf
      obtain ⟨l2, hi2, hgo⟩ := hf
      cases hgo
    · rw [if_neg hj] at hf
      cases hf
      obtain ⟨r1, r2⟩ := call589 S hl hins
      simp [b565_1, h0, h1, h2, h6, h7, h8, hj, r1, wbOf]
      refine WK_sim _ (fun s e G => e 0 = slc bq 0 ver n n ∧ e 1 = .int .i64 m ∧ e 2 = F ∧ e 6 = .int .i64 s.2 ∧ s.1.length = n ∧ 0 ≤ s.2 ∧ G = hp G0 bq ver s.1) ?_ ?_ hlp3 ⟨by simp [h0], by simp [h1], by simp [h2], by simp [h6], r2, by simp, rfl⟩
      · rintro ⟨l, k⟩ s' e G _ ⟨h0, h1, h2, h6, hl, hk0, rfl⟩ hf
        simp only [] at *
        by_cases hk : k < m
        · rw [if_pos hk, Option.bind_eq_some_iff] at hf
          obtain ⟨t, hlp2, hf⟩ := hf
          rw [Option.map_eq_some_iff] at hf
          obtain ⟨l3, hl3, hgo⟩ := hf
          cases hgo
          have w1 : IntKind.wrap .i64 (2 * k) = 2 * k := wrap64 (by omega)
          have w2 : IntKind.wrap .i64 (k * 2) = k * 2 := wrap64 (by omega)
          simp [b565_3, h0, h1, h2, h6, hk, w1]
          refine WK_sim _ (fun s e G => e 0 = slc bq 0 ver n n ∧ e 1 = .int .i64 m ∧ e 2 = F ∧ e 6 = .int .i64 k ∧ e 7 = .int .i64 s.2.1 ∧ e 8 = .int .i64 s.2.2 ∧ s.1.length = n ∧ 0 ≤ s.2.1 ∧ s.2.1 ≤ 1000 ∧ G = hp G0 bq ver s.1) ?_ ?_ hlp2 ⟨by simp [h0], by simp [h1], by simp [h2], by simp [h6], by simp, by simp, hl, by simp, by simp, rfl⟩
          · rintro ⟨l, i, j⟩ s' e G _ ⟨h0, h1, h2, h6, h7, h8, hl, hi0, hi9, rfl⟩ hf
            simp only [] at *
            by_cases hj : j ≤ m
            · rw [if_pos hj, Option.map_eq_some_iff] at hf
              obtain ⟨l2, hi2, hgo⟩ := hf
              cases hgo
              have hb := symM_in hi2
              have w3 : IntKind.wrap .i64 (i + k) = i + k := wrap64 (by omega)
              have w4 : IntKind.wrap .i64 (j + 2 * k) = j + 2 * k := wrap64 (by omega)
              obtain ⟨r1, r2⟩ := call590 S _ hl hi2
              simp [b565_2, h0, h1, h2, h6, h7, h8, hj, w1, w3, w4, r1, wbOf]
              exact ⟨r2, hb.2.2⟩
            · rw [if_neg hj] at hf; cases hf
          · rintro ⟨l, i, j⟩ e G _ ⟨h0, h1, h2, h6, h7, h8, hl, hi0, hi9, rfl⟩ hf
            simp only [] at *
            by_cases hj : j ≤ m
            · rw [if_pos hj, Option.map_eq_some_iff] at hf
              obtain ⟨l2, hi2, hgo⟩ := hf
              cases hgo
            · rw [if_neg hj] at hf
              cases hf
              have w3 : IntKind.wrap .i64 (i + k) = i + k := wrap64 (by omega)
              simp only [] at hl3
              by_cases hik : i + k < m
              · rw [if_pos hik] at hl3
                obtain ⟨r1, r2⟩ := call590 S _ hl hl3
                simp [b565_2, h0, h1, h2, h6, h7, h8, hj, hik, w2, w3, r1, wbOf]
                exact ⟨r2, by omega⟩
              · rw [if_neg hik] at hl3
                cases hl3
                simp [b565_2, h0, h1, h2, h6, h7, h8, hj, hik, w2, w3]
                exact ⟨hl, by omega⟩
        · rw [if_neg hk] at hf; cases hf
      · rintro ⟨l, k⟩ e G _ ⟨h0, h1, h2, h6, hl, hk0, rfl⟩ hf
        simp only [] at *
        by_cases hk : k < m
        · rw [if_pos hk, Option.bind_eq_some_iff] at hf
          obtain ⟨t, hlp2, hf⟩ := hf
          rw [Option.map_eq_some_iff] at hf
          obtain ⟨l3, hl3, hgo⟩ := hf
          cases hgo
        · rw [if_neg hk] at hf
          cases hf
          simp [b565_3, h1, h6, hk, hp_take]
          exact hl
theorem call517 {G0 : Heap} {bq ver n : Nat} {F : Value} {l l' : ML} (S : SrtH G0 bq ver n F) (hn : l.length = n) (h : stbM l n = some l') :
    Call tab false 517 [slc bq 0 ver n n, F] (hp G0 bq ver l) = some (tup [], hp G0 bq ver l') ∧ l'.length = n := by
  obtain ⟨h1, h2⟩ := call565 S hn h
  refine ⟨Call_wp t517 (.inl rfl) rfl ?_, h2⟩
  simp [c517, k517, h1, wbOf, hp_len, hp_take]
/- How moves are compared. -/
theorem call516 {pu : Bool} {H : Heap} {a : Int} (h : -1000 ≤ a ∧ a ≤ 1000) : Call tab pu 516 [.int .i64 a] H = some (.int .i64 (szI a), H) := by
  refine Call_wp t516 (.inr rfl) rfl ?_
  have w : IntKind.wrap .i64 (-a) = -a := wrap64 (by omega)
  simp [c516, k516, w]
  rfl
theorem szI_ok {a : Int} (h : -1000 ≤ a ∧ a ≤ 1000) : 0 ≤ szI a ∧ szI a ≤ 1000 := by unfold szI; split <;> omega
theorem smallM_ok {a : Int × Int} (h : smallM a = true) : (-100 ≤ a.1 ∧ a.1 ≤ 100) ∧ -100 ≤ a.2 ∧ a.2 ≤ 100 := by simpa [smallM] using h
theorem call515 {pu : Bool} {H : Heap} {a : Int × Int} (h : smallM a = true) : Call tab pu 515 [agg (mvC a)] H = some (.int .i64 (mkey a), H) := by
  refine Call_wp t515 (.inr rfl) rfl ?_
  obtain ⟨h1, h2⟩ := smallM_ok h
  have w1 : IntKind.wrap .i64 a.1 = a.1 := wrap64 (by omega)
  have w2 : IntKind.wrap .i64 a.2 = a.2 := wrap64 (by omega)
  have z1 := szI_ok (a := a.1) (by omega)
  have z2 := szI_ok (a := a.2) (by omega)
  have w3 : IntKind.wrap .i64 (szI a.1 + szI a.2) = mkey a := by rw [wrap64 (by omega)]; rfl
  have c1 := call516 (pu := true) (H := H) (a := a.1) (by omega)
  have c2 := call516 (pu := true) (H := H) (a := a.2) (by omega)
  simp [c515, k515, mvC, ldc, w1, w2, c1, c2, w3]
theorem call566 {pu : Bool} {H : Heap} {a : Int} : Call tab pu 566 [.int .i64 a] H = some (.bool false, H) := by
  refine Call_wp t566 (.inr rfl) rfl ?_
  simp [c566, k566]
theorem call519 {pu : Bool} {H : Heap} {a b : Int} : Call tab pu 519 [.int .i64 a, .int .i64 b] H = some (.int .i64 (if a < b then -1 else if b < a then 1 else 0), H) := by
  refine Call_wp t519 (.inr rfl) rfl ?_
  have c1 := call566 (pu := true) (H := H) (a := a)
  have c2 := call566 (pu := true) (H := H) (a := b)
  by_cases h1 : a < b
  · simp [c519, k519, c1, c2, h1]
  · by_cases h2 : b < a
    · simp [c519, k519, c1, c2, h1, h2]
    · simp [c519, k519, c1, c2, h1, h2]
theorem call518 {pu : Bool} {H : Heap} {P : Nat} {a b : Int × Int} (hP : rd H P 0 0 1 = some [.func (.func 515) #[] #[]]) (ha : smallM a = true) (hb : smallM b = true) : Call tab pu 518 [agg (mvC a), agg (mvC b), adr P 0 0] H = some (.int .i64 (kcmp a b), H) := by
  refine Call_wp t518 (.inr rfl) rfl ?_
  have c1 := call515 (pu := true) (H := H) ha
  have c2 := call515 (pu := true) (H := H) hb
  have c3 := call519 (pu := true) (H := H) (a := mkey a) (b := mkey b)
  simp [mvC] at c1 c2
  simp [c518, k518, mvC, ldc, hP, c1, c2, c3, callV]
  rfl
/-- The k-th move of the grid. -/
def grE (m k : Nat) : Int × Int := (((k / (2 * m + 1) : Nat) : Int) - m, ((k % (2 * m + 1) : Nat) : Int) - m)
def gridK (m k : Nat) : ML := (List.range k).map (grE m)
theorem gridK_succ {m k : Nat} : gridK m (k + 1) = gridK m k ++ [grE m k] := by simp [gridK, List.range_succ]
theorem gridK_len {m k : Nat} : (gridK m k).length = k := by simp [gridK]
theorem gridK_all : ∀ m, m < 5 → gridK m ((2 * m + 1) * (2 * m + 1)) = gridM m := by decide +kernel
theorem grE_at {m i j : Nat} (hj : j < 2 * m + 1) : grE m (i * (2 * m + 1) + j) = ((i : Int) - m, (j : Int) - m) := by
  unfold grE
  have h1 : (i * (2 * m + 1) + j) / (2 * m + 1) = i := by
    rw [Nat.mul_comm, Nat.mul_add_div (by omega), Nat.div_eq_of_lt hj]; rfl
  have h2 : (i * (2 * m + 1) + j) % (2 * m + 1) = j := by
    rw [Nat.mul_comm, Nat.mul_add_mod, Nat.mod_eq_of_lt hj]
  rw [h1, h2]
theorem stb_all {m : Nat} (h : m ≤ 4) : stbM (gridM m) (gridM m).length = some (farM m) := by
  have : m = 0 ∨ m = 1 ∨ m = 2 ∨ m = 3 ∨ m = 4 := by omega
  rcases this with rfl | rfl | rfl | rfl | rfl
  · exact stb0
  · exact stb1
  · exact stb2
  · exact stb3
  · exact stb4
theorem gridM_len {m : Nat} (h : m ≤ 4) : (gridM m).length = (2 * m + 1) * (2 * m + 1) := by rw [← gridK_all m (by omega), gridK_len]
theorem farM_small : ∀ m : Nat, m < 5 → ((farM m).all smallM && (gridM m).all smallM && decide ((farM m).length = (gridM m).length)) = true := by decide +kernel
theorem mvsC_one {l : ML} {a : Int × Int} : mvsC l ++ mvC a = mvsC (l ++ [a]) := by rw [mvsC_app]; simp [mvsC, rowsC]
theorem room2 {i : Nat} (h : i ≤ 1000000) : (i + 1) * 2 ≤ roomMax := by have : roomMax = 140737488355328 := rfl; omega
theorem call371 {pu : Bool} {H : Heap} {m : Nat} (hm : m ≤ 4) : Call tab pu 371 [.int .i64 (m : Int)] H = some (slc H.length 0 0 (farM m).length (farM m).length, H ++ [⟨mvsC (farM m), 2, 0, false⟩]) := by
  refine Call_wp t371 (.inr rfl) rfl ?_
  obtain ⟨N, hN⟩ : ∃ N, N = 2 * m + 1 := ⟨_, rfl⟩
  have hNN : N * N ≤ 81 := by
    have : N ≤ 9 := by omega
    exact Nat.mul_le_mul this this
  have hgk := gridK_all m (by omega)
  rw [← hN] at hgk
  have w0 : IntKind.wrap .i64 (-(m : Int)) = -(m : Int) := wrap64 (by omega)
  simp [c371, k371, fill, rep, w0]
  refine WK_loop (fun i e G => e 0 = .int .i64 m ∧ e 4 = .int .i64 ((i : Int) - m) ∧ ∃ g, e 3 = g ∧ Gr H G g 2 (i * N) (mvsC (gridK m (i * N)))) N ?_ (Nat.zero_le _) ⟨by simp, by simp, by simp; exact Gr.new .refl⟩
  rintro i e G _ hi ⟨h0, h4, g, h3, hg⟩
  by_cases hiN : i = N
  · rw [hiN] at h4 hg
    have n1 : ¬ ((N : Int) - m ≤ m) := by omega
    rw [hgk] at hg
    obtain ⟨b, ver, rfl, hgb, hbH, hlen, hP⟩ := hg
    have hbG := (List.getElem?_eq_some_iff.1 hgb).1
    have hgl : (gridM m).length = N * N := by rw [gridM_len hm, hN]
    have hfl : (farM m).length = N * N := by
      have := farM_small m (by omega)
      simp only [Bool.and_eq_true, decide_eq_true_eq] at this
      rw [this.2, hgl]
    obtain ⟨G0, hG0⟩ : ∃ G0, G0 = G ++ [(⟨[.func (.func 515) #[] #[]], 1, 0, false⟩ : Blk)] := ⟨_, rfl⟩
    have hwr : wr H.length false (G ++ [⟨[.nilFunc], 1, 0, false⟩]) G.length 0 0 [.func (.func 515) #[] #[]] = some G0 := by
      have := wr_last (n0 := H.length) (wb := false) (H := G) (b := ⟨[.nilFunc], 1, 0, false⟩) (vs := [.func (.func 515) #[] #[]]) rfl rfl hP.len rfl
      rw [this, hG0]
    have hb0 : b < G0.length := by rw [hG0]; simp; omega
    have hg0 : hp G0 b ver (gridM m) = G0 := by
      unfold hp
      refine set_self ?_
      rw [hG0, List.getElem?_append_left hbG]; exact hgb
    have S : SrtH G0 b ver (N * N) (.func (.func 518) #[] #[adr G.length 0 0]) := by
      refine ⟨hb0, by omega, fun l a c _ ha hc => ?_⟩
      have hP : rd (hp G0 b ver l) G.length 0 0 1 = some [.func (.func 515) #[] #[]] := by
        have : (hp G0 b ver l)[G.length]? = some ⟨[.func (.func 515) #[] #[]], 1, 0, false⟩ := by
          unfold hp
          rw [List.getElem?_set_ne (by omega), hG0]; exact get_last
        rw [rd_at this rfl (by simp)]; rfl
      have := call518 (pu := true) hP ha hc
      rw [← this]
      simp [callV]
    have hst := stb_all hm
    rw [hgl] at hst
    obtain ⟨r1, _⟩ := call517 S hgl hst
    rw [hg0] at r1
    have hPG : Pre H G0 := by rw [hG0]; exact hP.app
    have hP2 : Pre H (hp G0 b ver (farM m)) := hPG.set hbH
    have hGr : Gr H (hp G0 b ver (farM m)) (slc b 0 ver (N * N) (N * N)) 2 (N * N) (mvsC (farM m)) := ⟨b, ver, rfl, hp_get hb0, hbH, by rw [mvsC_length, hfl], hP2⟩
    have hfin := hGr.fin mvsC_flat
    rw [hfl]
    have hel : elder H.length false G0 (tup [], hp G0 b ver (farM m)) = some (tup [], hp G0 b ver (farM m)) := elder_pre hPG hP2
    have hcf : cellsOf (.func (.func 515) #[] #[]) = [.func (.func 515) #[] #[]] := rfl
    simp [b371_2, h0, h4, h3, n1, hcf, hwr, wbOf, r1, hel, hfin]
  · have n1 : (i : Int) - m ≤ m := by omega
    have e9 : IntKind.wrap .i64 ((i : Int) - m + 1) = ((i + 1 : Nat) : Int) - m := by rw [wrap64 (by omega)]; omega
    have w1 : IntKind.wrap .i8 ((i : Int) - m) = (i : Int) - m := wrap8 (by omega)
    simp [b371_2, h0, h4, h3, n1, w0]
    refine WK_loop (fun j e G => e 0 = .int .i64 m ∧ e 4 = .int .i64 ((i : Int) - m) ∧ e 5 = .int .i64 ((j : Int) - m) ∧ ∃ g, e 3 = g ∧ Gr H G g 2 (i * N + j) (mvsC (gridK m (i * N + j)))) N ?_ (Nat.zero_le _) ⟨by simp [h0], by simp [h4], by simp, g, by simp [h3], hg⟩
    rintro j e G _ hj ⟨h0, h4, h5, g, h3, hg⟩
    by_cases hjN : j = N
    · rw [hjN] at h5 hg
      have n2 : ¬ ((N : Int) - m ≤ m) := by omega
      simp [b371_1, h0, h4, h5, h3, n2, e9]
      exact ⟨by omega, by rw [Nat.succ_mul]; exact hg⟩
    · have n2 : (j : Int) - m ≤ m := by omega
      have e10 : IntKind.wrap .i64 ((j : Int) - m + 1) = ((j + 1 : Nat) : Int) - m := by rw [wrap64 (by omega)]; omega
      have w2 : IntKind.wrap .i8 ((j : Int) - m) = (j : Int) - m := wrap8 (by omega)
      have hij : i * N + j < N * N := by
        have := mul_next (esz := N) (show i < N by omega)
        omega
      obtain ⟨x', G', hpush, hx'⟩ := hg.push (c := mvC ((i : Int) - m, (j : Int) - m)) (bytes := 2) rfl (room2 (by omega)) (wb := false)
      have hge : grE m (i * N + j) = ((i : Int) - m, (j : Int) - m) := by rw [hN]; exact grE_at (by omega)
      rw [mvsC_one, ← hge, ← gridK_succ] at hx'
      have hfa : fill [.int .i8 0, .int .i8 0] [(0, 1, .int .i8 ((i : Int) - m)), (1, 1, .int .i8 ((j : Int) - m))] = some (mvC ((i : Int) - m, (j : Int) - m)) := rfl
      have hf1 := fill_one (z := [.int .i8 0, .int .i8 0]) (v := agg (mvC ((i : Int) - m, (j : Int) - m))) (esz := 2) rfl rfl
      simp [b371_1, h0, h4, h5, h3, n2, w1, w2, hfa, hf1, hpush, wbOf, e10]
      exact ⟨by omega, hx'⟩
theorem call549 {pu : Bool} {H : Heap} {a b : Int} : Call tab pu 549 [.int .i64 a, .int .i64 b] H = some (.int .i64 (if b < a then a else b), H) := by
  refine Call_wp t549 (.inr rfl) rfl ?_
  by_cases h : b < a
  · simp [c549, k549, h]
  · simp [c549, k549, h]
theorem szI_max {a : Int} : (if -a < a then a else -a) = szI a := by unfold szI; split <;> split <;> omega
theorem call510 {pu : Bool} {H : Heap} {a : Int × Int} (h : smallM a = true) : Call tab pu 510 [agg (mvC a)] H = some (.int .i64 (mkey a), H) := by
  refine Call_wp t510 (.inr rfl) rfl ?_
  obtain ⟨h1, h2⟩ := smallM_ok h
  have w1 : IntKind.wrap .i64 a.1 = a.1 := wrap64 (by omega)
  have w2 : IntKind.wrap .i64 a.2 = a.2 := wrap64 (by omega)
  have w4 : IntKind.wrap .i64 (-a.1) = -a.1 := wrap64 (by omega)
  have w5 : IntKind.wrap .i64 (-a.2) = -a.2 := wrap64 (by omega)
  have z1 := szI_ok (a := a.1) (by omega)
  have z2 := szI_ok (a := a.2) (by omega)
  have w3 : IntKind.wrap .i64 (szI a.1 + szI a.2) = mkey a := by rw [wrap64 (by omega)]; rfl
  have c1 := call549 (pu := true) (H := H) (a := a.1) (b := -a.1)
  have c2 := call549 (pu := true) (H := H) (a := a.2) (b := -a.2)
  rw [szI_max] at c1 c2
  simp [c510, k510, mvC, ldc, w1, w2, w4, w5, c1, c2, w3]
/-- The moves, nearest first, while they are being gathered. -/
def farD (m d : Nat) : ML := (List.range d).flatMap fun (d : Nat) => (gridM m).filter fun a => decide (mkey a = d)
def farP (m d k : Nat) : ML := farD m d ++ (gridK m k).filter fun a => decide (mkey a = d)
theorem farP_zero {m d : Nat} : farP m d 0 = farD m d := by simp [farP, gridK]
theorem farP_succ {m d k : Nat} : farP m d (k + 1) = if mkey (grE m k) = d then farP m d k ++ [grE m k] else farP m d k := by
  unfold farP
  rw [gridK_succ, List.filter_append]
  by_cases h : mkey (grE m k) = d
  · rw [if_pos h]; simp [h]
  · rw [if_neg h]; simp [h]
theorem farP_all {m d : Nat} (hm : m ≤ 4) : farP m d ((2 * m + 1) * (2 * m + 1)) = farD m (d + 1) := by
  unfold farP farD
  rw [gridK_all m (by omega), List.range_succ, List.flatMap_append]; simp
theorem farD_all {m : Nat} : farD m (2 * m + 1) = farM m := by
  unfold farD farM
  have : (2 * (m : Int) + 1).toNat = 2 * m + 1 := by omega
  rw [this]
theorem farP_len {m d k : Nat} (hm : m ≤ 4) (hd : d ≤ 2 * m) (hk : k ≤ (2 * m + 1) * (2 * m + 1)) : (farP m d k).length ≤ 1000 := by
  have hN : 2 * m + 1 ≤ 9 := by omega
  have h0 : (2 * m + 1) * (2 * m + 1) ≤ 81 := Nat.mul_le_mul hN hN
  have h1 : ∀ d, d ≤ 9 → (farD m d).length ≤ d * 81 := by
    intro d
    induction d with
    | zero => intro _; simp [farD]
    | succ d ih =>
      intro hd
      have := ih (by omega)
      have e : farD m (d + 1) = farD m d ++ (gridM m).filter fun a => decide (mkey a = d) := by unfold farD; rw [List.range_succ, List.flatMap_append]; simp
      have h2 := List.length_filter_le (fun a => decide (mkey a = (d : Int))) (gridM m)
      have h3 := gridM_len hm
      rw [e, List.length_append]
      omega
  have h2 := h1 d (by omega)
  have h3 := List.length_filter_le (fun a => decide (mkey a = (d : Int))) (gridK m k)
  rw [gridK_len] at h3
  unfold farP
  rw [List.length_append]
  omega
theorem grE_small {m i j : Nat} (hm : m ≤ 4) (hi : i < 2 * m + 1) (hj : j < 2 * m + 1) : smallM ((i : Int) - m, (j : Int) - m) = true := by
  simp [smallM]; omega
theorem call354 {pu : Bool} {H : Heap} {m : Nat} (hm : m ≤ 4) : Call tab pu 354 [.int .i64 (m : Int)] H = some (slc H.length 0 0 (farM m).length (farM m).length, H ++ [⟨mvsC (farM m), 2, 0, false⟩]) := by
  refine Call_wp t354 (.inr rfl) rfl ?_
  obtain ⟨N, hN⟩ : ∃ N, N = 2 * m + 1 := ⟨_, rfl⟩
  have w0 : IntKind.wrap .i64 (-(m : Int)) = -(m : Int) := wrap64 (by omega)
  have w1 : IntKind.wrap .i64 (2 * (m : Int)) = 2 * (m : Int) := wrap64 (by omega)
  simp [c354, k354, fill, rep]
  refine WK_loop (fun d e G => e 0 = .int .i64 m ∧ e 4 = .int .i64 (d : Int) ∧ ∃ g, e 3 = g ∧ Gr H G g 2 (farD m d).length (mvsC (farD m d))) N ?_ (Nat.zero_le _) ⟨by simp, by simp, by simp; exact Gr.new .refl⟩
  rintro d e G _ hd ⟨h0, h4, g, h3, hg⟩
  by_cases hdN : d = N
  · rw [hdN] at h4 hg
    have n1 : ¬ ((N : Int) ≤ 2 * m) := by omega
    rw [hN, farD_all] at hg
    have hfin := hg.fin mvsC_flat
    simp [b354_3, h0, h4, h3, w1, n1, hfin]
  · have n1 : (d : Int) ≤ 2 * m := by omega
    have e9 : IntKind.wrap .i64 ((d : Int) + 1) = ((d + 1 : Nat) : Int) := by rw [wrap64 (by omega)]; omega
    simp [b354_3, h0, h4, h3, w1, n1, w0]
    refine WK_loop (fun i e G => e 0 = .int .i64 m ∧ e 4 = .int .i64 (d : Int) ∧ e 5 = .int .i64 ((i : Int) - m) ∧ ∃ g, e 3 = g ∧ Gr H G g 2 (farP m d (i * N)).length (mvsC (farP m d (i * N)))) N ?_ (Nat.zero_le _) ⟨by simp [h0], by simp [h4], by simp, g, by simp [h3], by rw [Nat.zero_mul, farP_zero]; exact hg⟩
    rintro i e G _ hi ⟨h0, h4, h5, g, h3, hg⟩
    by_cases hiN : i = N
    · rw [hiN] at h5 hg
      have n2 : ¬ ((N : Int) - m ≤ m) := by omega
      have hfa := farP_all (m := m) (d := d) hm
      rw [← hN] at hfa
      rw [hfa] at hg
      simp [b354_2, h0, h4, h5, h3, n2, e9]
      exact ⟨by omega, hg⟩
    · have n2 : (i : Int) - m ≤ m := by omega
      have e10 : IntKind.wrap .i64 ((i : Int) - m + 1) = ((i + 1 : Nat) : Int) - m := by rw [wrap64 (by omega)]; omega
      have w2 : IntKind.wrap .i8 ((i : Int) - m) = (i : Int) - m := wrap8 (by omega)
      simp [b354_2, h0, h4, h5, h3, n2, w0]
      refine WK_loop (fun j e G => e 0 = .int .i64 m ∧ e 4 = .int .i64 (d : Int) ∧ e 5 = .int .i64 ((i : Int) - m) ∧ e 6 = .int .i64 ((j : Int) - m) ∧ ∃ g, e 3 = g ∧ Gr H G g 2 (farP m d (i * N + j)).length (mvsC (farP m d (i * N + j)))) N ?_ (Nat.zero_le _) ⟨by simp [h0], by simp [h4], by simp [h5], by simp, g, by simp [h3], hg⟩
      rintro j e G _ hj ⟨h0, h4, h5, h6, g, h3, hg⟩
      by_cases hjN : j = N
      · rw [hjN] at h6 hg
        have n3 : ¬ ((N : Int) - m ≤ m) := by omega
        simp [b354_1, h0, h4, h5, h6, h3, n3, e10]
        exact ⟨by omega, by rw [Nat.succ_mul]; exact hg⟩
      · have n3 : (j : Int) - m ≤ m := by omega
        have e11 : IntKind.wrap .i64 ((j : Int) - m + 1) = ((j + 1 : Nat) : Int) - m := by rw [wrap64 (by omega)]; omega
        have w3 : IntKind.wrap .i8 ((j : Int) - m) = (j : Int) - m := wrap8 (by omega)
        have hij : i * N + j < N * N := by
          have := mul_next (esz := N) (show i < N by omega)
          omega
        have hle := farP_len (m := m) (d := d) (k := i * N + j) hm (by omega) (by rw [← hN]; omega)
        have hsu := farP_succ (m := m) (d := d) (k := i * N + j)
        have hge : grE m (i * N + j) = ((i : Int) - m, (j : Int) - m) := by rw [hN]; exact grE_at (by omega)
        rw [hge] at hsu
        have hc := call510 (pu := true) (H := G) (a := ((i : Int) - m, (j : Int) - m)) (grE_small hm (by omega) (by omega))
        have hfa : fill [.int .i8 0, .int .i8 0] [(0, 1, .int .i8 ((i : Int) - m)), (1, 1, .int .i8 ((j : Int) - m))] = some (mvC ((i : Int) - m, (j : Int) - m)) := rfl
        have hst : stc (agg [.int .i8 0, .int .i8 0]) 0 (mvC ((i : Int) - m, (j : Int) - m)) = some (agg (mvC ((i : Int) - m, (j : Int) - m))) := stc2c
        have hld : ldc 2 true (agg (mvC ((i : Int) - m, (j : Int) - m))) 0 = some (agg (mvC ((i : Int) - m, (j : Int) - m))) := ldc2c
        by_cases hk : mkey ((i : Int) - m, (j : Int) - m) = d
        · rw [if_pos hk] at hsu
          rw [hk] at hc
          obtain ⟨x', G', hpush, hx'⟩ := hg.push (c := mvC ((i : Int) - m, (j : Int) - m)) (bytes := 2) rfl (room2 (by omega)) (wb := false)
          rw [mvsC_one, ← hsu] at hx'
          have hl : (farP m d (i * N + j)).length + 1 = (farP m d (i * N + j + 1)).length := by rw [hsu]; simp
          rw [hl] at hx'
          have hf1 := fill_one (z := [.int .i8 0, .int .i8 0]) (v := agg (mvC ((i : Int) - m, (j : Int) - m))) (esz := 2) rfl rfl
          simp [b354_1, h0, h4, h5, h6, h3, n3, w2, w3, hfa, hst, hld, mvC_len, hc, hf1, hpush, wbOf, e11]
          exact ⟨by omega, hx'⟩
        · rw [if_neg hk] at hsu
          have hk' : (mkey ((i : Int) - m, (j : Int) - m) == (d : Int)) = false := by simpa using hk
          simp [b354_1, h0, h4, h5, h6, h3, n3, w2, w3, hfa, hst, hld, mvC_len, hc, hk', e11]
          exact ⟨by omega, by rw [← Nat.add_assoc, hsu]; exact hg⟩
/- The best of them. -/
theorem shF_zero {f : List Int} (hw : FrW f) (hk : okF f = true) : shF f 0 0 = f := by
  refine list12 shF_length hw.len fun y hy => ?_
  have hu := hw.nth hy
  obtain ⟨n, hn⟩ := Int.eq_ofNat_of_zero_le hu.1
  have hr : okRow (nth f y) = true := List.all_eq_true.1 (show f.all okRow = true from hk) _ (nth_mem (by rw [hw.len]; exact hy))
  have h9 : n ≤ 4095 := by
    have : nth f y ≤ 4095 := by simpa [okRow] using hr
    omega
  have := mvR_shl (f := f) (d := 0) (y := y) (n := n) (dy := 0) hy (by omega) (by rw [← hn]; congr 1)
  unfold mvR at this
  rw [hn]
  rw [show ((0 : Nat) : Int) = 0 from rfl] at this
  rw [this]
  have : n * 2 ^ 0 % 4096 = n := by omega
  rw [this]
theorem ldM {m : Int × Int} : ldc 2 true (agg (mvC m)) 0 = some (agg (mvC m)) := ldc2c
theorem farM_ok' : ∀ m : Nat, m < 5 → ((farM m).all smallM && decide (1 ≤ (farM m).length) && decide ((farM m).length ≤ 1000) && decide (mv (farM m) 0 = (0, 0))) = true := by decide +kernel
theorem farM_ok {m : Nat} (hm : m ≤ 4) : (∀ i, i < (farM m).length → smallM (mv (farM m) i) = true) ∧ 1 ≤ (farM m).length ∧ (farM m).length ≤ 1000 ∧ mv (farM m) 0 = (0, 0) := by
  have := farM_ok' m (by omega)
  simp only [Bool.and_eq_true, decide_eq_true_eq] at this
  exact ⟨fun i hi => List.all_eq_true.1 this.1.1.1 _ (at0_mem hi), this.1.1.2, this.1.2, this.2⟩
theorem call514 {pu : Bool} {H : Heap} {f : List Int} {a : Int × Int} (hw : FrW f) (hk : okF f = true) (ha : smallM a = true) : Call tab pu 514 [iv .u16 f, agg (mvC a)] H = some (iv .u16 (shF f a.1 a.2), H) := by
  refine Call_wp t514 (.inr rfl) rfl ?_
  obtain ⟨h1, h2⟩ := smallM_ok ha
  have w1 : IntKind.wrap .i64 a.1 = a.1 := wrap64 (by omega)
  have w2 : IntKind.wrap .i64 a.2 = a.2 := wrap64 (by omega)
  have hc := call358 (pu := true) (H := H) (dx := a.1) (dy := a.2) hw hk (by omega) (by omega)
  simp [c514, k514, hw.len, mvC, ldc2, ldc2b, w1, w2, hc, zs_cs, agg_cs, stc_zr, shF_length]
theorem fill_two {f g : List Int} (hw : f.length = 12) (hwg : g.length = 12) : fill (rep 2 (cs .u16 (zr 12 0))) [(0, 12, iv .u16 f), (12, 12, iv .u16 g)] = some (bkC [f, g]) := by
  have l1 : (cs .u16 f).length = 12 := by simp [hw]
  have l2 : (cs .u16 g).length = 12 := by simp [hwg]
  have lz : (cs .u16 (zr 12 0)).length = 12 := by simp
  have e0 : rep 2 (cs .u16 (zr 12 0)) = cs .u16 (zr 12 0) ++ cs .u16 (zr 12 0) := by simp [rep]
  rw [e0]
  generalize cs IntKind.u16 (zr 12 0) = Z at *
  show (if (cs .u16 f).length = 12 ∧ 0 + 12 ≤ (Z ++ Z).length then fill (splice (Z ++ Z) 0 (cs .u16 f)) [(12, 12, iv .u16 g)] else none) = _
  rw [if_pos ⟨l1, by simp [lz]⟩]
  have e1 : splice (Z ++ Z) 0 (cs .u16 f) = cs .u16 f ++ Z := by
    unfold splice
    rw [l1, List.take_zero, List.nil_append, List.drop_append_of_le_length (by omega), List.drop_eq_nil_of_le (by omega), List.nil_append]
  rw [e1]
  show (if (cs .u16 g).length = 12 ∧ 12 + 12 ≤ (cs .u16 f ++ Z).length then fill (splice (cs .u16 f ++ Z) 12 (cs .u16 g)) [] else none) = _
  rw [if_pos ⟨l2, by simp [lz, hw]⟩]
  have e2 : splice (cs .u16 f ++ Z) 12 (cs .u16 g) = cs .u16 f ++ cs .u16 g := by
    unfold splice
    rw [l2, List.take_append_of_le_length (by omega), List.take_of_length_le (by omega), List.drop_eq_nil_of_le (by simp [lz, hw]), List.append_nil]
  rw [e2]
  simp [fill, bkC, rowsC, frC]
/-- Two frames in a list of their own, held against the rule. -/
theorem two351 {H : Heap} {f g : List Int} (hw : FrW f) (hwg : FrW g) : Call tab true 351 [slc H.length 0 0 2 2] (H ++ [⟨bkC [f, g], 12, 0, false⟩]) = some (.bool (okF f && okF g), H ++ [⟨bkC [f, g], 12, 0, false⟩]) := by
  have hBW : BkW [f, g] := by
    intro x hx
    rcases List.mem_cons.1 hx with rfl | hx
    · exact hw
    · rcases List.mem_cons.1 hx with rfl | hx
      · exact hwg
      · cases hx
  have hbk : Bk (H ++ [⟨bkC [f, g], 12, 0, false⟩]) (slc H.length 0 0 2 2) [f, g] := (own_new (H := H) (esz := 12) (n := 2) (vs := bkC [f, g]) (by rw [bkC_length hBW]; rfl)).sl
  have hc := call351 (pu := true) hbk hBW (by simp)
  have hok : okFs [f, g] = (okF f && okF g) := by simp [okFs]
  rw [hok] at hc
  exact hc
theorem call369 {pu : Bool} {H : Heap} {m : Int} : Call tab pu 369 [.int .i64 m] H = some (.bool (in1 m 0 4), H) := by
  refine Call_wp t369 (.inr rfl) rfl ?_
  simp [c369, k369, in295]
theorem call353 {pu : Bool} {H : Heap} {m : Int} : Call tab pu 353 [.int .i64 m] H = some (.bool (in1 m 0 4), H) := by
  refine Call_wp t353 (.inr rfl) rfl ?_
  simp [c353, k353, in304]
theorem in1_nat {m : Int} (h : in1 m 0 4 = true) : ∃ n : Nat, m = n ∧ n ≤ 4 := by
  simp [in1] at h
  obtain ⟨n, rfl⟩ := Int.eq_ofNat_of_zero_le h.1
  exact ⟨n, rfl, by omega⟩
theorem own_nil {H : Heap} {esz : Nat} : Own H (.slice none 0 0) none H.length esz 0 [] := ⟨by simp, rfl, rfl⟩
theorem SlR.cells {H : Heap} {x : Value} {esz n : Nat} {vs : List Value} (h : SlR H x esz n vs) : cellsOf x = [x] := by
  rcases h.is with ⟨rfl, _⟩ | ⟨b, off, ver, cap, rfl, _⟩ <;> rfl
def cpP (b c : List (List Int)) (a : Int × Int) (p : Nat) : Bool := allN (fun i => decide (fr b (p + i) = shF (fr c i) a.1 a.2)) c.length
theorem call509 {pu : Bool} {G : Heap} {x y : Value} {b c : List (List Int)} {p : Nat} {a : Int × Int} (hb : Bk G x b) (hw : BkW b) (hc : Bk G y c) (hwc : BkW c) (hok : okFs c = true) (hn : b.length ≤ 1000) (hp : p + c.length ≤ b.length) (ha : smallM a = true) :
    Call tab pu 509 [x, .int .i64 (p : Int), y, agg (mvC a)] G = some (.bool (cpP b c a p), G) := by
  refine Call_wp t509 (.inr rfl) rfl ?_
  simp [c509, k509, SlR.lenV hc]
  refine WP_forH 13 c.length _ rfl (by omega) (fun i e => e 0 = x ∧ e 1 = .int .i64 p ∧ e 7 = agg (mvC a) ∧ e 11 = y ∧ e 12 = .int .i64 c.length ∧ ∀ j, j < i → decide (fr b (p + j) = shF (fr c j) a.1 a.2) = true) ?_ ?_ (by simp) ⟨by simp, by simp, by simp, by simp, by simp, fun j hj => by omega⟩
  · rintro i e hi hii e4 h13 ⟨h0, h1, h7, h11, h12, hj⟩
    obtain ⟨q, off, ver, ha1, hr1⟩ := Bk.get hc hwc hi
    obtain ⟨q2, off2, ver2, ha2, hr2⟩ := Bk.get hb hw (i := p + i) (by omega)
    have e5 : IntKind.wrap .i64 ((p : Int) + (i : Int)) = ((p + i : Nat) : Int) := by rw [wrap64 (by omega)]; omega
    have hfW := hwc.fr hi
    have hgl := (hw.fr (i := p + i) (by omega)).len
    have h514 := call514 (pu := true) (H := G) hfW (okFs_get hok hi) ha
    have hsl : (shF (fr c i) a.1 a.2).length = 12 := shF_length
    have hev := eqV_iv (k := .u16) hgl hsl
    cases hd : decide (fr b (p + i) = shF (fr c i) a.1 a.2) with
    | true =>
      rw [hd] at hev
      simp [b509_1, h13, h0, h1, h7, h11, h12, hii, ha1, hr1, zs_cs, agg_cs, hfW.len, stc_zr, ldM, h514, e5, ha2, hr2, hev, e4, -decide_eq_true_eq, -decide_eq_false_iff_not, -Int.natCast_add]
      exact upto_succ hj hd
    | false =>
      have : cpP b c a p = false := allN_false hi hd
      rw [hd] at hev
      simp [b509_1, h13, h0, h1, h7, h11, h12, hii, ha1, hr1, zs_cs, agg_cs, hfW.len, stc_zr, ldM, h514, e5, ha2, hr2, hev, this, -decide_eq_true_eq, -decide_eq_false_iff_not, -Int.natCast_add]
  · rintro e h13 ⟨h0, h1, h7, h11, h12, hj⟩
    have : cpP b c a p = true := allN_true hj
    simp [b509_1, h13, h12, this]
theorem s507 : tab 507 = some (.fn (ixFC 2 true)) := t507
/-- Which move is the first one that makes a copy at p. -/
def mcJ (b c : List (List Int)) (m p : Nat) : Int := findN (fun j => cpP b c (mv (farM m) j) p) (farM m).length
def mcS (b c : List (List Int)) (m p : Nat) (s : List Int × ML) : List Int × ML := if 0 ≤ mcJ b c m p then (s.1 ++ [(p : Int)], s.2 ++ [mv (farM m) (mcJ b c m p).toNat]) else s
def mcK (b c : List (List Int)) (m k : Nat) : List Int × ML := itN (mcS b c m) ([], []) k
theorem mcK_zero {b c : List (List Int)} {m : Nat} : mcK b c m 0 = ([], []) := itN_zero
theorem mcK_succ {b c : List (List Int)} {m k : Nat} : mcK b c m (k + 1) = mcS b c m k (mcK b c m k) := itN_succ
theorem mcK_len {b c : List (List Int)} {m k : Nat} : (mcK b c m k).1.length ≤ k ∧ (mcK b c m k).2.length = (mcK b c m k).1.length := by
  induction k with
  | zero => rw [mcK_zero]; simp
  | succ k ih =>
    rw [mcK_succ, mcS]
    split
    · simp [ih.2]; omega
    · exact ⟨by omega, ih.2⟩
theorem findN_lt {p : Nat → Bool} {n : Nat} : findN p n = -1 ∨ ∃ i : Nat, findN p n = i ∧ i < n := by
  unfold findN
  cases h : (List.range n).find? p with
  | none => exact .inl rfl
  | some i => exact .inr ⟨i, rfl, by simpa using List.mem_of_find?_eq_some h⟩
theorem fin_two {H G : Heap} {b1 b2 : Nat} {x y : Value} {e1 e2 n1 n2 : Nat} {vs ws : List Value} {c : Int} (g1 : GrB H G b1 x e1 n1 vs) (g2 : GrB H G b2 y e2 n2 ws) (hne : b1 ≠ b2) (h1 : NoRef vs) (h2 : NoRef ws) :
    finish H.length G [x, y, .int .i64 c] = (tup [slc H.length 0 0 n1 n1, slc (H.length + 1) 0 0 n2 n2, .int .i64 c], H ++ [⟨vs, e1, 0, false⟩, ⟨ws, e2, 0, false⟩]) := by
  obtain ⟨v1, rfl, q1, l1, z1, p1⟩ := g1
  obtain ⟨v2, rfl, q2, l2, z2, _⟩ := g2
  have o1 : old1 H.length (slc b1 0 v1 n1 n1) = false := by
    show (true && decide (b1 < H.length)) = false
    simp; omega
  have o2 : old1 H.length (slc b2 0 v2 n2 n2) = false := by
    show (true && decide (b2 < H.length)) = false
    simp; omega
  have a1 : vs.all (old0 H.length) = true := h1.all
  have a2 : ws.all (old0 H.length) = true := h2.all
  have hc : ([b1] : List Nat).contains b2 = false := by
    rw [List.contains_eq_mem]; simp; exact Ne.symm hne
  have s2 : pack H.length G [slc b2 0 v2 n2 n2, .int .i64 c] [b1] [⟨vs, e1, 0, false⟩] = some ([slc (H.length + 1) 0 0 n2 n2, .int .i64 c], [⟨vs, e1, 0, false⟩, ⟨ws, e2, 0, false⟩]) := by
    rw [pack, if_neg (by rw [o2]; decide)]
    show (match G[b2]? with
      | some k => if ([b1] : List Nat).contains b2 = false ∧ v2 = k.ver ∧ k.ro = false ∧ k.cells.all (old0 H.length) = true then (pack H.length G [.int .i64 c] (b2 :: [b1]) ([(⟨vs, e1, 0, false⟩ : Blk)] ++ [{ k with ver := 0 }])).map fun (q : List Value × List Blk) => (slc (H.length + ([(⟨vs, e1, 0, false⟩ : Blk)] : List Blk).length) 0 0 n2 n2 :: q.1, q.2) else none
      | none => none) = _
    rw [q2]
    simp only []
    rw [if_pos ⟨hc, by simp, by simp, a2⟩, pack_all (by simp)]; rfl
  have s1 : pack H.length G [slc b1 0 v1 n1 n1, slc b2 0 v2 n2 n2, .int .i64 c] [] [] = some ([slc H.length 0 0 n1 n1, slc (H.length + 1) 0 0 n2 n2, .int .i64 c], [⟨vs, e1, 0, false⟩, ⟨ws, e2, 0, false⟩]) := by
    rw [pack, if_neg (by rw [o1]; decide)]
    show (match G[b1]? with
      | some k => if ([] : List Nat).contains b1 = false ∧ v1 = k.ver ∧ k.ro = false ∧ k.cells.all (old0 H.length) = true then (pack H.length G [slc b2 0 v2 n2 n2, .int .i64 c] (b1 :: []) ([] ++ [{ k with ver := 0 }])).map fun (q : List Value × List Blk) => (slc (H.length + ([] : List Blk).length) 0 0 n1 n1 :: q.1, q.2) else none
      | none => none) = _
    rw [q1]
    simp only []
    rw [if_pos ⟨by simp, by simp, by simp, a1⟩]
    show (pack H.length G [slc b2 0 v2 n2 n2, .int .i64 c] [b1] [⟨vs, e1, 0, false⟩]).map _ = _
    rw [s2]; rfl
  rw [finish_some s1, p1.take]; rfl
def mcC (b c : List (List Int)) (m : Int) : Int := if (okB b && okB c) = true then if (in1 m 0 4 && !((c.length : Int) == 0)) = true then 0 else 2 else 1
/-- How many places there are. -/
def mcN (b c : List (List Int)) : Nat := b.length + 1 - c.length
def mcR (b c : List (List Int)) (m : Int) : List Int × ML := if mcC b c m = 0 then mcK b c m.toNat (mcN b c) else ([], [])
theorem GrB.pr {H G : Heap} {b : Nat} {x : Value} {esz n : Nat} {vs : List Value} (g : GrB H G b x esz n vs) : Pre H G := by obtain ⟨_, _, _, _, _, p⟩ := g; exact p
theorem GrB.ltG {H G : Heap} {b : Nat} {x : Value} {esz n : Nat} {vs : List Value} (g : GrB H G b x esz n vs) : b < G.length := by obtain ⟨_, _, h, _, _, _⟩ := g; exact (List.getElem?_eq_some_iff.1 h).1
theorem GrB.kept {H G G' : Heap} {b : Nat} {x : Value} {esz n : Nat} {vs : List Value} (g : GrB H G b x esz n vs) (h : G'[b]? = G[b]?) (p : Pre H G') : GrB H G' b x esz n vs := by
  obtain ⟨ver, e, h1, h2, h3, _⟩ := g
  exact ⟨ver, e, by rw [h]; exact h1, h2, h3, p⟩
theorem GrB.onto {H G G' : Heap} {b : Nat} {x : Value} {esz n : Nat} {vs : List Value} (g : GrB H G b x esz n vs) (p : Pre G G') : GrB H G' b x esz n vs := g.kept (p.get g.ltG) (g.pr.trans p)
theorem GrB.mk' {H G : Heap} {b : Nat} {esz : Nat} (h : G[b]? = some ⟨[], esz, 0, false⟩) (hb : H.length ≤ b) (p : Pre H G) : GrB H G b (slc b 0 0 0 0) esz 0 [] := ⟨0, rfl, h, hb, by simp, p⟩
theorem call508 {pu : Bool} {G : Heap} {x y : Value} {b c : List (List Int)} {p P1 P2 P3 : Nat} {a : Int × Int} (h1 : rd G P1 0 0 1 = some [x]) (h2 : rd G P2 0 0 1 = some [.int .i64 (p : Int)]) (h3 : rd G P3 0 0 1 = some [y])
    (hb : Bk G x b) (hw : BkW b) (hc : Bk G y c) (hwc : BkW c) (hok : okFs c = true) (hn : b.length ≤ 1000) (hp : p + c.length ≤ b.length) (ha : smallM a = true) :
    Call tab pu 508 [agg (mvC a), adr P1 0 0, adr P2 0 0, adr P3 0 0] G = some (.bool (cpP b c a p), G) := by
  refine Call_wp t508 (.inr rfl) rfl ?_
  have h := call509 (pu := true) hb hw hc hwc hok hn hp ha
  simp [c508, k508, h1, h2, h3, ldM, h]
theorem rdCell {G : Heap} {P : Nat} {v : Value} {e : Nat} (h : G[P]? = some ⟨[v], e, 0, false⟩) : rd G P 0 0 1 = some [v] := by rw [rd_at h rfl (by simp)]; rfl
theorem mcC_ok {b c : List (List Int)} {m : Int} (h : mcC b c m = 0) : okB b = true ∧ okB c = true ∧ c.length ≠ 0 ∧ ∃ n : Nat, m = n ∧ n ≤ 4 := by
  unfold mcC at h
  split at h
  · rename_i h1
    split at h
    · rename_i h2
      simp only [Bool.and_eq_true] at h1 h2
      exact ⟨h1.1, h1.2, by simpa using h2.2, in1_nat h2.1⟩
    · omega
  · omega
/-- What 352 hands back. -/
def RsM (H : Heap) (r : Value × Heap) (q : List Int × ML) (c : Int) : Prop :=
  (c ≠ 0 ∧ r = (tup [.slice none 0 0, .slice none 0 0, .int .i64 c], H)) ∨
  (c = 0 ∧ r = (tup [slc H.length 0 0 q.1.length q.1.length, slc (H.length + 1) 0 0 q.1.length q.1.length, .int .i64 c], H ++ [⟨cs .i64 q.1, 1, 0, false⟩, ⟨mvsC q.2, 2, 0, false⟩]))
theorem call352 {pu : Bool} {b c : List (List Int)} {m : Int} (hw : BkW b) (hwc : BkW c) (hn : b.length ≤ 1000000) (hnc : c.length ≤ 1000000) {H : Heap} {x y : Value} (h : Bk H x b) (hy : Bk H y c) :
    ∃ r, Call tab pu 352 [x, y, .int .i64 m] H = some r ∧ RsM H r (mcR b c m) (mcC b c m) := by
  refine Call_ex t352 (.inr rfl) rfl ?_
  have hcx := SlR.cells h
  have hcy := SlR.cells hy
  obtain ⟨N, hN⟩ : ∃ N, N = H.length := ⟨_, rfl⟩
  obtain ⟨G1, hG1⟩ : ∃ G1, G1 = H ++ [(⟨[x], 1, 0, false⟩ : Blk), ⟨[y], 1, 0, false⟩] := ⟨_, rfl⟩
  have p1 : Pre H G1 := by rw [hG1]; exact ⟨_, rfl⟩
  have l1 : G1.length = N + 2 := by rw [hG1, hN]; simp
  have gx : G1[N]? = some ⟨[x], 1, 0, false⟩ := by rw [hG1, hN]; simp
  have gy : G1[N + 1]? = some ⟨[y], 1, 0, false⟩ := by rw [hG1, hN]; simp
  have rx := rdCell gx
  have ry := rdCell gy
  have h1 := call316 (pu := true) (SlR.pre p1 h) hw (by omega)
  have h2 := call316 (pu := true) (SlR.pre p1 hy) hwc (by omega)
  have hnil : ∀ k : Int, mcC b c m = k → k ≠ 0 → RsM H (tup [.slice none 0 0, .slice none 0 0, .int .i64 k], G1.take H.length) (mcR b c m) (mcC b c m) := fun k hk h0 => by
    rw [hk, p1.take]
    exact .inl ⟨h0, rfl⟩
  cases k1 : okB b with
  | false =>
    have q := hnil 1 (by simp [mcC, k1]) (by omega)
    simp [c352, k352, hcx, hcy, ← hN, ← hG1, rx, h1, k1, skip]
    rw [hN]
    exact q
  | true =>
    cases k2 : okB c with
    | false =>
      have q := hnil 1 (by simp [mcC, k1, k2]) (by omega)
      simp [c352, k352, hcx, hcy, ← hN, ← hG1, rx, ry, h1, k1, h2, k2]
      rw [hN]
      exact q
    | true =>
      cases k3 : in1 m 0 4 with
      | false =>
        have q := hnil 2 (by simp [mcC, k1, k2, k3]) (by omega)
        simp [c352, k352, hcx, hcy, ← hN, ← hG1, rx, ry, h1, k1, h2, k2, call369, k3, skip]
        rw [hN]
        exact q
      | true =>
        cases k4 : ((c.length : Int) == 0) with
        | true =>
          have q := hnil 2 (by simp only [mcC, k1, k2, k3, k4]; rfl) (by omega)
          simp [c352, k352, hcx, hcy, ← hN, ← hG1, rx, ry, h1, k1, h2, k2, call369, k3, SlR.lenV hy, k4]
          rw [hN]
          exact q
        | false =>
          have hC : mcC b c m = 0 := by simp only [mcC, k1, k2, k3, k4]; rfl
          obtain ⟨_, _, hc0, n, rfl, hm⟩ := mcC_ok hC
          obtain ⟨hokb, hlb⟩ := okB_fs2 k1
          obtain ⟨hokc, hlc⟩ := okB_fs2 k2
          obtain ⟨hs, hn1, hn9, h00⟩ := farM_ok hm
          obtain ⟨G2, hG2⟩ : ∃ G2, G2 = G1 ++ [(⟨[], 1, 0, false⟩ : Blk), ⟨[], 2, 0, false⟩] := ⟨_, rfl⟩
          have p2 : Pre G1 G2 := by rw [hG2]; exact ⟨_, rfl⟩
          have l2 : G2.length = N + 4 := by rw [hG2]; simp [l1]
          have h371 := call371 (pu := true) (H := G2) hm
          obtain ⟨ms, hms⟩ : ∃ ms, ms = farM n := ⟨_, rfl⟩
          rw [← hms, l2] at h371
          rw [← hms] at hs hn1 hn9 h00
          obtain ⟨G3, hG3⟩ : ∃ G3, G3 = G2 ++ [(⟨mvsC ms, 2, 0, false⟩ : Blk)] := ⟨_, rfl⟩
          rw [← hG3] at h371
          have p3 : Pre G2 G3 := by rw [hG3]; exact Pre.one
          have l3 : G3.length = N + 5 := by rw [hG3]; simp [l2]
          obtain ⟨G4, hG4⟩ : ∃ G4, G4 = G3 ++ [(⟨[.int .i64 0], 1, 0, false⟩ : Blk)] := ⟨_, rfl⟩
          have p4 : Pre G3 G4 := by rw [hG4]; exact Pre.one
          have hwr : wr N false G4 (N + 5) 0 0 [.int .i64 0] = some G4 := by
            have := wr_last (n0 := N) (wb := false) (H := G3) (b := ⟨[.int .i64 0], 1, 0, false⟩) (vs := [.int .i64 0]) rfl rfl (by omega) rfl
            rw [hG4, ← l3, this]
          have p14 : Pre G1 G4 := (p2.trans p3).trans p4
          have pH4 : Pre H G4 := p1.trans p14
          have z0 : G4[N]? = some ⟨[x], 1, 0, false⟩ := by rw [p14.get (by omega)]; exact gx
          have z1 : G4[N + 1]? = some ⟨[y], 1, 0, false⟩ := by rw [p14.get (by omega)]; exact gy
          have z2 : G4[N + 2]? = some ⟨[], 1, 0, false⟩ := by rw [(p3.trans p4).get (by omega), hG2, ← l1]; simp
          have z3 : G4[N + 3]? = some ⟨[], 2, 0, false⟩ := by
            rw [(p3.trans p4).get (by omega), hG2, show N + 3 = G1.length + 1 by omega]; simp
          have z4 : G4[N + 4]? = some ⟨mvsC ms, 2, 0, false⟩ := by rw [p4.get (by omega), hG3, ← l2]; simp
          have z5 : G4[N + 5]? = some ⟨[.int .i64 0], 1, 0, false⟩ := by rw [hG4, ← l3]; simp
          simp [c352, k352, hcx, hcy, ← hN, ← hG1, rx, ry, h1, k1, h2, k2, call369, k3, SlR.lenV hy, k4, fill, rep, ← hG2, h371, l3, ← hG4, hwr, wbOf]
          subst hN
          rw [l1]
          refine WK_loop (fun p e G => e 3 = adr H.length 0 0 ∧ e 4 = adr (H.length + 1) 0 0 ∧ e 11 = slc (H.length + 4) 0 0 ms.length ms.length ∧ ∃ P g1 g2, e 12 = adr P 0 0 ∧ e 9 = g1 ∧ e 10 = g2 ∧ H.length + 5 ≤ P ∧ G[P]? = some ⟨[.int .i64 (p : Int)], 1, 0, false⟩ ∧ G[H.length]? = some ⟨[x], 1, 0, false⟩ ∧ G[H.length + 1]? = some ⟨[y], 1, 0, false⟩ ∧
            G[H.length + 4]? = some ⟨mvsC ms, 2, 0, false⟩ ∧ GrB H G (H.length + 2) g1 1 (mcK b c n p).1.length (cs .i64 (mcK b c n p).1) ∧ GrB H G (H.length + 3) g2 2 (mcK b c n p).1.length (mvsC (mcK b c n p).2)) (mcN b c) ?_ (Nat.zero_le _)
            ⟨by simp, by simp, by simp, H.length + 5, _, _, by simp, by simp; rfl, by simp; rfl, by omega, by simpa using z5, z0, z1, z4, by rw [mcK_zero]; exact GrB.mk' z2 (by omega) pH4, by rw [mcK_zero]; exact GrB.mk' z3 (by omega) pH4⟩
          rintro p e G _ hp ⟨h3, h4, h11, P, g1, g2, h12, h9, h10, hP5, gP, gX, gY, gM, hg1, hg2⟩
          have hPG := hg1.pr
          have rX := rdCell gX
          have rY := rdCell gY
          have rP := rdCell gP
          have hlP := (List.getElem?_eq_some_iff.1 gP).1
          have hlM := (List.getElem?_eq_some_iff.1 gM).1
          have e1 : IntKind.wrap .i64 ((p : Int) + (c.length : Int)) = (p : Int) + c.length := wrap64 (by unfold mcN at hp; omega)
          have hKl := mcK_len (b := b) (c := c) (m := n) (k := p)
          by_cases hpe : p = mcN b c
          · have n1 : ¬ ((p : Int) + c.length ≤ b.length) := by unfold mcN at hpe; omega
            have hR : mcR b c n = mcK b c n p := by rw [mcR, if_pos hC, hpe]; simp
            have hfin := fin_two (c := 0) hg1 hg2 (by omega) flat_cs mvsC_flat
            simp [b352_1, h3, h4, h11, h12, h9, h10, rX, rY, rP, SlR.lenV h, SlR.lenV hy, e1, n1, hfin]
            exact .inr ⟨hC, by rw [hR, hC]⟩
          · have n1 : (p : Int) + c.length ≤ b.length := by unfold mcN at hp hpe; omega
            have hpl : p + c.length ≤ b.length := by omega
            have hx : SlR G (slc (H.length + 4) 0 0 ms.length ms.length) 2 ms.length (mvsC ms) :=
              ⟨by rw [mvsC_length], .inr ⟨_, 0, 0, _, rfl, Nat.le_refl _, by rw [rd_at gM rfl (by simp only [mvsC_length]; omega)]; simp only [List.drop_zero]; rw [List.take_of_length_le (by simp [mvsC_length])], _, gM, rfl, rfl⟩⟩
            have h507 := ixF_call s507 (pu := true) (F := .func (.func 508) #[] #[adr H.length 0 0, adr P 0 0, adr (H.length + 1) 0 0]) (p := fun j => cpP b c (mv ms j) p) hx (by omega) fun j hj => by
              refine ⟨agg (mvC (mv ms j)), by rw [mvsC_elem hj]; rfl, ?_⟩
              have := call508 (pu := true) rX rP rY (SlR.pre hPG h) hw (SlR.pre hPG hy) hwc hokc (by omega) hpl (hs j hj)
              rw [← this]
              simp [callV]
            have hJ : mcJ b c n p = findN (fun j => cpP b c (mv ms j) p) ms.length := by rw [mcJ, hms]
            rw [← hJ] at h507
            have hsu := mcK_succ (b := b) (c := c) (m := n) (k := p)
            have e2 : IntKind.wrap .i64 ((p : Int) + 1) = ((p + 1 : Nat) : Int) := by rw [wrap64 (by omega)]; omega
            have hnew : ∀ Gz : Heap, H.length ≤ Gz.length → wr H.length false (Gz ++ [⟨[.int .i64 0], 1, 0, false⟩]) Gz.length 0 0 [.int .i64 (p : Int)] = some (Gz ++ [⟨[.int .i64 (p : Int)], 1, 0, false⟩]) := fun Gz hz =>
              wr_last (b := ⟨[.int .i64 0], 1, 0, false⟩) rfl rfl hz rfl
            have hnew2 : ∀ Gz : Heap, H.length ≤ Gz.length → wr H.length false (Gz ++ [⟨[.int .i64 (p : Int)], 1, 0, false⟩]) Gz.length 0 0 [.int .i64 ((p + 1 : Nat) : Int)] = some (Gz ++ [⟨[.int .i64 ((p + 1 : Nat) : Int)], 1, 0, false⟩]) := fun Gz hz =>
              wr_last (b := ⟨[.int .i64 (p : Int)], 1, 0, false⟩) rfl rfl hz rfl
            have hnr : ∀ Gz : Heap, rd (Gz ++ [⟨[.int .i64 (p : Int)], 1, 0, false⟩]) Gz.length 0 0 1 = some [.int .i64 (p : Int)] := fun Gz => rd_last rfl rfl
            have hPH : H.length ≤ G.length := hPG.len
            by_cases hj0 : 0 ≤ mcJ b c n p
            · obtain ⟨j, hj, hjl⟩ : ∃ j : Nat, mcJ b c n p = j ∧ j < ms.length := by
                rcases findN_lt (p := fun j => cpP b c (mv ms j) p) (n := ms.length) with q | q
                · rw [hJ, q] at hj0; omega
                · rw [hJ]; exact q
              obtain ⟨q2, off2, ver2, ha2, hr2⟩ := hx.get1 hjl
              rw [mvsC_elem hjl] at hr2
              have hq2 : q2 = H.length + 4 := by
                rw [idxAV_slc, at_nat hjl] at ha2
                simp [adr] at ha2
                exact ha2.1.symm
              rw [mcS, if_pos hj0, hj, ← hms, Int.toNat_natCast] at hsu
              rw [hj] at h507
              obtain ⟨Ga, hGa⟩ : ∃ Ga, Ga = G ++ [(⟨[.int .i64 (p : Int)], 1, 0, false⟩ : Blk)] := ⟨_, rfl⟩
              obtain ⟨Gb, hGb⟩ : ∃ Gb, Gb = Ga ++ [(⟨mvC (mv ms j), 2, 0, false⟩ : Blk)] := ⟨_, rfl⟩
              have pa : Pre G Ga := by rw [hGa]; exact Pre.one
              have pb : Pre Ga Gb := by rw [hGb]; exact Pre.one
              have t1 : SlR Gb (slc G.length 0 0 1 1) 1 1 (cs .i64 [(p : Int)]) := by
                refine SlR.pre pb ?_
                rw [hGa]
                exact (own_new (H := G) (esz := 1) (n := 1) (vs := cs .i64 [(p : Int)]) rfl).sl
              have t2 : SlR Gb (slc Ga.length 0 0 1 1) 2 1 (mvC (mv ms j)) := by
                rw [hGb]
                exact (own_new (H := Ga) (esz := 2) (n := 1) (vs := mvC (mv ms j)) rfl).sl
              obtain ⟨x1, Gc, hp1, g1', lc, kc⟩ := (hg1.onto (pa.trans pb)).append (bytes := 8) t1 (by have : roomMax = 140737488355328 := rfl; omega) (wb := false)
              have t2' : SlR Gc (slc Ga.length 0 0 1 1) 2 1 (mvC (mv ms j)) := by
                have hga : Gc[Ga.length]? = some ⟨mvC (mv ms j), 2, 0, false⟩ := by
                  rw [kc _ (by have := pa.len; omega), hGb]; exact get_last
                exact ⟨rfl, .inr ⟨_, 0, 0, _, rfl, Nat.le_refl _, by rw [rd_at hga rfl (by simp [mvC])]; rfl, _, hga, rfl, rfl⟩⟩
              have g2k := (hg2.onto (pa.trans pb)).kept (kc _ (by omega)) g1'.pr
              obtain ⟨x2, Gd, hp2, g2', ld, kd⟩ := g2k.append (bytes := 2) t2' (by have : roomMax = 140737488355328 := rfl; omega) (wb := false)
              have kk : ∀ b', b' ≠ H.length + 2 → b' ≠ H.length + 3 → b' < G.length → Gd[b']? = G[b']? := fun b' q1 q2 q3 => by rw [kd _ q2, kc _ q1, (pa.trans pb).get q3]
              have g1'' := g1'.kept (kd _ (by omega)) g2'.pr
              have hf1 : fill (rep 1 [.int .i64 0]) [(0, 1, .int .i64 (p : Int))] = some [.int .i64 (p : Int)] := fill_one rfl rfl
              have hf2 : fill (rep 1 [.int .i8 0, .int .i8 0]) [(0, 2, agg (mvC (mv ms j)))] = some (mvC (mv ms j)) := fill_one rfl rfl
              have lGa : Ga.length = G.length + 1 := by rw [hGa]; simp
              have pd : Pre H Gd := g2'.pr
              have rPd : rd Gd P 0 0 1 = some [.int .i64 (p : Int)] := rdCell (by rw [kk P (by omega) (by omega) hlP]; exact gP)
              have hbg : blkOf g1 = some (H.length + 2) := by obtain ⟨_, rfl, _⟩ := hg1; rfl
              subst hq2
              simp [b352_1, h3, h4, h11, h12, h9, h10, rX, rY, rP, SlR.lenV h, SlR.lenV hy, e1, n1, h507, hf1, ← hGa, ha2, pa.rd hr2, hf2, ← hGb, app_nochk, calls_app, apart, mods, hbg, hp1, hp2, wbOf, rPd, hnew, hnew2, hnr, pd.len, e2, -idxAV_slc, -Int.natCast_add]
              have lGd : Gd.length = Gb.length := by rw [ld, lc]
              have lGb : Gb.length = G.length + 2 := by rw [hGb]; simp [lGa]
              have pz : Pre Gd (Gd ++ [(⟨[.int .i64 ((p + 1 : Nat) : Int)], 1, 0, false⟩ : Blk)]) := Pre.one
              have kz : ∀ b', b' ≠ H.length + 2 → b' ≠ H.length + 3 → b' < G.length → (Gd ++ [(⟨[.int .i64 ((p + 1 : Nat) : Int)], 1, 0, false⟩ : Blk)])[b']? = G[b']? := fun b' q1 q2 q3 => by rw [pz.get (by omega), kk b' q1 q2 q3]
              refine ⟨by omega, Gd.length, rfl, by omega, by simp, by rw [kz _ (by omega) (by omega) (by omega)]; exact gX, by rw [kz _ (by omega) (by omega) (by omega)]; exact gY, by rw [kz _ (by omega) (by omega) (by omega)]; exact gM, ?_, ?_⟩
              · have := g1''.onto pz
                rw [hsu]
                simpa [cs] using this
              · have := g2'.onto pz
                rw [hsu]
                simp only [mvsC_one] at this
                simpa using this
            · rw [mcS, if_neg hj0] at hsu
              have pz : Pre G (G ++ [(⟨[.int .i64 ((p + 1 : Nat) : Int)], 1, 0, false⟩ : Blk)]) := Pre.one
              simp [b352_1, h3, h4, h11, h12, h9, h10, rX, rY, rP, SlR.lenV h, SlR.lenV hy, e1, n1, h507, hj0, wbOf, hnew, hnew2, hnr, hPH, e2, -idxAV_slc, -Int.natCast_add]
              refine ⟨by omega, G.length, rfl, by omega, by simp, by rw [pz.get (by omega)]; exact gX, by rw [pz.get (by omega)]; exact gY, by rw [pz.get (by omega)]; exact gM, ?_, ?_⟩
              · rw [hsu]; exact hg1.onto pz
              · rw [hsu]; exact hg2.onto pz
theorem allN_succ {p : Nat → Bool} {n : Nat} : allN p (n + 1) = (allN p n && p n) := by simp [allN, List.range_succ]
theorem allN_zero {p : Nat → Bool} : allN p 0 = true := rfl
theorem allN_congr {p q : Nat → Bool} {n : Nat} (h : ∀ i, i < n → p i = q i) : allN p n = allN q n := by
  induction n with
  | zero => rfl
  | succ n ih => rw [allN_succ, allN_succ, ih fun i hi => h i (by omega), h n (by omega)]
theorem rowsC_drop {α : Type} {f : α → List Value} {esz : Nat} {l : List α} (hf : ∀ a ∈ l, (f a).length = esz) {k : Nat} : (rowsC f l).drop (k * esz) = rowsC f (l.drop k) := by
  induction l generalizing k with
  | nil => simp [rowsC]
  | cons a r ih =>
    cases k with
    | zero => simp
    | succ k =>
      have h1 := hf a (by simp)
      have := ih (k := k) (fun b hb => hf b (by simp [hb]))
      show (f a ++ rowsC f r).drop ((k + 1) * esz) = rowsC f (r.drop k)
      rw [← this, show (k + 1) * esz = (f a).length + k * esz by rw [h1, Nat.succ_mul]; omega, List.drop_length_add_append]
theorem rowsC_take {α : Type} {f : α → List Value} {esz : Nat} {l : List α} (hf : ∀ a ∈ l, (f a).length = esz) {k : Nat} : (rowsC f l).take (k * esz) = rowsC f (l.take k) := by
  induction l generalizing k with
  | nil => simp [rowsC]
  | cons a r ih =>
    cases k with
    | zero => simp [rowsC]
    | succ k =>
      have h1 := hf a (by simp)
      have := ih (k := k) (fun b hb => hf b (by simp [hb]))
      show (f a ++ rowsC f r).take ((k + 1) * esz) = f a ++ rowsC f (r.take k)
      rw [← this, show (k + 1) * esz = (f a).length + k * esz by rw [h1, Nat.succ_mul]; omega, List.take_length_add_append]
theorem frC_len {b : List (List Int)} (hw : BkW b) : ∀ a ∈ b, (frC a).length = 12 := fun a ha => by simp [frC, (hw a ha).len]
/-- A part of a book in memory. -/
theorem Bk.sub {H : Heap} {x : Value} {b : List (List Int)} (h : Bk H x b) (hw : BkW b) {lo n : Nat} (hn : lo + n ≤ b.length) {k k' : IntKind} :
    ∃ y, slcAV H 12 x (some (.int k (lo : Int))) (some (.int k' ((lo + n : Nat) : Int))) none = some y ∧ Bk H y ((b.drop lo).take n) ∧ BkW ((b.drop lo).take n) := by
  obtain ⟨y, h1, h2⟩ := SlR.sub h (lo := lo) (hi := lo + n) (by omega) hn (k := k) (k' := k')
  have hW : BkW ((b.drop lo).take n) := fun f hf => hw f (List.mem_of_mem_drop (List.mem_of_mem_take hf))
  refine ⟨y, h1, ?_, hW⟩
  have e1 : lo + n - lo = n := by omega
  rw [e1] at h2
  have e2 : (bkC b).drop (lo * 12) = bkC (b.drop lo) := rowsC_drop (frC_len hw)
  have e3 : (bkC (b.drop lo)).take (n * 12) = bkC ((b.drop lo).take n) := rowsC_take (frC_len fun f hf => hw f (List.mem_of_mem_drop hf))
  rw [e2, e3] at h2
  have e4 : ((b.drop lo).take n).length = n := by simp; omega
  show SlR H y 12 ((b.drop lo).take n).length (bkC ((b.drop lo).take n))
  rw [e4]; exact h2
theorem fr_sub {b : List (List Int)} {lo n i : Nat} (hi : i < n) : fr ((b.drop lo).take n) i = fr b (lo + i) := by
  unfold fr at0
  rw [List.getD_eq_getElem?_getD, List.getD_eq_getElem?_getD, List.getElem?_take, if_pos hi, List.getElem?_drop]
theorem cpP_same {b c : List (List Int)} {p : Nat} (hwc : BkW c) (hok : okFs c = true) (hp : p + c.length ≤ b.length) : sameBk ((b.drop p).take c.length) c = cpP b c (0, 0) p := by
  have hl : ((b.drop p).take c.length).length = c.length := by simp; omega
  unfold sameBk cpP
  rw [hl]
  have e1 : ((c.length : Int) == c.length) = true := by simp
  rw [e1, Bool.true_and]
  refine allN_congr fun i hi => ?_
  rw [fr_sub hi, shF_zero (hwc.fr hi) (okFs_get hok hi)]
theorem farM_0 : farM 0 = [(0, 0)] := by decide +kernel
theorem mcJ_0 {b c : List (List Int)} {p : Nat} : decide (0 ≤ mcJ b c 0 p) = cpP b c (0, 0) p := by
  have hf : farM ((0 : Nat) : Int) = [(0, 0)] := farM_0
  unfold mcJ
  rw [findN_ge, hf]
  simp [anyN, mv, at0]
theorem call127 {pu : Bool} {b c : List (List Int)} (hw : BkW b) (hwc : BkW c) (hn : b.length ≤ 1000000) (hnc : c.length ≤ 1000000) {H : Heap} {x y : Value} (h : Bk H x b) (hy : Bk H y c) :
    ∃ r G' β, Call tab pu 127 [x, y] H = some (tup [r, .int .i64 (mcC b c 0)], G') ∧ Pre H G' ∧ Own G' r β H.length 1 (mcR b c 0).1.length (cs .i64 (mcR b c 0).1) := by
  have h1 := call318 (pu := true) h hw (by omega)
  have h2 := call318 (pu := true) hy hwc (by omega)
  have hnil : ∀ k : Int, mcC b c 0 = k → k ≠ 0 → finish H.length (H ++ [⟨[], 1, 0, false⟩]) [slc H.length 0 0 0 0, .int .i64 k] = (tup [slc H.length 0 0 0 0, .int .i64 k], H ++ [⟨[], 1, 0, false⟩]) ∧ Own (H ++ [⟨[], 1, 0, false⟩]) (slc H.length 0 0 0 0) (some H.length) H.length 1 (mcR b c 0).1.length (cs .i64 (mcR b c 0).1) := fun k hk h0 => by
    refine ⟨(Gr.new (H := H) (esz := 1) .refl).fin2 (by intro v hv; simp at hv), ?_⟩
    rw [mcR, if_neg (by rw [hk]; exact h0)]
    exact own_new (n := 0) rfl
  cases k1 : okB b with
  | false =>
    have hC : mcC b c 0 = 1 := by simp [mcC, k1]
    obtain ⟨e, o⟩ := hnil 1 hC (by omega)
    refine ⟨_, _, _, Call_wp t127 (.inr rfl) rfl ?_, Pre.one, o⟩
    simp [c127, k127, h1, k1, skip, fill, rep, e, hC]
  | true =>
    cases k2 : okB c with
    | false =>
      have hC : mcC b c 0 = 1 := by simp [mcC, k1, k2]
      obtain ⟨e, o⟩ := hnil 1 hC (by omega)
      refine ⟨_, _, _, Call_wp t127 (.inr rfl) rfl ?_, Pre.one, o⟩
      simp [c127, k127, h1, k1, h2, k2, fill, rep, e, hC]
    | true =>
      have k3 : in1 0 0 4 = true := by decide
      cases k4 : ((c.length : Int) == 0) with
      | true =>
        have hC : mcC b c 0 = 2 := by simp only [mcC, k1, k2, k3, k4]; rfl
        obtain ⟨e, o⟩ := hnil 2 hC (by omega)
        refine ⟨_, _, _, Call_wp t127 (.inr rfl) rfl ?_, Pre.one, o⟩
        simp [c127, k127, h1, k1, h2, k2, SlR.lenV hy, k4, fill, rep, e, hC]
      | false =>
        have hC : mcC b c 0 = 0 := by simp only [mcC, k1, k2, k3, k4]; rfl
        have hR : mcR b c 0 = mcK b c 0 (mcN b c) := by rw [mcR, if_pos hC]; rfl
        obtain ⟨hokb, hlb⟩ := okB_fs2 k1
        obtain ⟨hokc, hlc⟩ := okB_fs2 k2
        refine ⟨slc H.length 0 0 (mcR b c 0).1.length (mcR b c 0).1.length, H ++ [⟨cs .i64 (mcR b c 0).1, 1, 0, false⟩], some H.length, Call_wp t127 (.inr rfl) rfl ?_, Pre.one, own_new (by simp)⟩
        simp [c127, k127, h1, k1, h2, k2, SlR.lenV hy, k4, fill, rep]
        refine WK_loop (fun p e G => e 0 = x ∧ e 1 = y ∧ e 7 = .int .i64 (p : Int) ∧ ∃ g, e 6 = g ∧ Gr H G g 1 (mcK b c 0 p).1.length (cs .i64 (mcK b c 0 p).1)) (mcN b c) ?_ (Nat.zero_le _) ⟨by simp, by simp, by simp, slc H.length 0 0 0 0, by simp, by rw [mcK_zero]; exact Gr.new .refl⟩
        rintro p e G _ hp ⟨h0, h1e, h7, g, h6, hg⟩
        have e1 : IntKind.wrap .i64 ((p : Int) + (c.length : Int)) = ((p + c.length : Nat) : Int) := by rw [wrap64 (by unfold mcN at hp; omega)]; omega
        have hKl := mcK_len (b := b) (c := c) (m := 0) (k := p)
        by_cases hpe : p = mcN b c
        · have n1 : ¬ (((p + c.length : Nat) : Int) ≤ b.length) := by unfold mcN at hpe; omega
          rw [hpe, ← hR] at hg
          have hfin := hg.fin2 (c := 0) flat_cs
          simp [b127_1, h0, h1e, h7, h6, SlR.lenV h, SlR.lenV hy, e1, n1, hfin, hC, -Int.natCast_add]
        · have n1 : ((p + c.length : Nat) : Int) ≤ b.length := by unfold mcN at hp hpe; omega
          have hpl : p + c.length ≤ b.length := by omega
          have hPG := hg.pre
          obtain ⟨z, hz, hzb, hzw⟩ := Bk.sub (SlR.pre hPG h) hw hpl (k := .i64) (k' := .i64)
          have h323 := same323 (pu := true) hzb (SlR.pre hPG hy) hzw hwc (by simp; omega)
          rw [cpP_same hwc hokc hpl, ← mcJ_0] at h323
          have hsu := mcK_succ (b := b) (c := c) (m := 0) (k := p)
          have e2 : IntKind.wrap .i64 ((p : Int) + 1) = ((p + 1 : Nat) : Int) := by rw [wrap64 (by omega)]; omega
          by_cases hj0 : 0 ≤ mcJ b c 0 p
          · rw [decide_eq_true hj0] at h323
            rw [mcS, if_pos hj0] at hsu
            obtain ⟨x', G', hpush, hx'⟩ := hg.push (c := [.int .i64 (p : Int)]) (bytes := 8) rfl (by have : roomMax = 140737488355328 := rfl; omega) (wb := false)
            have hf1 : fill (rep 1 [.int .i64 0]) [(0, 1, .int .i64 (p : Int))] = some [.int .i64 (p : Int)] := fill_one rfl rfl
            simp [b127_1, h0, h1e, h7, h6, SlR.lenV h, SlR.lenV hy, e1, n1, hz, h323, hf1, hpush, wbOf, e2, -Int.natCast_add]
            refine ⟨by omega, ?_⟩
            rw [hsu]
            rw [cs_push] at hx'
            simpa using hx'
          · rw [decide_eq_false hj0] at h323
            rw [mcS, if_neg hj0] at hsu
            simp [b127_1, h0, h1e, h7, h6, SlR.lenV h, SlR.lenV hy, e1, n1, hz, h323, e2, -Int.natCast_add]
            exact ⟨by omega, by rw [hsu]; exact hg⟩
theorem call126 {pu : Bool} {b c : List (List Int)} (hw : BkW b) (hwc : BkW c) (hn : b.length ≤ 1000000) (hnc : c.length ≤ 1000000) {H : Heap} {x y : Value} (h : Bk H x b) (hy : Bk H y c) :
    ∃ r G' β, Call tab pu 126 [x, y] H = some (tup [r, .int .i64 (mcC b c 0)], G') ∧ Pre H G' ∧ Own G' r β H.length 1 (mcR b c 0).1.length (cs .i64 (mcR b c 0).1) := by
  obtain ⟨_, h1, ⟨hc, rfl⟩ | ⟨hc, rfl⟩⟩ := call352 (pu := true) (m := 0) hw hwc hn hnc h hy
  · refine ⟨.slice none 0 0, H, none, Call_wp t126 (.inr rfl) rfl ?_, .refl, by rw [mcR, if_neg hc]; exact own_nil⟩
    simp [c126, k126, h1, finish_nil2]
  · refine ⟨slc H.length 0 0 (mcR b c 0).1.length (mcR b c 0).1.length, H ++ [⟨cs .i64 (mcR b c 0).1, 1, 0, false⟩], some H.length, Call_wp t126 (.inr rfl) rfl ?_, Pre.one, own_new (by simp)⟩
    have hgr : Gr H (H ++ [(⟨cs .i64 (mcR b c 0).1, 1, 0, false⟩ : Blk), ⟨mvsC (mcR b c 0).2, 2, 0, false⟩]) (slc H.length 0 0 (mcR b c 0).1.length (mcR b c 0).1.length) 1 (mcR b c 0).1.length (cs .i64 (mcR b c 0).1) :=
      ⟨_, _, rfl, by simp, Nat.le_refl _, by simp, ⟨_, rfl⟩⟩
    have hfin := hgr.fin2 (c := mcC b c 0) flat_cs
    simp [c126, k126, h1, hfin]
theorem call128 {pu : Bool} {b c : List (List Int)} {m : Int} (hw : BkW b) (hwc : BkW c) (hn : b.length ≤ 1000000) (hnc : c.length ≤ 1000000) {H : Heap} {x y : Value} (h : Bk H x b) (hy : Bk H y c) :
    ∃ r, Call tab pu 128 [x, y, .int .i64 m] H = some r ∧ RsM H r (mcR b c m) (mcC b c m) := by
  refine Call_ex t128 (.inr rfl) rfl ?_
  obtain ⟨_, h1, ⟨hc, rfl⟩ | ⟨hc, rfl⟩⟩ := call352 (pu := true) (m := m) hw hwc hn hnc h hy
  · simp [c128, k128, h1]
    exact .inl ⟨hc, rfl⟩
  · have hmc : (mcR b c m).2.length = (mcR b c m).1.length := by
      rw [mcR, if_pos hc]
      exact mcK_len.2
    have g1 : GrB H (H ++ [(⟨cs .i64 (mcR b c m).1, 1, 0, false⟩ : Blk), ⟨mvsC (mcR b c m).2, 2, 0, false⟩]) H.length (slc H.length 0 0 (mcR b c m).1.length (mcR b c m).1.length) 1 (mcR b c m).1.length (cs .i64 (mcR b c m).1) :=
      ⟨0, rfl, by simp, Nat.le_refl _, by simp, ⟨_, rfl⟩⟩
    have g2 : GrB H (H ++ [(⟨cs .i64 (mcR b c m).1, 1, 0, false⟩ : Blk), ⟨mvsC (mcR b c m).2, 2, 0, false⟩]) (H.length + 1) (slc (H.length + 1) 0 0 (mcR b c m).1.length (mcR b c m).1.length) 2 (mcR b c m).1.length (mvsC (mcR b c m).2) :=
      ⟨0, rfl, by simp, by omega, by rw [mvsC_length, hmc], ⟨_, rfl⟩⟩
    have hfin := fin_two (c := mcC b c m) g1 g2 (by omega) flat_cs mvsC_flat
    simp [c128, k128, h1, hfin]
    exact .inr ⟨hc, rfl⟩
end Fb
