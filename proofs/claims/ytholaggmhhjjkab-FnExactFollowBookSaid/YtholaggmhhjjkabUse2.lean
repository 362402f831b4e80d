/- What each function computes. -/
import Derived.Test.YtholaggmhhjjkabUse1
set_option linter.unusedVariables false
set_option linter.unusedSimpArgs false
namespace Fb
open Go
/-- A loop that looks for a place by halves. -/
theorem call590 {G0 : Heap} {bq ver n : Nat} {F : Value} (S : SrtH G0 bq ver n F) : ∀ (fuel : Nat) {l l' : ML} {a m b : Int}, l.length = n → symM fuel l a m b = some l' →
    Call tab false 590 [slc bq 0 ver n n, .int .i64 a, .int .i64 m, .int .i64 b, F] (hp G0 bq ver l) = some (tup [], hp G0 bq ver l') ∧ l'.length = n := by
  intro fuel
  induction fuel with
  | zero => intro l l' a m b _ h; simp [symM] at h
  | succ fuel ih =>
    intro l l' a m b hn h
    simp only [symM] at h
    split at h
    rotate_left
    · cases h
    rename_i hg
    simp only [Bool.and_eq_true] at hg
    obtain ⟨⟨ha, hm⟩, hb⟩ := hg
    have ha := in9_ok ha
    have hb := in9_ok hb
    have hm := in9_ok hm
    have hS := S.hn
    suffices main : ∃ q, Call tab false 590 [slc bq 0 ver n n, .int .i64 a, .int .i64 m, .int .i64 b, F] (hp G0 bq ver l) = some q ∧ (q = (tup [], hp G0 bq ver l') ∧ l'.length = n) by
      obtain ⟨q, h1, rfl, h2⟩ := main; exact ⟨h1, h2⟩
    have w1 : IntKind.wrap .i64 (m - a) = m - a := wrap64 (by omega)
    have w2 : IntKind.wrap .i64 (b - m) = b - m := wrap64 (by omega)
    by_cases h1 : m - a = 1
    · rw [if_pos h1, Option.bind_eq_some_iff] at h
      obtain ⟨r, hlp, h⟩ := h
      rw [Option.map_eq_some_iff] at h
      obtain ⟨u, hlp2, rfl⟩ := h
      have h1' : (m - a == 1) = true := by simpa using h1
      refine Call_ex t590 (.inl rfl) rfl ?_
      simp [c590, k590, hp_len, w1, h1']
      refine WK_sim _ (fun s e G => e 0 = slc bq 0 ver n n ∧ e 1 = .int .i64 a ∧ e 4 = F ∧ e 10 = .int .i64 s.1 ∧ e 11 = .int .i64 s.2 ∧ 0 ≤ s.1 ∧ s.1 ≤ 1000 ∧ G = hp G0 bq ver l) ?_ ?_ hlp ⟨by simp, by simp, by simp, by simp, by simp, by simp only []; omega, by simp only []; omega, rfl⟩
      · rintro ⟨i, j⟩ s' e G _ ⟨h0, h1e, h4, h10, h11, hi0, hi9, rfl⟩ hf
        simp only [] at *
        by_cases hij : i < j
        · rw [if_pos hij, Option.map_eq_some_iff] at hf
          obtain ⟨c, hc, hf⟩ := hf
          obtain ⟨x, y, p, q, r1, r2, r3, r4, r5, e1, e2⟩ := cmM_ok S hn hc
          have hpn := at_lt r1
          obtain ⟨v1, v2, v3, v4, v5⟩ := hf_wraps (hf_le e1 hpn hS)
          by_cases hc0 : c < 0
          · rw [if_pos hc0] at hf
            cases hf
            simp [b590_1, h0, h1e, h4, h10, h11, hij, v1, v2, v3, v4, v5, r1, r2, r3, r4, r5, hc0]
            omega
          · rw [if_neg hc0] at hf
            cases hf
            simp [b590_1, h0, h1e, h4, h10, h11, hij, v1, v2, v3, v4, v5, r1, r2, r3, r4, r5, hc0]
            omega
        · rw [if_neg hij] at hf; cases hf
      · rintro ⟨i, j⟩ e G _ ⟨h0, h1e, h4, h10, h11, hi0, hi9, rfl⟩ hf
        simp only [] at *
        by_cases hij : i < j
        · rw [if_pos hij, Option.map_eq_some_iff] at hf
          obtain ⟨c, hc, hf⟩ := hf
          split at hf <;> cases hf
        · rw [if_neg hij] at hf
          cases hf
          have w3 : IntKind.wrap .i64 (i - 1) = i - 1 := wrap64 (by omega)
          simp [b590_1, h0, h1e, h4, h10, h11, hij]
          refine WK_sim _ (fun s e G => e 0 = slc bq 0 ver n n ∧ e 10 = .int .i64 i ∧ e 13 = .int .i64 s.2 ∧ s.1.length = n ∧ G = hp G0 bq ver s.1) ?_ ?_ hlp2 ⟨by simp [h0], by simp [h10], by simp, hn, rfl⟩
          · rintro ⟨l, k⟩ s' e G _ ⟨h0, h10, h13, hl, rfl⟩ hf
            simp only [] at *
            by_cases hk : k < i - 1
            · rw [if_pos hk, Option.map_eq_some_iff] at hf
              obtain ⟨l2, hsw, hgo⟩ := hf
              cases hgo
              obtain ⟨x, y, p, q, r1, r2, r3, r4, r5, r6, r7, e1, -⟩ := swM_ok (n0 := G0.length) (ver := ver) S.hb hl hsw
              have hpn := at_lt r1
              have w4 : IntKind.wrap .i64 (k + 1) = k + 1 := wrap64 (by omega)
              simp [b590_2, h0, h10, h13, hk, w3, w4, r1, r2, r3, r4, r5, r6, mvC_len, wbOf]
              exact r7
            · rw [if_neg hk] at hf; cases hf
          · rintro ⟨l, k⟩ e G _ ⟨h0, h10, h13, hl, rfl⟩ hf
            simp only [] at *
            by_cases hk : k < i - 1
            · rw [if_pos hk, Option.map_eq_some_iff] at hf
              obtain ⟨l2, hsw, hgo⟩ := hf
              cases hgo
            · rw [if_neg hk] at hf
              cases hf
              simp [b590_2, h0, h10, h13, hk, w3, hp_take]
              exact hl
    rw [if_neg h1] at h
    have h1' : (m - a == 1) = false := by simpa using h1
    by_cases h2 : b - m = 1
    · rw [if_pos h2, Option.bind_eq_some_iff] at h
      obtain ⟨r, hlp, h⟩ := h
      rw [Option.map_eq_some_iff] at h
      obtain ⟨u, hlp2, rfl⟩ := h
      have h2' : (b - m == 1) = true := by simpa using h2
      refine Call_ex t590 (.inl rfl) rfl ?_
      simp [c590, k590, hp_len, w1, h1', w2, h2']
      refine WK_sim _ (fun s e G => e 0 = slc bq 0 ver n n ∧ e 2 = .int .i64 m ∧ e 4 = F ∧ e 14 = .int .i64 s.1 ∧ e 15 = .int .i64 s.2 ∧ 0 ≤ s.1 ∧ s.1 ≤ 1000 ∧ G = hp G0 bq ver l) ?_ ?_ hlp ⟨by simp, by simp, by simp, by simp, by simp, by simp only []; omega, by simp only []; omega, rfl⟩
      · rintro ⟨i, j⟩ s' e G _ ⟨h0, h1e, h4, h10, h11, hi0, hi9, rfl⟩ hf
        simp only [] at *
        by_cases hij : i < j
        · rw [if_pos hij, Option.map_eq_some_iff] at hf
          obtain ⟨c, hc, hf⟩ := hf
          obtain ⟨x, y, p, q, r1, r2, r3, r4, r5, e1, e2⟩ := cmM_ok S hn hc
          have hqn := at_lt r2
          obtain ⟨v1, v2, v3, v4, v5⟩ := hf_wraps (hf_le e2 hqn hS)
          by_cases hc0 : c < 0
          · rw [if_pos hc0] at hf
            cases hf
            simp [b590_3, h0, h1e, h4, h10, h11, hij, v1, v2, v3, v4, v5, r1, r2, r3, r4, r5, hc0]
            omega
          · rw [if_neg hc0] at hf
            cases hf
            simp [b590_3, h0, h1e, h4, h10, h11, hij, v1, v2, v3, v4, v5, r1, r2, r3, r4, r5, hc0]
            omega
        · rw [if_neg hij] at hf; cases hf
      · rintro ⟨i, j⟩ e G _ ⟨h0, h1e, h4, h10, h11, hi0, hi9, rfl⟩ hf
        simp only [] at *
        by_cases hij : i < j
        · rw [if_pos hij, Option.map_eq_some_iff] at hf
          obtain ⟨c, hc, hf⟩ := hf
          split at hf <;> cases hf
        · rw [if_neg hij] at hf
          cases hf
          simp [b590_3, h0, h1e, h4, h10, h11, hij]
          refine WK_sim _ (fun s e G => e 0 = slc bq 0 ver n n ∧ e 14 = .int .i64 i ∧ e 17 = .int .i64 s.2 ∧ s.1.length = n ∧ G = hp G0 bq ver s.1) ?_ ?_ hlp2 ⟨by simp [h0], by simp [h10], by simp, hn, rfl⟩
          · rintro ⟨l, k⟩ s' e G _ ⟨h0, h10, h13, hl, rfl⟩ hf
            simp only [] at *
            by_cases hk : i < k
            · rw [if_pos hk, Option.map_eq_some_iff] at hf
              obtain ⟨l2, hsw, hgo⟩ := hf
              cases hgo
              obtain ⟨x, y, p, q, r1, r2, r3, r4, r5, r6, r7, e1, -⟩ := swM_ok (n0 := G0.length) (ver := ver) S.hb hl hsw
              have hpn := at_lt r1
              have w4 : IntKind.wrap .i64 (k - 1) = k - 1 := wrap64 (by omega)
              simp [b590_4, h0, h10, h13, hk, w4, r1, r2, r3, r4, r5, r6, mvC_len, wbOf]
              exact r7
            · rw [if_neg hk] at hf; cases hf
          · rintro ⟨l, k⟩ e G _ ⟨h0, h10, h13, hl, rfl⟩ hf
            simp only [] at *
            by_cases hk : i < k
            · rw [if_pos hk, Option.map_eq_some_iff] at hf
              obtain ⟨l2, hsw, hgo⟩ := hf
              cases hgo
            · rw [if_neg hk] at hf
              cases hf
              simp [b590_4, h0, h10, h13, hk, hp_take]
              exact hl
    rw [if_neg h2] at h
    have h2' : (b - m == 1) = false := by simpa using h2
    rw [Option.bind_eq_some_iff] at h
    obtain ⟨r, hlp, h⟩ := h
    obtain ⟨v1, v2, v3, v4, v5⟩ := hf_wraps (i := a) (j := b) (by omega)
    obtain ⟨d, hd⟩ : ∃ d, d = hf a b := ⟨_, rfl⟩
    have hd9 : 0 ≤ d ∧ d ≤ 1000 := by rw [hd]; unfold hf; omega
    rw [← hd] at h hlp v3 v4 v5
    have w3 : IntKind.wrap .i64 (d + m) = d + m := wrap64 (by omega)
    have w4 : IntKind.wrap .i64 (d + m - b) = d + m - b := wrap64 (by omega)
    have w5 : IntKind.wrap .i64 (d + m - 1) = d + m - 1 := wrap64 (by omega)
    obtain ⟨s0, hs0⟩ : ∃ s0, s0 = (if d < m then (d + m - b, d) else (a, m)) := ⟨_, rfl⟩
    rw [← hs0] at hlp
    have hs9 : -2000 ≤ s0.1 ∧ s0.1 ≤ 2000 := by
      rw [hs0]; split <;> simp only [] <;> omega
    refine Call_ex t590 (.inl rfl) rfl ?_
    have loop : ∀ e : Env, e 0 = slc bq 0 ver n n → e 1 = .int .i64 a → e 2 = .int .i64 m → e 3 = .int .i64 b → e 4 = F → e 18 = .int .i64 d → e 19 = .int .i64 (d + m) → e 20 = .int .i64 s0.1 → e 21 = .int .i64 s0.2 → e 22 = .int .i64 (d + m - 1) → ∀ fs Q,
        (∀ e' : Env, e' 0 = slc bq 0 ver n n → e' 1 = .int .i64 a → e' 2 = .int .i64 m → e' 3 = .int .i64 b → e' 4 = F → e' 18 = .int .i64 d → e' 19 = .int .i64 (d + m) → e' 20 = .int .i64 r.1 → -2000 ≤ r.1 → r.1 ≤ 2000 → KK tab G0.length true (.exit 8) fs e' (hp G0 bq ver l) Q) →
        WK tab G0.length true (.loop b590_5) fs e (hp G0 bq ver l) Q := by
      intro e q0 q1 q2 q3 q4 q18 q19 q20 q21 q22 fs Q hq
      refine WK_sim _ (fun s e G => e 0 = slc bq 0 ver n n ∧ e 1 = .int .i64 a ∧ e 2 = .int .i64 m ∧ e 3 = .int .i64 b ∧ e 4 = F ∧ e 18 = .int .i64 d ∧ e 19 = .int .i64 (d + m) ∧ e 20 = .int .i64 s.1 ∧ e 21 = .int .i64 s.2 ∧ e 22 = .int .i64 (d + m - 1) ∧ -2000 ≤ s.1 ∧ s.1 ≤ 2000 ∧ G = hp G0 bq ver l) ?_ ?_ hlp ⟨q0, q1, q2, q3, q4, q18, q19, q20, q21, q22, hs9.1, hs9.2, rfl⟩
      · rintro ⟨i, j⟩ s' e G _ ⟨h0, h1, h2, h3, h4, h18, h19, h20, h21, h22, hi0, hi9, rfl⟩ hf'
        simp only [] at *
        by_cases hij : i < j
        · rw [if_pos hij, Option.map_eq_some_iff] at hf'
          obtain ⟨c, hc, hf'⟩ := hf'
          obtain ⟨x, y, p, q, r1, r2, r3, r4, r5, e1, e2⟩ := cmM_ok S hn hc
          have hqn := at_lt r2
          obtain ⟨v1, v2, v3, v4, v5⟩ := hf_wraps (hf_le e2 hqn hS)
          have w6 : IntKind.wrap .i64 (d + m - 1 - hf i j) = d + m - 1 - hf i j := wrap64 (by omega)
          by_cases hc0 : c < 0
          · rw [if_pos hc0] at hf'
            cases hf'
            simp [b590_5, h0, h1, h2, h3, h4, h18, h19, h20, h21, h22, hij, v1, v2, v3, v4, v5, w6, r1, r2, r3, r4, r5, hc0]
            omega
          · rw [if_neg hc0] at hf'
            cases hf'
            simp [b590_5, h0, h1, h2, h3, h4, h18, h19, h20, h21, h22, hij, v1, v2, v3, v4, v5, w6, r1, r2, r3, r4, r5, hc0]
            omega
        · rw [if_neg hij] at hf'; cases hf'
      · rintro ⟨i, j⟩ e G _ ⟨h0, h1, h2, h3, h4, h18, h19, h20, h21, h22, hi0, hi9, rfl⟩ hf'
        simp only [] at *
        by_cases hij : i < j
        · rw [if_pos hij, Option.map_eq_some_iff] at hf'
          obtain ⟨c, hc, hf'⟩ := hf'
          split at hf' <;> cases hf'
        · rw [if_neg hij] at hf'
          cases hf'
          simp [b590_5, h20, h21, hij]
          exact hq _ (by simp [h0]) (by simp [h1]) (by simp [h2]) (by simp [h3]) (by simp [h4]) (by simp [h18]) (by simp [h19]) (by simp [h20]) hi0 hi9
    rw [Option.bind_eq_some_iff] at h
    obtain ⟨l1, hl1, h⟩ := h
    rw [Option.bind_eq_some_iff] at h
    obtain ⟨l2, hl2, h⟩ := h
    have hw6 : -2000 ≤ r.1 → r.1 ≤ 2000 → IntKind.wrap .i64 (d + m - r.1) = d + m - r.1 := fun _ _ => wrap64 (by omega)
    have C1 : ((r.1 < m ∧ m < d + m - r.1 ∧ Call tab false 610 [slc bq 0 ver n n, .int .i64 r.1, .int .i64 m, .int .i64 (d + m - r.1), F] (hp G0 bq ver l) = some (tup [], hp G0 bq ver l1)) ∨ (r.1 < m ∧ ¬ m < d + m - r.1 ∧ l1 = l) ∨ (¬ r.1 < m ∧ l1 = l)) ∧ l1.length = n := by
      by_cases a1 : r.1 < m
      · by_cases a2 : m < d + m - r.1
        · rw [if_pos ⟨a1, a2⟩] at hl1
          obtain ⟨z1, z2⟩ := call610 S hn hl1
          exact ⟨.inl ⟨a1, a2, z1⟩, z2⟩
        · rw [if_neg (fun z => a2 z.2)] at hl1
          cases hl1
          exact ⟨.inr (.inl ⟨a1, a2, rfl⟩), hn⟩
      · rw [if_neg (fun z => a1 z.1)] at hl1
        cases hl1
        exact ⟨.inr (.inr ⟨a1, rfl⟩), hn⟩
    obtain ⟨C1, hn1⟩ := C1
    have C2 : ((a < r.1 ∧ r.1 < d ∧ Call tab false 590 [slc bq 0 ver n n, .int .i64 a, .int .i64 r.1, .int .i64 d, F] (hp G0 bq ver l1) = some (tup [], hp G0 bq ver l2)) ∨ (a < r.1 ∧ ¬ r.1 < d ∧ l2 = l1) ∨ (¬ a < r.1 ∧ l2 = l1)) ∧ l2.length = n := by
      by_cases a1 : a < r.1
      · by_cases a2 : r.1 < d
        · rw [if_pos ⟨a1, a2⟩] at hl2
          obtain ⟨z1, z2⟩ := ih hn1 hl2
          exact ⟨.inl ⟨a1, a2, z1⟩, z2⟩
        · rw [if_neg (fun z => a2 z.2)] at hl2
          cases hl2
          exact ⟨.inr (.inl ⟨a1, a2, rfl⟩), hn1⟩
      · rw [if_neg (fun z => a1 z.1)] at hl2
        cases hl2
        exact ⟨.inr (.inr ⟨a1, rfl⟩), hn1⟩
    obtain ⟨C2, hn2⟩ := C2
    have C3 : ((d < d + m - r.1 ∧ d + m - r.1 < b ∧ Call tab false 590 [slc bq 0 ver n n, .int .i64 d, .int .i64 (d + m - r.1), .int .i64 b, F] (hp G0 bq ver l2) = some (tup [], hp G0 bq ver l')) ∨ (d < d + m - r.1 ∧ ¬ d + m - r.1 < b ∧ l' = l2) ∨ (¬ d < d + m - r.1 ∧ l' = l2)) ∧ l'.length = n := by
      by_cases a1 : d < d + m - r.1
      · by_cases a2 : d + m - r.1 < b
        · rw [if_pos ⟨a1, a2⟩] at h
          obtain ⟨z1, z2⟩ := ih hn2 h
          exact ⟨.inl ⟨a1, a2, z1⟩, z2⟩
        · rw [if_neg (fun z => a2 z.2)] at h
          cases h
          exact ⟨.inr (.inl ⟨a1, a2, rfl⟩), hn2⟩
      · rw [if_neg (fun z => a1 z.1)] at h
        cases h
        exact ⟨.inr (.inr ⟨a1, rfl⟩), hn2⟩
    obtain ⟨C3, hn3⟩ := C3
    obtain ⟨E, hE⟩ : ∃ E, d + m - r.1 = E := ⟨_, rfl⟩
    rw [hE] at C1 C3 hw6
    by_cases hdm : d < m
    · rw [if_pos hdm] at hs0
      rw [hs0] at loop
      simp [c590, k590, hp_len, w1, h1', w2, h2', v1, v2, v3, v4, w3, w4, w5, hdm, wbOf]
      refine loop _ (by simp) (by simp) (by simp) (by simp) (by simp) (by simp) (by simp) (by simp) (by simp) (by simp) _ _ fun e q0 q1 q2 q3 q4 q18 q19 q20 hr0 hr9 => ?_
      have w6 := hw6 hr0 hr9
      clear loop ih hlp hl1 hl2 h hd hs0 hs9 v1 v2 v3 v4 v5 hd9 hw6
      rcases C1 with ⟨a1, a2, z1⟩ | ⟨a1, a2, rfl⟩ | ⟨a1, rfl⟩ <;> rcases C2 with ⟨b1, b2, z2⟩ | ⟨b1, b2, rfl⟩ | ⟨b1, rfl⟩ <;> rcases C3 with ⟨c1, c2, z3⟩ | ⟨c1, c2, rfl⟩ | ⟨c1, rfl⟩ <;>
        simp [*, hp_take, skip]
    · rw [if_neg hdm] at hs0
      rw [hs0] at loop
      simp [c590, k590, hp_len, w1, h1', w2, h2', v1, v2, v3, v4, w3, w4, w5, hdm, wbOf]
      refine loop _ (by simp) (by simp) (by simp) (by simp) (by simp) (by simp) (by simp) (by simp) (by simp) (by simp) _ _ fun e q0 q1 q2 q3 q4 q18 q19 q20 hr0 hr9 => ?_
      have w6 := hw6 hr0 hr9
      clear loop ih hlp hl1 hl2 h hd hs0 hs9 v1 v2 v3 v4 v5 hd9 hw6
      rcases C1 with ⟨a1, a2, z1⟩ | ⟨a1, a2, rfl⟩ | ⟨a1, rfl⟩ <;> rcases C2 with ⟨b1, b2, z2⟩ | ⟨b1, b2, rfl⟩ | ⟨b1, rfl⟩ <;> rcases C3 with ⟨c1, c2, z3⟩ | ⟨c1, c2, rfl⟩ | ⟨c1, rfl⟩ <;>
        simp [*, hp_take, skip]
theorem insM_in {l l' : ML} {a b : Int} (h : insM l a b = some l') : (0 ≤ a ∧ a ≤ 1000) ∧ 0 ≤ b ∧ b ≤ 1000 := by
  unfold insM at h
  split at h
  · rename_i hg
    simp only [Bool.and_eq_true] at hg
    exact ⟨in9_ok hg.1, in9_ok hg.2⟩
  · cases h
theorem symM_in {f : Nat} {l l' : ML} {a m b : Int} (h : symM f l a m b = some l') : (0 ≤ a ∧ a ≤ 1000) ∧ (0 ≤ m ∧ m ≤ 1000) ∧ 0 ≤ b ∧ b ≤ 1000 := by
  cases f with
  | zero => simp [symM] at h
  | succ f =>
    simp only [symM] at h
    split at h
    · rename_i hg
      simp only [Bool.and_eq_true] at hg
      exact ⟨in9_ok hg.1.1, in9_ok hg.1.2, in9_ok hg.2⟩
    · cases h
theorem call565 {G0 : Heap} {bq ver n : Nat} {F : Value} {l l' : ML} {m : Int} (S : SrtH G0 bq ver n F) (hn : l.length = n) (h : stbM l m = some l') :
    Call tab false 565 [slc bq 0 ver n n, .int .i64 m, F] (hp G0 bq ver l) = some (tup [], hp G0 bq ver l') ∧ l'.length = n := by
  unfold stbM at h
  split at h
  rotate_left
  · cases h
  rename_i hg
  have hm := in9_ok hg
  rw [Option.bind_eq_some_iff] at h
  obtain ⟨r, hlp, h⟩ := h
  rw [Option.bind_eq_some_iff] at h
  obtain ⟨l1, hins, h⟩ := h
  rw [Option.map_eq_some_iff] at h
  obtain ⟨u, hlp3, rfl⟩ := h
  suffices main : ∃ q, Call tab false 565 [slc bq 0 ver n n, .int .i64 m, F] (hp G0 bq ver l) = some q ∧ (q = (tup [], hp G0 bq ver u.1) ∧ u.1.length = n) by
    obtain ⟨q, h1, rfl, h2⟩ := main; exact ⟨h1, h2⟩
  refine Call_ex t565 (.inl rfl) rfl ?_
  simp [c565, k565, hp_len]
  refine WK_sim _ (fun s e G => e 0 = slc bq 0 ver n n ∧ e 1 = .int .i64 m ∧ e 2 = F ∧ e 6 = .int .i64 20 ∧ e 7 = .int .i64 s.2.1 ∧ e 8 = .int .i64 s.2.2 ∧ s.1.length = n ∧ G = hp G0 bq ver s.1) ?_ ?_ hlp ⟨by simp, by simp, by simp, by simp, by simp, by simp, hn, rfl⟩
  · rintro ⟨l, i, j⟩ s' e G _ ⟨h0, h1, h2, h6, h7, h8, hl, rfl⟩ hf
    simp only [] at *
    by_cases hj : j ≤ m
    · rw [if_pos hj, Option.map_eq_some_iff] at hf
      obtain ⟨l2, hi2, hgo⟩ := hf
      cases hgo
      have hb := insM_in hi2
      have w1 : IntKind.wrap .i64 (j + 20) = j + 20 := wrap64 (by omega)
      obtain ⟨r1, r2⟩ := call589 S hl hi2
      simp [b565_1, h0, h1, h2, h6, h7, h8, hj, w1, r1, wbOf]
      exact r2
    · rw [if_neg hj] at hf; cases hf
  · rintro ⟨l, i, j⟩ e G _ ⟨h0, h1, h2, h6, h7, h8, hl, rfl⟩ hf
    simp only [] at *
    by_cases hj : j ≤ m
    · rw [if_pos hj, Option.map_eq_some_iff] at hf
      obtain ⟨l2, hi2, hgo⟩ := hf
      cases hgo
    · rw [if_neg hj] at hf
      cases hf
      obtain ⟨r1, r2⟩ := call589 S hl hins
      simp [b565_1, h0, h1, h2, h6, h7, h8, hj, r1, wbOf]
      refine WK_sim _ (fun s e G => e 0 = slc bq 0 ver n n ∧ e 1 = .int .i64 m ∧ e 2 = F ∧ e 6 = .int .i64 s.2 ∧ s.1.length = n ∧ 0 ≤ s.2 ∧ G = hp G0 bq ver s.1) ?_ ?_ hlp3 ⟨by simp [h0], by simp [h1], by simp [h2], by simp [h6], r2, by simp, rfl⟩
      · rintro ⟨l, k⟩ s' e G _ ⟨h0, h1, h2, h6, hl, hk0, rfl⟩ hf
        simp only [] at *
        by_cases hk : k < m
        · rw [if_pos hk, Option.bind_eq_some_iff] at hf
          obtain ⟨t, hlp2, hf⟩ := hf
          rw [Option.map_eq_some_iff] at hf
          obtain ⟨l3, hl3, hgo⟩ := hf
          cases hgo
          have w1 : IntKind.wrap .i64 (2 * k) = 2 * k := wrap64 (by omega)
          have w2 : IntKind.wrap .i64 (k * 2) = k * 2 := wrap64 (by omega)
          simp [b565_3, h0, h1, h2, h6, hk, w1]
          refine WK_sim _ (fun s e G => e 0 = slc bq 0 ver n n ∧ e 1 = .int .i64 m ∧ e 2 = F ∧ e 6 = .int .i64 k ∧ e 7 = .int .i64 s.2.1 ∧ e 8 = .int .i64 s.2.2 ∧ s.1.length = n ∧ 0 ≤ s.2.1 ∧ s.2.1 ≤ 1000 ∧ G = hp G0 bq ver s.1) ?_ ?_ hlp2 ⟨by simp [h0], by simp [h1], by simp [h2], by simp [h6], by simp, by simp, hl, by simp, by simp, rfl⟩
          · rintro ⟨l, i, j⟩ s' e G _ ⟨h0, h1, h2, h6, h7, h8, hl, hi0, hi9, rfl⟩ hf
            simp only [] at *
            by_cases hj : j ≤ m
            · rw [if_pos hj, Option.map_eq_some_iff] at hf
              obtain ⟨l2, hi2, hgo⟩ := hf
              cases hgo
              have hb := symM_in hi2
              have w3 : IntKind.wrap .i64 (i + k) = i + k := wrap64 (by omega)
              have w4 : IntKind.wrap .i64 (j + 2 * k) = j + 2 * k := wrap64 (by omega)
              obtain ⟨r1, r2⟩ := call590 S _ hl hi2
              simp [b565_2, h0, h1, h2, h6, h7, h8, hj, w1, w3, w4, r1, wbOf]
              exact ⟨r2, hb.2.2⟩
            · rw [if_neg hj] at hf; cases hf
          · rintro ⟨l, i, j⟩ e G _ ⟨h0, h1, h2, h6, h7, h8, hl, hi0, hi9, rfl⟩ hf
            simp only [] at *
            by_cases hj : j ≤ m
            · rw [if_pos hj, Option.map_eq_some_iff] at hf
              obtain ⟨l2, hi2, hgo⟩ := hf
              cases hgo
            · rw [if_neg hj] at hf
              cases hf
              have w3 : IntKind.wrap .i64 (i + k) = i + k := wrap64 (by omega)
              simp only [] at hl3
              by_cases hik : i + k < m
              · rw [if_pos hik] at hl3
                obtain ⟨r1, r2⟩ := call590 S _ hl hl3
                simp [b565_2, h0, h1, h2, h6, h7, h8, hj, hik, w2, w3, r1, wbOf]
                exact ⟨r2, by omega⟩
              · rw [if_neg hik] at hl3
                cases hl3
                simp [b565_2, h0, h1, h2, h6, h7, h8, hj, hik, w2, w3]
                exact ⟨hl, by omega⟩
        · rw [if_neg hk] at hf; cases hf
      · rintro ⟨l, k⟩ e G _ ⟨h0, h1, h2, h6, hl, hk0, rfl⟩ hf
        simp only [] at *
        by_cases hk : k < m
        · rw [if_pos hk, Option.bind_eq_some_iff] at hf
          obtain ⟨t, hlp2, hf⟩ := hf
          rw [Option.map_eq_some_iff] at hf
          obtain ⟨l3, hl3, hgo⟩ := hf
          cases hgo
        · rw [if_neg hk] at hf
          cases hf
          simp [b565_3, h1, h6, hk, hp_take]
          exact hl
theorem call517 {G0 : Heap} {bq ver n : Nat} {F : Value} {l l' : ML} (S : SrtH G0 bq ver n F) (hn : l.length = n) (h : stbM l n = some l') :
    Call tab false 517 [slc bq 0 ver n n, F] (hp G0 bq ver l) = some (tup [], hp G0 bq ver l') ∧ l'.length = n := by
  obtain ⟨h1, h2⟩ := call565 S hn h
  refine ⟨Call_wp t517 (.inl rfl) rfl ?_, h2⟩
  simp [c517, k517, h1, wbOf, hp_len, hp_take]
/- How moves are compared. -/
theorem call516 {pu : Bool} {H : Heap} {a : Int} (h : -1000 ≤ a ∧ a ≤ 1000) : Call tab pu 516 [.int .i64 a] H = some (.int .i64 (szI a), H) := by
  refine Call_wp t516 (.inr rfl) rfl ?_
  have w : IntKind.wrap .i64 (-a) = -a := wrap64 (by omega)
  simp [c516, k516, w]
  rfl
theorem szI_ok {a : Int} (h : -1000 ≤ a ∧ a ≤ 1000) : 0 ≤ szI a ∧ szI a ≤ 1000 := by unfold szI; split <;> omega
theorem smallM_ok {a : Int × Int} (h : smallM a = true) : (-100 ≤ a.1 ∧ a.1 ≤ 100) ∧ -100 ≤ a.2 ∧ a.2 ≤ 100 := by simpa [smallM] using h
theorem call515 {pu : Bool} {H : Heap} {a : Int × Int} (h : smallM a = true) : Call tab pu 515 [agg (mvC a)] H = some (.int .i64 (mkey a), H) := by
  refine Call_wp t515 (.inr rfl) rfl ?_
  obtain ⟨h1, h2⟩ := smallM_ok h
  have w1 : IntKind.wrap .i64 a.1 = a.1 := wrap64 (by omega)
  have w2 : IntKind.wrap .i64 a.2 = a.2 := wrap64 (by omega)
  have z1 := szI_ok (a := a.1) (by omega)
  have z2 := szI_ok (a := a.2) (by omega)
  have w3 : IntKind.wrap .i64 (szI a.1 + szI a.2) = mkey a := by rw [wrap64 (by omega)]; rfl
  have c1 := call516 (pu := true) (H := H) (a := a.1) (by omega)
  have c2 := call516 (pu := true) (H := H) (a := a.2) (by omega)
  simp [c515, k515, mvC, ldc, w1, w2, c1, c2, w3]
theorem call566 {pu : Bool} {H : Heap} {a : Int} : Call tab pu 566 [.int .i64 a] H = some (.bool false, H) := by
  refine Call_wp t566 (.inr rfl) rfl ?_
  simp [c566, k566]
theorem call519 {pu : Bool} {H : Heap} {a b : Int} : Call tab pu 519 [.int .i64 a, .int .i64 b] H = some (.int .i64 (if a < b then -1 else if b < a then 1 else 0), H) := by
  refine Call_wp t519 (.inr rfl) rfl ?_
  have c1 := call566 (pu := true) (H := H) (a := a)
  have c2 := call566 (pu := true) (H := H) (a := b)
  by_cases h1 : a < b
  · simp [c519, k519, c1, c2, h1]
  · by_cases h2 : b < a
    · simp [c519, k519, c1, c2, h1, h2]
    · simp [c519, k519, c1, c2, h1, h2]
theorem call518 {pu : Bool} {H : Heap} {P : Nat} {a b : Int × Int} (hP : rd H P 0 0 1 = some [.func (.func 515) #[] #[]]) (ha : smallM a = true) (hb : smallM b = true) : Call tab pu 518 [agg (mvC a), agg (mvC b), adr P 0 0] H = some (.int .i64 (kcmp a b), H) := by
  refine Call_wp t518 (.inr rfl) rfl ?_
  have c1 := call515 (pu := true) (H := H) ha
  have c2 := call515 (pu := true) (H := H) hb
  have c3 := call519 (pu := true) (H := H) (a := mkey a) (b := mkey b)
  simp [mvC] at c1 c2
  simp [c518, k518, mvC, ldc, hP, c1, c2, c3, callV]
  rfl
/-- The k-th move of the grid. -/
def grE (m k : Nat) : Int × Int := (((k / (2 * m + 1) : Nat) : Int) - m, ((k % (2 * m + 1) : Nat) : Int) - m)
def gridK (m k : Nat) : ML := (List.range k).map (grE m)
theorem gridK_succ {m k : Nat} : gridK m (k + 1) = gridK m k ++ [grE m k] := by simp [gridK, List.range_succ]
theorem gridK_len {m k : Nat} : (gridK m k).length = k := by simp [gridK]
theorem gridK_all : ∀ m, m < 5 → gridK m ((2 * m + 1) * (2 * m + 1)) = gridM m := by decide +kernel
theorem grE_at {m i j : Nat} (hj : j < 2 * m + 1) : grE m (i * (2 * m + 1) + j) = ((i : Int) - m, (j : Int) - m) := by
  unfold grE
  have h1 : (i * (2 * m + 1) + j) / (2 * m + 1) = i := by
    rw [Nat.mul_comm, Nat.mul_add_div (by omega), Nat.div_eq_of_lt hj]; rfl
  have h2 : (i * (2 * m + 1) + j) % (2 * m + 1) = j := by
    rw [Nat.mul_comm, Nat.mul_add_mod, Nat.mod_eq_of_lt hj]
  rw [h1, h2]
theorem stb_all {m : Nat} (h : m ≤ 4) : stbM (gridM m) (gridM m).length = some (farM m) := by
  have : m = 0 ∨ m = 1 ∨ m = 2 ∨ m = 3 ∨ m = 4 := by omega
  rcases this with rfl | rfl | rfl | rfl | rfl
  · exact stb0
  · exact stb1
  · exact stb2
  · exact stb3
  · exact stb4
theorem gridM_len {m : Nat} (h : m ≤ 4) : (gridM m).length = (2 * m + 1) * (2 * m + 1) := by rw [← gridK_all m (by omega), gridK_len]
theorem farM_small : ∀ m : Nat, m < 5 → ((farM m).all smallM && (gridM m).all smallM && decide ((farM m).length = (gridM m).length)) = true := by decide +kernel
theorem mvsC_one {l : ML} {a : Int × Int} : mvsC l ++ mvC a = mvsC (l ++ [a]) := by rw [mvsC_app]; simp [mvsC, rowsC]
theorem room2 {i : Nat} (h : i ≤ 1000000) : (i + 1) * 2 ≤ roomMax := by have : roomMax = 140737488355328 := rfl; omega
theorem call371 {pu : Bool} {H : Heap} {m : Nat} (hm : m ≤ 4) : Call tab pu 371 [.int .i64 (m : Int)] H = some (slc H.length 0 0 (farM m).length (farM m).length, H ++ [⟨mvsC (farM m), 2, 0, false⟩]) := by
  refine Call_wp t371 (.inr rfl) rfl ?_
  obtain ⟨N, hN⟩ : ∃ N, N = 2 * m + 1 := ⟨_, rfl⟩
  have hNN : N * N ≤ 81 := by
    have : N ≤ 9 := by omega
    exact Nat.mul_le_mul this this
  have hgk := gridK_all m (by omega)
  rw [← hN] at hgk
  have w0 : IntKind.wrap .i64 (-(m : Int)) = -(m : Int) := wrap64 (by omega)
  simp [c371, k371, fill, rep, w0]
  refine WK_loop (fun i e G => e 0 = .int .i64 m ∧ e 4 = .int .i64 ((i : Int) - m) ∧ ∃ g, e 3 = g ∧ Gr H G g 2 (i * N) (mvsC (gridK m (i * N)))) N ?_ (Nat.zero_le _) ⟨by simp, by simp, by simp; exact Gr.new .refl⟩
  rintro i e G _ hi ⟨h0, h4, g, h3, hg⟩
  by_cases hiN : i = N
  · rw [hiN] at h4 hg
    have n1 : ¬ ((N : Int) - m ≤ m) := by omega
    rw [hgk] at hg
    obtain ⟨b, ver, rfl, hgb, hbH, hlen, hP⟩ := hg
    have hbG := (List.getElem?_eq_some_iff.1 hgb).1
    have hgl : (gridM m).length = N * N := by rw [gridM_len hm, hN]
    have hfl : (farM m).length = N * N := by
      have := farM_small m (by omega)
      simp only [Bool.and_eq_true, decide_eq_true_eq] at this
      rw [this.2, hgl]
    obtain ⟨G0, hG0⟩ : ∃ G0, G0 = G ++ [(⟨[.func (.func 515) #[] #[]], 1, 0, false⟩ : Blk)] := ⟨_, rfl⟩
    have hwr : wr H.length false (G ++ [⟨[.nilFunc], 1, 0, false⟩]) G.length 0 0 [.func (.func 515) #[] #[]] = some G0 := by
      have := wr_last (n0 := H.length) (wb := false) (H := G) (b := ⟨[.nilFunc], 1, 0, false⟩) (vs := [.func (.func 515) #[] #[]]) rfl rfl hP.len rfl
      rw [this, hG0]
    have hb0 : b < G0.length := by rw [hG0]; simp; omega
    have hg0 : hp G0 b ver (gridM m) = G0 := by
      unfold hp
      refine set_self ?_
      rw [hG0, List.getElem?_append_left hbG]; exact hgb
    have S : SrtH G0 b ver (N * N) (.func (.func 518) #[] #[adr G.length 0 0]) := by
      refine ⟨hb0, by omega, fun l a c _ ha hc => ?_⟩
      have hP : rd (hp G0 b ver l) G.length 0 0 1 = some [.func (.func 515) #[] #[]] := by
        have : (hp G0 b ver l)[G.length]? = some ⟨[.func (.func 515) #[] #[]], 1, 0, false⟩ := by
          unfold hp
          rw [List.getElem?_set_ne (by omega), hG0]; exact get_last
        rw [rd_at this rfl (by simp)]; rfl
      have := call518 (pu := true) hP ha hc
      rw [← this]
      simp [callV]
    have hst := stb_all hm
    rw [hgl] at hst
    obtain ⟨r1, _⟩ := call517 S hgl hst
    rw [hg0] at r1
    have hPG : Pre H G0 := by rw [hG0]; exact hP.app
    have hP2 : Pre H (hp G0 b ver (farM m)) := hPG.set hbH
    have hGr : Gr H (hp G0 b ver (farM m)) (slc b 0 ver (N * N) (N * N)) 2 (N * N) (mvsC (farM m)) := ⟨b, ver, rfl, hp_get hb0, hbH, by rw [mvsC_length, hfl], hP2⟩
    have hfin := hGr.fin mvsC_flat
    rw [hfl]
    have hel : elder H.length false G0 (tup [], hp G0 b ver (farM m)) = some (tup [], hp G0 b ver (farM m)) := elder_pre hPG hP2
    have hcf : cellsOf (.func (.func 515) #[] #[]) = [.func (.func 515) #[] #[]] := rfl
    simp [b371_2, h0, h4, h3, n1, hcf, hwr, wbOf, r1, hel, hfin]
  · have n1 : (i : Int) - m ≤ m := by omega
    have e9 : IntKind.wrap .i64 ((i : Int) - m + 1) = ((i + 1 : Nat) : Int) - m := by rw [wrap64 (by omega)]; omega
    have w1 : IntKind.wrap .i8 ((i : Int) - m) = (i : Int) - m := wrap8 (by omega)
    simp [b371_2, h0, h4, h3, n1, w0]
    refine WK_loop (fun j e G => e 0 = .int .i64 m ∧ e 4 = .int .i64 ((i : Int) - m) ∧ e 5 = .int .i64 ((j : Int) - m) ∧ ∃ g, e 3 = g ∧ Gr H G g 2 (i * N + j) (mvsC (gridK m (i * N + j)))) N ?_ (Nat.zero_le _) ⟨by simp [h0], by simp [h4], by simp, g, by simp [h3], hg⟩
    rintro j e G _ hj ⟨h0, h4, h5, g, h3, hg⟩
    by_cases hjN : j = N
    · rw [hjN] at h5 hg
      have n2 : ¬ ((N : Int) - m ≤ m) := by omega
      simp [b371_1, h0, h4, h5, h3, n2, e9]
      exact ⟨by omega, by rw [Nat.succ_mul]; exact hg⟩
    · have n2 : (j : Int) - m ≤ m := by omega
      have e10 : IntKind.wrap .i64 ((j : Int) - m + 1) = ((j + 1 : Nat) : Int) - m := by rw [wrap64 (by omega)]; omega
      have w2 : IntKind.wrap .i8 ((j : Int) - m) = (j : Int) - m := wrap8 (by omega)
      have hij : i * N + j < N * N := by
        have := mul_next (esz := N) (show i < N by omega)
        omega
      obtain ⟨x', G', hpush, hx'⟩ := hg.push (c := mvC ((i : Int) - m, (j : Int) - m)) (bytes := 2) rfl (room2 (by omega)) (wb := false)
      have hge : grE m (i * N + j) = ((i : Int) - m, (j : Int) - m) := by rw [hN]; exact grE_at (by omega)
      rw [mvsC_one, ← hge, ← gridK_succ] at hx'
      have hfa : fill [.int .i8 0, .int .i8 0] [(0, 1, .int .i8 ((i : Int) - m)), (1, 1, .int .i8 ((j : Int) - m))] = some (mvC ((i : Int) - m, (j : Int) - m)) := rfl
      have hf1 := fill_one (z := [.int .i8 0, .int .i8 0]) (v := agg (mvC ((i : Int) - m, (j : Int) - m))) (esz := 2) rfl rfl
      simp [b371_1, h0, h4, h5, h3, n2, w1, w2, hfa, hf1, hpush, wbOf, e10]
      exact ⟨by omega, hx'⟩
theorem call549 {pu : Bool} {H : Heap} {a b : Int} : Call tab pu 549 [.int .i64 a, .int .i64 b] H = some (.int .i64 (if b < a then a else b), H) := by
  refine Call_wp t549 (.inr rfl) rfl ?_
  by_cases h : b < a
  · simp [c549, k549, h]
  · simp [c549, k549, h]
theorem szI_max {a : Int} : (if -a < a then a else -a) = szI a := by unfold szI; split <;> split <;> omega
theorem call510 {pu : Bool} {H : Heap} {a : Int × Int} (h : smallM a = true) : Call tab pu 510 [agg (mvC a)] H = some (.int .i64 (mkey a), H) := by
  refine Call_wp t510 (.inr rfl) rfl ?_
  obtain ⟨h1, h2⟩ := smallM_ok h
  have w1 : IntKind.wrap .i64 a.1 = a.1 := wrap64 (by omega)
  have w2 : IntKind.wrap .i64 a.2 = a.2 := wrap64 (by omega)
  have w4 : IntKind.wrap .i64 (-a.1) = -a.1 := wrap64 (by omega)
  have w5 : IntKind.wrap .i64 (-a.2) = -a.2 := wrap64 (by omega)
  have z1 := szI_ok (a := a.1) (by omega)
  have z2 := szI_ok (a := a.2) (by omega)
  have w3 : IntKind.wrap .i64 (szI a.1 + szI a.2) = mkey a := by rw [wrap64 (by omega)]; rfl
  have c1 := call549 (pu := true) (H := H) (a := a.1) (b := -a.1)
  have c2 := call549 (pu := true) (H := H) (a := a.2) (b := -a.2)
  rw [szI_max] at c1 c2
  simp [c510, k510, mvC, ldc, w1, w2, w4, w5, c1, c2, w3]
/-- The moves, nearest first, while they are being gathered. -/
def farD (m d : Nat) : ML := (List.range d).flatMap fun (d : Nat) => (gridM m).filter fun a => decide (mkey a = d)
def farP (m d k : Nat) : ML := farD m d ++ (gridK m k).filter fun a => decide (mkey a = d)
theorem farP_zero {m d : Nat} : farP m d 0 = farD m d := by simp [farP, gridK]
theorem farP_succ {m d k : Nat} : farP m d (k + 1) = if mkey (grE m k) = d then farP m d k ++ [grE m k] else farP m d k := by
  unfold farP
  rw [gridK_succ, List.filter_append]
  by_cases h : mkey (grE m k) = d
  · rw [if_pos h]; simp [h]
  · rw [if_neg h]; simp [h]
theorem farP_all {m d : Nat} (hm : m ≤ 4) : farP m d ((2 * m + 1) * (2 * m + 1)) = farD m (d + 1) := by
  unfold farP farD
  rw [gridK_all m (by omega), List.range_succ, List.flatMap_append]; simp
theorem farD_all {m : Nat} : farD m (2 * m + 1) = farM m := by
  unfold farD farM
  have : (2 * (m : Int) + 1).toNat = 2 * m + 1 := by omega
  rw [this]
theorem farP_len {m d k : Nat} (hm : m ≤ 4) (hd : d ≤ 2 * m) (hk : k ≤ (2 * m + 1) * (2 * m + 1)) : (farP m d k).length ≤ 1000 := by
  have hN : 2 * m + 1 ≤ 9 := by omega
  have h0 : (2 * m + 1) * (2 * m + 1) ≤ 81 := Nat.mul_le_mul hN hN
  have h1 : ∀ d, d ≤ 9 → (farD m d).length ≤ d * 81 := by
    intro d
    induction d with
    | zero => intro _; simp [farD]
    | succ d ih =>
      intro hd
      have := ih (by omega)
      have e : farD m (d + 1) = farD m d ++ (gridM m).filter fun a => decide (mkey a = d) := by unfold farD; rw [List.range_succ, List.flatMap_append]; simp
      have h2 := List.length_filter_le (fun a => decide (mkey a = (d : Int))) (gridM m)
      have h3 := gridM_len hm
      rw [e, List.length_append]
      omega
  have h2 := h1 d (by omega)
  have h3 := List.length_filter_le (fun a => decide (mkey a = (d : Int))) (gridK m k)
  rw [gridK_len] at h3
  unfold farP
  rw [List.length_append]
  omega
theorem grE_small {m i j : Nat} (hm : m ≤ 4) (hi : i < 2 * m + 1) (hj : j < 2 * m + 1) : smallM ((i : Int) - m, (j : Int) - m) = true := by
  simp [smallM]; omega
theorem call354 {pu : Bool} {H : Heap} {m : Nat} (hm : m ≤ 4) : Call tab pu 354 [.int .i64 (m : Int)] H = some (slc H.length 0 0 (farM m).length (farM m).length, H ++ [⟨mvsC (farM m), 2, 0, false⟩]) := by
  refine Call_wp t354 (.inr rfl) rfl ?_
  obtain ⟨N, hN⟩ : ∃ N, N = 2 * m + 1 := ⟨_, rfl⟩
  have w0 : IntKind.wrap .i64 (-(m : Int)) = -(m : Int) := wrap64 (by omega)
  have w1 : IntKind.wrap .i64 (2 * (m : Int)) = 2 * (m : Int) := wrap64 (by omega)
  simp [c354, k354, fill, rep]
  refine WK_loop (fun d e G => e 0 = .int .i64 m ∧ e 4 = .int .i64 (d : Int) ∧ ∃ g, e 3 = g ∧ Gr H G g 2 (farD m d).length (mvsC (farD m d))) N ?_ (Nat.zero_le _) ⟨by simp, by simp, by simp; exact Gr.new .refl⟩
  rintro d e G _ hd ⟨h0, h4, g, h3, hg⟩
  by_cases hdN : d = N
  · rw [hdN] at h4 hg
    have n1 : ¬ ((N : Int) ≤ 2 * m) := by omega
    rw [hN, farD_all] at hg
    have hfin := hg.fin mvsC_flat
    simp [b354_3, h0, h4, h3, w1, n1, hfin]
  · have n1 : (d : Int) ≤ 2 * m := by omega
    have e9 : IntKind.wrap .i64 ((d : Int) + 1) = ((d + 1 : Nat) : Int) := by rw [wrap64 (by omega)]; omega
    simp [b354_3, h0, h4, h3, w1, n1, w0]
    refine WK_loop (fun i e G => e 0 = .int .i64 m ∧ e 4 = .int .i64 (d : Int) ∧ e 5 = .int .i64 ((i : Int) - m) ∧ ∃ g, e 3 = g ∧ Gr H G g 2 (farP m d (i * N)).length (mvsC (farP m d (i * N)))) N ?_ (Nat.zero_le _) ⟨by simp [h0], by simp [h4], by simp, g, by simp [h3], by rw [Nat.zero_mul, farP_zero]; exact hg⟩
    rintro i e G _ hi ⟨h0, h4, h5, g, h3, hg⟩
    by_cases hiN : i = N
    · rw [hiN] at h5 hg
      have n2 : ¬ ((N : Int) - m ≤ m) := by omega
      have hfa := farP_all (m := m) (d := d) hm
      rw [← hN] at hfa
      rw [hfa] at hg
      simp [b354_2, h0, h4, h5, h3, n2, e9]
      exact ⟨by omega, hg⟩
    · have n2 : (i : Int) - m ≤ m := by omega
      have e10 : IntKind.wrap .i64 ((i : Int) - m + 1) = ((i + 1 : Nat) : Int) - m := by rw [wrap64 (by omega)]; omega
      have w2 : IntKind.wrap .i8 ((i : Int) - m) = (i : Int) - m := wrap8 (by omega)
      simp [b354_2, h0, h4, h5, h3, n2, w0]
      refine WK_loop (fun j e G => e 0 = .int .i64 m ∧ e 4 = .int .i64 (d : Int) ∧ e 5 = .int .i64 ((i : Int) - m) ∧ e 6 = .int .i64 ((j : Int) - m) ∧ ∃ g, e 3 = g ∧ Gr H G g 2 (farP m d (i * N + j)).length (mvsC (farP m d (i * N + j)))) N ?_ (Nat.zero_le _) ⟨by simp [h0], by simp [h4], by simp [h5], by simp, g, by simp [h3], hg⟩
      rintro j e G _ hj ⟨h0, h4, h5, h6, g, h3, hg⟩
      by_cases hjN : j = N
      · rw [hjN] at h6 hg
        have n3 : ¬ ((N : Int) - m ≤ m) := by omega
        simp [b354_1, h0, h4, h5, h6, h3, n3, e10]
        exact ⟨by omega, by rw [Nat.succ_mul]; exact hg⟩
      · have n3 : (j : Int) - m ≤ m := by omega
        have e11 : IntKind.wrap .i64 ((j : Int) - m + 1) = ((j + 1 : Nat) : Int) - m := by rw [wrap64 (by omega)]; omega
        have w3 : IntKind.wrap .i8 ((j : Int) - m) = (j : Int) - m := wrap8 (by omega)
        have hij : i * N + j < N * N := by
          have := mul_next (esz := N) (show i < N by omega)
          omega
        have hle := farP_len (m := m) (d := d) (k := i * N + j) hm (by omega) (by rw [← hN]; omega)
        have hsu := farP_succ (m := m) (d := d) (k := i * N + j)
        have hge : grE m (i * N + j) = ((i : Int) - m, (j : Int) - m) := by rw [hN]; exact grE_at (by omega)
        rw [hge] at hsu
        have hc := call510 (pu := true) (H := G) (a := ((i : Int) - m, (j : Int) - m)) (grE_small hm (by omega) (by omega))
        have hfa : fill [.int .i8 0, .int .i8 0] [(0, 1, .int .i8 ((i : Int) - m)), (1, 1, .int .i8 ((j : Int) - m))] = some (mvC ((i : Int) - m, (j : Int) - m)) := rfl
        have hst : stc (agg [.int .i8 0, .int .i8 0]) 0 (mvC ((i : Int) - m, (j : Int) - m)) = some (agg (mvC ((i : Int) - m, (j : Int) - m))) := stc2c
        have hld : ldc 2 true (agg (mvC ((i : Int) - m, (j : Int) - m))) 0 = some (agg (mvC ((i : Int) - m, (j : Int) - m))) := ldc2c
        by_cases hk : mkey ((i : Int) - m, (j : Int) - m) = d
        · rw [if_pos hk] at hsu
          rw [hk] at hc
          obtain ⟨x', G', hpush, hx'⟩ := hg.push (c := mvC ((i : Int) - m, (j : Int) - m)) (bytes := 2) rfl (room2 (by omega)) (wb := false)
          rw [mvsC_one, ← hsu] at hx'
          have hl : (farP m d (i * N + j)).length + 1 = (farP m d (i * N + j + 1)).length := by rw [hsu]; simp
          rw [hl] at hx'
          have hf1 := fill_one (z := [.int .i8 0, .int .i8 0]) (v := agg (mvC ((i : Int) - m, (j : Int) - m))) (esz := 2) rfl rfl
          simp [b354_1, h0, h4, h5, h6, h3, n3, w2, w3, hfa, hst, hld, mvC_len, hc, hf1, hpush, wbOf, e11]
          exact ⟨by omega, hx'⟩
        · rw [if_neg hk] at hsu
          have hk' : (mkey ((i : Int) - m, (j : Int) - m) == (d : Int)) = false := by simpa using hk
          simp [b354_1, h0, h4, h5, h6, h3, n3, w2, w3, hfa, hst, hld, mvC_len, hc, hk', e11]
          exact ⟨by omega, by rw [← Nat.add_assoc, hsu]; exact hg⟩
/- The best of them. -/
theorem shF_zero {f : List Int} (hw : FrW f) (hk : okF f = true) : shF f 0 0 = f := by
  refine list12 shF_length hw.len fun y hy => ?_
  have hu := hw.nth hy
  obtain ⟨n, hn⟩ := Int.eq_ofNat_of_zero_le hu.1
  have hr : okRow (nth f y) = true := List.all_eq_true.1 (show f.all okRow = true from hk) _ (nth_mem (by rw [hw.len]; exact hy))
  have h9 : n ≤ 4095 := by
    have : nth f y ≤ 4095 := by simpa [okRow] using hr
    omega
  have := mvR_shl (f := f) (d := 0) (y := y) (n := n) (dy := 0) hy (by omega) (by rw [← hn]; congr 1)
  unfold mvR at this
  rw [hn]
  rw [show ((0 : Nat) : Int) = 0 from rfl] at this
  rw [this]
  have : n * 2 ^ 0 % 4096 = n := by omega
  rw [this]
def bsM (f g : List Int) (ms : ML) (k : Nat) : (Int × Int) × Int :=
  itN (fun i s => if difF (shF f (mv ms (i + 1)).1 (mv ms (i + 1)).2) g < s.2 then (mv ms (i + 1), difF (shF f (mv ms (i + 1)).1 (mv ms (i + 1)).2) g) else s) ((0, 0), difF f g) k
theorem bsM_zero {f g : List Int} {ms : ML} : bsM f g ms 0 = ((0, 0), difF f g) := itN_zero
theorem bsM_succ {f g : List Int} {ms : ML} {i : Nat} : bsM f g ms (i + 1) = if difF (shF f (mv ms (i + 1)).1 (mv ms (i + 1)).2) g < (bsM f g ms i).2 then (mv ms (i + 1), difF (shF f (mv ms (i + 1)).1 (mv ms (i + 1)).2) g) else bsM f g ms i := itN_succ
theorem stM {v w : Value} {m : Int × Int} : stc (agg [v, w]) 0 (mvC m) = some (agg (mvC m)) := stc2c
theorem stM2 {m m' : Int × Int} : stc (agg (mvC m')) 0 (mvC m) = some (agg (mvC m)) := stc2c
theorem ldM {m : Int × Int} : ldc 2 true (agg (mvC m)) 0 = some (agg (mvC m)) := ldc2c
theorem old1_M {n0 : Nat} {m : Int × Int} : old1 n0 (agg (mvC m)) = true := by
  show (mvC m).toArray.toList.all (old0 n0) = true
  simp [mvC]
theorem fin_mi {n0 : Nat} {H : Heap} {m : Int × Int} {c : Int} : finish n0 H [agg (mvC m), .int .i64 c] = (tup [agg (mvC m), .int .i64 c], H.take n0) := finish_vs (by simp [old1_M])
theorem farM_ok' : ∀ m : Nat, m < 5 → ((farM m).all smallM && decide (1 ≤ (farM m).length) && decide ((farM m).length ≤ 1000) && decide (mv (farM m) 0 = (0, 0))) = true := by decide +kernel
theorem farM_ok {m : Nat} (hm : m ≤ 4) : (∀ i, i < (farM m).length → smallM (mv (farM m) i) = true) ∧ 1 ≤ (farM m).length ∧ (farM m).length ≤ 1000 ∧ mv (farM m) 0 = (0, 0) := by
  have := farM_ok' m (by omega)
  simp only [Bool.and_eq_true, decide_eq_true_eq] at this
  exact ⟨fun i hi => List.all_eq_true.1 this.1.1.1 _ (at0_mem hi), this.1.1.2, this.1.2, this.2⟩
theorem call514 {pu : Bool} {H : Heap} {f : List Int} {a : Int × Int} (hw : FrW f) (hk : okF f = true) (ha : smallM a = true) : Call tab pu 514 [iv .u16 f, agg (mvC a)] H = some (iv .u16 (shF f a.1 a.2), H) := by
  refine Call_wp t514 (.inr rfl) rfl ?_
  obtain ⟨h1, h2⟩ := smallM_ok ha
  have w1 : IntKind.wrap .i64 a.1 = a.1 := wrap64 (by omega)
  have w2 : IntKind.wrap .i64 a.2 = a.2 := wrap64 (by omega)
  have hc := call358 (pu := true) (H := H) (dx := a.1) (dy := a.2) hw hk (by omega) (by omega)
  simp [c514, k514, hw.len, mvC, ldc2, ldc2b, w1, w2, hc, zs_cs, agg_cs, stc_zr, shF_length]
theorem call370 {pu : Bool} {H : Heap} {x : Value} {f g : List Int} {ms : ML} (hw : FrW f) (hk : okF f = true) (hwg : FrW g) (hkg : okF g = true) (hx : SlR H x 2 ms.length (mvsC ms)) (hn : 1 ≤ ms.length) (hn9 : ms.length ≤ 1000) (hs : ∀ i, i < ms.length → smallM (mv ms i) = true) (h00 : mv ms 0 = (0, 0)) :
    Call tab pu 370 [iv .u16 f, iv .u16 g, x] H = some (tup [agg (mvC (bsM f g ms (ms.length - 1)).1), .int .i64 (bsM f g ms (ms.length - 1)).2], H) := by
  refine Call_wp t370 (.inr rfl) rfl ?_
  obtain ⟨q, off, ver, ha, hr⟩ := hx.get1 (i := 0) (by omega)
  rw [mvsC_elem (by omega), h00] at hr
  obtain ⟨y, hy, hY⟩ := hx.lo (lo := 1) (k' := .i64) hn
  have hc := call514 (pu := true) (H := H) hw hk (hs 0 (by omega))
  rw [h00, shF_zero hw hk] at hc
  have hd := call324 (pu := true) (H := H) hw hwg hk hkg
  simp at ha hy
  simp [c370, k370, ha, hr, hw.len, hwg.len, hc, hd, stM, stM2, ldM, mvC_len, hy, hY.lenV]
  refine WP_forH 26 (ms.length - 1) ((ms.length - 1 : Nat) : Int) rfl (by omega) (fun i e => e 3 = iv .u16 f ∧ e 4 = iv .u16 g ∧ e 24 = y ∧ e 25 = .int .i64 ((ms.length - 1 : Nat) : Int) ∧ e 6 = agg [.int .i8 0, .int .i8 0] ∧ e 8 = agg (mvC (bsM f g ms i).1) ∧ e 9 = .int .i64 (bsM f g ms i).2) ?_ ?_ (by simp) (by simp [bsM_zero])
  · rintro i e hi hii e4 h26 ⟨h3, h4, h24, h25, h6, h8, h9⟩
    have hi1 : i + 1 < ms.length := by omega
    obtain ⟨q2, off2, ver2, ha2, hr2⟩ := hY.get1 (i := i) hi
    have hel : elem ((mvsC ms).drop (1 * 2)) 2 i = mvC (mv ms (i + 1)) := by rw [elem_drop, Nat.add_comm, mvsC_elem hi1]
    rw [hel] at hr2
    have hsm := hs _ hi1
    have hsu := bsM_succ (f := f) (g := g) (ms := ms) (i := i)
    have hc2 := call514 (pu := true) (H := H) hw hk hsm
    have hd2 := call324 (pu := true) (H := H) (a := shF f (mv ms (i + 1)).1 (mv ms (i + 1)).2) dotsF_W hwg dotsF_ok hkg
    generalize bsM f g ms i = t at *
    have hsl : (shF f (mv ms (i + 1)).1 (mv ms (i + 1)).2).length = 12 := shF_length
    generalize shF f (mv ms (i + 1)).1 (mv ms (i + 1)).2 = F at *
    by_cases hlt : difF F g < t.2
    · rw [if_pos hlt] at hsu
      simp [b370_1, h26, h3, h4, h24, h25, h6, h8, h9, hii, ha2, hr2, stM, stM2, ldM, mvC_len, hw.len, hwg.len, hc2, hd2, hlt, hsu, e4]
    · rw [if_neg hlt] at hsu
      simp [b370_1, h26, h3, h4, h24, h25, h6, h8, h9, hii, ha2, hr2, stM, stM2, ldM, mvC_len, hw.len, hwg.len, hc2, hd2, hlt, hsu, e4]
  · rintro e h26 ⟨h3, h4, h24, h25, h6, h8, h9⟩
    simp [b370_1, h26, h25, h6, h8, h9, stM, stM2, ldM, mvC_len, fin_mi]
theorem call372 {pu : Bool} {H : Heap} {P Q o o' v v' m : Nat} {f g : List Int} (hw : FrW f) (hwg : FrW g) (h1 : rd H P o v 12 = some (cs .u16 f)) (h2 : rd H Q o' v' 12 = some (cs .u16 g)) (hm : m ≤ 4) :
    Call tab pu 372 [adr P o v, adr Q o' v', .int .i64 (m : Int)] H = some (tup [agg (mvC (bsM f g (farM m) ((farM m).length - 1)).1), .int .i64 (bsM f g (farM m) ((farM m).length - 1)).2], H) := by
  refine Call_wp t372 (.inr rfl) rfl ?_
  obtain ⟨hs, hn, hn9, h00⟩ := farM_ok hm
  have h354 := call354 (pu := true) (H := H) hm
  obtain ⟨ms, hms⟩ : ∃ ms, ms = farM m := ⟨_, rfl⟩
  rw [← hms] at hs hn hn9 h00 h354 ⊢
  obtain ⟨G1, hG1⟩ : ∃ G1, G1 = H ++ [(⟨mvsC ms, 2, 0, false⟩ : Blk)] := ⟨_, rfl⟩
  rw [← hG1] at h354
  have p1 : Pre H G1 := by rw [hG1]; exact Pre.one
  have hx : SlR G1 (slc H.length 0 0 ms.length ms.length) 2 ms.length (mvsC ms) := by
    rw [hG1]
    exact (own_new (H := H) (esz := 2) (n := ms.length) (vs := mvsC ms) (by rw [mvsC_length])).sl
  have hd := call325 (pu := true) hw.len hwg.len (p1.rd h1) (p1.rd h2)
  have hfz : fill [.int .i8 0, .int .i8 0] [] = some (mvC (0, 0)) := rfl
  simp [c372, k372, h354, hfz, stM, stM2, ldM, mvC_len, hd]
  refine WP_from 11 1 ms.length _ rfl (fun i e G => e 0 = adr P o v ∧ e 1 = adr Q o' v' ∧ e 8 = slc H.length 0 0 ms.length ms.length ∧ e 6 = agg [.int .i8 0, .int .i8 0] ∧ e 9 = agg (mvC (bsM f g ms (i - 1)).1) ∧ e 10 = .int .i64 (bsM f g ms (i - 1)).2 ∧ Pre G1 G) (by omega) hn ?_ ?_ (by simp) ⟨by simp, by simp, by simp, by simp, by simp [bsM_zero], by simp [bsM_zero], .refl⟩
  · rintro i e G h1i hi hii e4 h11 ⟨h0, h1e, h8, h6, h9, h10, pG⟩
    obtain ⟨k, rfl⟩ : ∃ k, i = k + 1 := ⟨i - 1, by omega⟩
    obtain ⟨q2, off2, ver2, ha2, hr2⟩ := (hx.pre pG).get1 hi
    rw [mvsC_elem hi] at hr2
    have hsm := hs _ hi
    obtain ⟨b1, b2⟩ := smallM_ok hsm
    have hsu := bsM_succ (f := f) (g := g) (ms := ms) (i := k)
    rw [show k + 1 - 1 = k from rfl] at h9 h10
    rw [show k + 1 + 1 - 1 = k + 1 from rfl]
    have w1 : IntKind.wrap .i64 (mv ms (k + 1)).1 = (mv ms (k + 1)).1 := wrap64 (by omega)
    have w2 : IntKind.wrap .i64 (mv ms (k + 1)).2 = (mv ms (k + 1)).2 := wrap64 (by omega)
    have hr2' := hr2
    have r0 := rd_part hr2 (o := 0) (m := 1) (by omega)
    have r1 := rd_part hr2 (o := 1) (m := 1) (by omega)
    simp [mvC] at r0 r1
    obtain ⟨Ga, hGa⟩ : ∃ Ga, Ga = G ++ [(⟨cs .u16 (zr 12 0), 1, 0, false⟩ : Blk)] := ⟨_, rfl⟩
    have pa : Pre G Ga := by rw [hGa]; exact Pre.one
    have pHa := (p1.trans pG).trans pa
    have h355 := call355 (pu := true) (H := Ga) (dx := (mv ms (k + 1)).1) (dy := (mv ms (k + 1)).2) hw (pHa.rd h1) (by omega) (by omega)
    generalize bsM f g ms k = t at *
    have hFW : FrW (shF f (mv ms (k + 1)).1 (mv ms (k + 1)).2) := dotsF_W
    generalize shF f (mv ms (k + 1)).1 (mv ms (k + 1)).2 = F at *
    obtain ⟨Gb, hGb⟩ : ∃ Gb, Gb = G ++ [(⟨cs .u16 F, 1, 0, false⟩ : Blk)] := ⟨_, rfl⟩
    have hwr : wr H.length false Ga G.length 0 0 (cs .u16 F) = some Gb := by
      rw [hGa, wr_last (b := ⟨cs .u16 (zr 12 0), 1, 0, false⟩) rfl rfl (p1.trans pG).len (by simp [hFW.len]), hGb]
    have pb : Pre G Gb := by rw [hGb]; exact Pre.one
    have rF : rd Gb G.length 0 0 12 = some (cs .u16 F) := by rw [hGb]; exact rd_last rfl (by simp [hFW.len])
    have hd2 := call325 (pu := true) hFW.len hwg.len rF (((p1.trans pG).trans pb).rd h2)
    have hidx : ((k + 1 : Nat) : Int) = (k : Int) + 1 := by omega
    by_cases hlt : difF F g < t.2
    · rw [if_pos hlt] at hsu
      simp [b372_1, h11, h0, h1e, h8, h6, h9, h10, hii, ha2, r0, r1, hr2, pb.rd hr2, w1, w2, ← hGa, zs_cs, h355, hwr, hFW.len, hd2, hlt, stM2, mvC_len, e4, hsu, wbOf, -idxAV_slc, -Int.natCast_add]
      exact pG.trans pb
    · rw [if_neg hlt] at hsu
      simp [b372_1, h11, h0, h1e, h8, h6, h9, h10, hii, ha2, r0, r1, hr2, pb.rd hr2, w1, w2, ← hGa, zs_cs, h355, hwr, hFW.len, hd2, hlt, stM2, mvC_len, e4, hsu, wbOf, -idxAV_slc, -Int.natCast_add]
      exact pG.trans pb
  · rintro e G h11 ⟨h0, h1e, h8, h6, h9, h10, pG⟩
    simp [b372_1, h11, h8, h6, h9, h10, stM, stM2, ldM, mvC_len, fin_mi, (p1.trans pG).take]
theorem call369 {pu : Bool} {H : Heap} {m : Int} : Call tab pu 369 [.int .i64 m] H = some (.bool (in1 m 0 4), H) := by
  refine Call_wp t369 (.inr rfl) rfl ?_
  simp [c369, k369, in295]
theorem call353 {pu : Bool} {H : Heap} {m : Int} : Call tab pu 353 [.int .i64 m] H = some (.bool (in1 m 0 4), H) := by
  refine Call_wp t353 (.inr rfl) rfl ?_
  simp [c353, k353, in304]
theorem in1_nat {m : Int} (h : in1 m 0 4 = true) : ∃ n : Nat, m = n ∧ n ≤ 4 := by
  simp [in1] at h
  obtain ⟨n, rfl⟩ := Int.eq_ofNat_of_zero_le h.1
  exact ⟨n, rfl, by omega⟩
/-- What a function makes of a book and more: a list of its own, and a code. -/
def RsK (f : Nat) (extra : List Value) (b : List (List Int)) (eszR nR : Nat) (vsR : List Value) (c : Int) : Prop := ∀ (G : Heap) (y : Value), Bk G y b →
  ∃ r G' β, Call tab true f (y :: extra) G = some (tup [r, .int .i64 c], G') ∧ Pre G G' ∧ Own G' r β G.length eszR nR vsR
theorem lsx_book {sp im eR mR hR wR : Nat} {extra : List Value} {H : Heap} {x : Value} {b : List (List Int)} {eszR nR : Nat} {vsR : List Value} {c : Int} {msR : Int → Nat → Value}
    (hs : Bk H x b) (hw : BkW b) (hbig : b.length ≤ 1000000)
    (hsp : RsK sp extra b eszR nR vsR c) (him : RsK im extra b eszR nR vsR c) (heq : EqF eR eszR nR vsR) (hmR : MkF mR eszR wR msR) (hhR : HdF hR eszR wR msR) (hnR : nR ≤ 1000000) :
    ∃ x1 G1 rs G1' x2 G2 ri G2' x3 G3 G4 G5 x4 G6 r4 G7, Call tab true 105 [x, .bool false] H = some (x1, G1) ∧ Call tab true sp (x1 :: extra) G1 = some (tup [rs, .int .i64 c], G1') ∧
      Call tab true 105 [x, .bool false] G1' = some (x2, G2) ∧ Call tab true im (x2 :: extra) G2 = some (tup [ri, .int .i64 c], G2') ∧ Call tab true eR [ri, rs] G2' = some (.bool true, G2') ∧
      Call tab true 105 [x, .bool false] G2' = some (x3, G3) ∧ Call tab true 107 [x2, x3] G3 = some (.bool true, G3) ∧
      (Call tab false 122 [x2, .int .i64 101] G3).bind (elder H.length false G3) = some (.int .i64 (101 + (b.length * 12 : Nat)), G4) ∧ Call tab true eR [ri, rs] G4 = some (.bool true, G4) ∧
      (Call tab false mR [ri, .int .i64 101] G4).bind (elder H.length false G4) = some (.int .i64 (101 + (nR * wR : Nat)), G5) ∧ Call tab true hR [ri, .int .i64 101] G5 = some (.int .i64 (101 + (nR * wR : Nat)), G5) ∧
      Call tab true 105 [x, .bool true] G5 = some (x4, G6) ∧ Call tab true im (x4 :: extra) G6 = some (tup [r4, .int .i64 c], G7) ∧ Call tab true eR [r4, rs] G7 = some (.bool true, G7) ∧
      Call tab true hR [ri, .int .i64 101] G7 = some (.int .i64 (101 + (nR * wR : Nat)), G7) ∧ Pre H G7 := by
  have hl := bkC_length hw
  obtain ⟨x1, G1, q1, k1, o1, p1⟩ := cp_own (pu := true) hl rfl (call105 hs hw hbig)
  obtain ⟨rs, G1', βs, w1, p1', os⟩ := hsp G1 x1 o1.sl
  have P1 := p1.trans p1'
  obtain ⟨x2, G2, q2, k2, o2, p2⟩ := cp_own (pu := true) hl rfl (call105 (SlR.pre P1 hs) hw hbig)
  obtain ⟨ri, G2', βi, w2, p2', oi⟩ := him G2 x2 o2.sl
  have P2 := (P1.trans p2).trans p2'
  have os2 := (os.pre p2).pre p2'
  have e1 := heq G2' ri rs oi.sl os2.sl
  obtain ⟨x3, G3, q3, k3, o3, p3⟩ := cp_own (pu := true) hl rfl (call105 (SlR.pre P2 hs) hw hbig)
  have P3 := P2.trans p3
  have e2 := call107 (pu := true) ((k2.pre p2').pre p3) k3 hw hbig
  have os3 := os2.pre p3
  have oi3 := oi.pre p3
  have o23 := (o2.pre p2').pre p3
  obtain ⟨G4, w3, s4, o24⟩ := mark122 G3 x2 _ _ b.length _ 101 o23 hbig (by omega) (by omega)
  have hG1 : H.length ≤ G1'.length := P1.len
  have P4 : Pre H G4 := s4.pre P3 fun b hb => by cases hb; exact hG1
  have hb2 : G1'.length < G2.length := o2.lt.2
  have os4 : Own G4 rs βs G1.length eszR nR vsR := os3.same s4 fun b hb he => by
    subst hb
    have := os.lt
    cases he; omega
  have oi4 : Own G4 ri βi G2.length eszR nR vsR := oi3.same s4 fun b hb he => by
    subst hb
    have := oi.lt
    cases he; omega
  have e3 := heq G4 ri rs oi4.sl os4.sl
  obtain ⟨G5, w4, s5, oi5⟩ := hmR G4 ri βi _ nR vsR 101 oi4 hnR (by omega) (by omega)
  have hG2 : H.length ≤ G2.length := (P1.trans p2).len
  have P5 : Pre H G5 := s5.pre P4 fun b hb => Nat.le_trans hG2 (oi.below b hb)
  have os5 : Own G5 rs βs G1.length eszR nR vsR := os4.same s5 fun b hb he => by
    subst hb
    have h1 := os.lt
    have h2 := oi.below b he
    have h3 := p2.len
    omega
  have w5 := hhR true G5 ri βi _ nR 101 oi5 hnR (by omega) (by omega)
  obtain ⟨x4, G6, q4, r4, p6⟩ := cp_true (pu := true) hl rfl (call105 (SlR.pre P5 hs) hw hbig)
  obtain ⟨r4', G7, β4, w6, p7, o4⟩ := him G6 x4 r4
  have P7 := (P5.trans p6).trans p7
  have os7 := (os5.pre p6).pre p7
  have oi7 := (oi5.pre p6).pre p7
  have e4 := heq G7 r4' rs o4.sl os7.sl
  have w7 := hhR true G7 ri βi _ nR 101 oi7 hnR (by omega) (by omega)
  refine ⟨x1, G1, rs, G1', x2, G2, ri, G2', x3, G3, G4, G5, x4, G6, r4', G7, q1, w1, q2, w2, e1, q3, e2, ?_, e3, ?_, w5, q4, w6, e4, w7, P7⟩
  · rw [w3]; exact elder_pre P3 P4
  · rw [w4]; exact elder_pre P4 P5
/- Tracks. -/
def trM (b : List (List Int)) (m i : Nat) : Int × Int := (bsM (fr b i) (fr b (i + 1)) (farM m) ((farM m).length - 1)).1
def trL (b : List (List Int)) (m k : Nat) : ML := (List.range k).map (trM b m)
theorem trL_succ {b : List (List Int)} {m k : Nat} : trL b m (k + 1) = trL b m k ++ [trM b m k] := by simp [trL, List.range_succ]
theorem trL_len {b : List (List Int)} {m k : Nat} : (trL b m k).length = k := by simp [trL]
theorem trL_push {b : List (List Int)} {m k : Nat} : mvsC (trL b m k) ++ mvC (trM b m k) = mvsC (trL b m (k + 1)) := by rw [mvsC_one, trL_succ]
def tkC (b : List (List Int)) (m : Int) : Int := if okB b = true then if in1 m 0 4 = true then 0 else 2 else 1
def tkL (b : List (List Int)) (m : Int) : ML := if tkC b m = 0 then trL b m.toNat (b.length - 1) else []
theorem own_nil {H : Heap} {esz : Nat} : Own H (.slice none 0 0) none H.length esz 0 [] := ⟨by simp, rfl, rfl⟩
theorem call151 {pu : Bool} {b : List (List Int)} {m : Int} (hw : BkW b) (hn : b.length ≤ 1000000) {H : Heap} {x : Value} (h : Bk H x b) :
    ∃ r G' β, Call tab pu 151 [x, .int .i64 m] H = some (tup [r, .int .i64 (tkC b m)], G') ∧ Pre H G' ∧ Own G' r β H.length 2 (tkL b m).length (mvsC (tkL b m)) := by
  have h1 := call316 (pu := true) h hw (by omega)
  cases k1 : okB b with
  | false =>
    have hc : tkC b m = 1 := by simp [tkC, k1]
    refine ⟨.slice none 0 0, H, none, Call_wp t151 (.inr rfl) rfl ?_, .refl, by rw [tkL, if_neg (by rw [hc]; decide)]; exact own_nil⟩
    simp [c151, k151, h1, k1, finish_nil2, hc]
  | true =>
    cases k2 : in1 m 0 4 with
    | false =>
      have hc : tkC b m = 2 := by simp [tkC, k1, k2]
      refine ⟨.slice none 0 0, H, none, Call_wp t151 (.inr rfl) rfl ?_, .refl, by rw [tkL, if_neg (by rw [hc]; decide)]; exact own_nil⟩
      simp [c151, k151, h1, k1, call369, k2, finish_nil2, hc]
    | true =>
      have hc : tkC b m = 0 := by simp [tkC, k1, k2]
      obtain ⟨hok, hl⟩ := okB_fs2 k1
      obtain ⟨n, rfl, hm⟩ := in1_nat k2
      obtain ⟨hs, hn1, hn9, h00⟩ := farM_ok hm
      have hL : tkL b n = trL b n (b.length - 1) := by rw [tkL, if_pos hc, Int.toNat_natCast]
      have hlen : (tkL b n).length = b.length - 1 := by rw [hL, trL_len]
      obtain ⟨G1, hG1⟩ : ∃ G1, G1 = H ++ [(⟨[], 2, 0, false⟩ : Blk)] := ⟨_, rfl⟩
      have p1 : Pre H G1 := by rw [hG1]; exact Pre.one
      have h371 := call371 (pu := true) (H := G1) hm
      obtain ⟨ms, hms⟩ : ∃ ms, ms = farM n := ⟨_, rfl⟩
      rw [← hms] at hs hn1 hn9 h00 h371
      have hl1 : G1.length = H.length + 1 := by rw [hG1]; simp
      rw [hl1] at h371
      obtain ⟨G2, hG2⟩ : ∃ G2, G2 = G1 ++ [(⟨mvsC ms, 2, 0, false⟩ : Blk)] := ⟨_, rfl⟩
      rw [← hG2] at h371
      have p2 : Pre G1 G2 := by rw [hG2]; exact Pre.one
      have g2 : G2[H.length + 1]? = some ⟨mvsC ms, 2, 0, false⟩ := by rw [hG2, ← hl1]; exact get_last
      have gr : GrB H G2 H.length (slc H.length 0 0 0 0) 2 0 [] := ⟨0, rfl, by rw [hG2, List.getElem?_append_left (by omega), hG1]; exact get_last, Nat.le_refl _, rfl, p1.trans p2⟩
      refine ⟨slc H.length 0 0 (b.length - 1) (b.length - 1), H ++ [⟨mvsC (tkL b n), 2, 0, false⟩], some H.length, Call_wp t151 (.inr rfl) rfl ?_, Pre.one, by rw [hlen]; exact own_new (by rw [mvsC_length, hlen])⟩
      simp [c151, k151, h1, k1, call369, k2, fill, rep, ← hG1, h371]
      refine WP_from 8 1 (max 1 b.length) _ rfl (fun i e G => e 0 = x ∧ e 7 = slc (H.length + 1) 0 0 ms.length ms.length ∧ G[H.length + 1]? = some ⟨mvsC ms, 2, 0, false⟩ ∧ ∃ g, e 6 = g ∧ GrB H G H.length g 2 (i - 1) (mvsC (trL b n (i - 1)))) (by omega) (by omega) ?_ ?_ (by simp) ⟨by simp, by simp, g2, _, by simp, gr⟩
      · rintro i e G h1i hi hii e4 h8 ⟨h0, h7, gm, g, h6, hg⟩
        obtain ⟨k, rfl⟩ : ∃ k, i = k + 1 := ⟨i - 1, by omega⟩
        have hk : k + 1 < b.length := by omega
        rw [show k + 1 - 1 = k from rfl] at hg
        rw [show k + 1 + 1 - 1 = k + 1 from rfl]
        have hPG : Pre H G := by obtain ⟨_, _, _, _, _, p⟩ := hg; exact p
        obtain ⟨q, off, ver, ha, hr⟩ := Bk.get (SlR.pre hPG h) hw (i := k) (by omega)
        obtain ⟨q2, off2, ver2, ha2, hr2⟩ := Bk.get (SlR.pre hPG h) hw hk
        have hx : SlR G (slc (H.length + 1) 0 0 ms.length ms.length) 2 ms.length (mvsC ms) :=
          ⟨by rw [mvsC_length], .inr ⟨_, 0, 0, _, rfl, Nat.le_refl _, by rw [rd_at gm rfl (by simp only [mvsC_length]; omega)]; simp only [List.drop_zero]; rw [List.take_of_length_le (by simp [mvsC_length])], _, gm, rfl, rfl⟩⟩
        have h370 := call370 (pu := true) (hw.fr (i := k) (by omega)) (okFs_get hok (i := k) (by omega)) (hw.fr hk) (okFs_get hok hk) hx hn1 hn9 hs h00
        have htr : trM b n k = (bsM (fr b k) (fr b (k + 1)) ms (ms.length - 1)).1 := by rw [trM, hms]
        rw [← htr] at h370
        have hf1 := fill_one (z := [.int .i8 0, .int .i8 0]) (v := agg (mvC (trM b n k))) (esz := 2) rfl rfl
        obtain ⟨g', G', hpush, hg', hkeep⟩ := hg.push (c := mvC (trM b n k)) (bytes := 2) rfl (room2 (by omega)) (wb := false)
        rw [trL_push] at hg'
        have gm' : G'[H.length + 1]? = some ⟨mvsC ms, 2, 0, false⟩ := by rw [hkeep _ (by omega) (List.getElem?_eq_some_iff.1 gm).1]; exact gm
        have e5 : IntKind.wrap .i64 ((k + 1 : Nat) - 1 : Int) = (k : Int) := by rw [wrap64 (by omega)]; omega
        have hlt : ((k + 1 : Nat) : Int) < b.length := by omega
        simp [b151_1, h8, h0, h7, h6, SlR.lenV h, hlt, e5, ha, hr, ha2, hr2, agg_cs, h370, stM, ldM, mvC_len, hf1, hpush, wbOf, e4, -Int.natCast_add]
        exact ⟨gm', hg'⟩
      · rintro e G h8 ⟨h0, h7, gm, g, h6, hg⟩
        have n1 : ¬ (((max 1 b.length : Nat) : Int) < b.length) := by omega
        have e1 : max 1 b.length - 1 = b.length - 1 := by omega
        rw [e1, ← hL] at hg
        have hfin := hg.gr.fin2 (c := 0) mvsC_flat
        simp [b151_1, h8, h0, h6, SlR.lenV h, n1, hfin, hc]
theorem call374 {pu : Bool} {H : Heap} {x : Value} {b : List (List Int)} {m : Int} (hw : BkW b) (hn : b.length ≤ 1000000) (h : Bk H x b) : Call tab pu 374 [x, .int .i64 m] H = some (.int .i64 (tkC b m), H) := by
  refine Call_wp t374 (.inr rfl) rfl ?_
  have h1 := call318 (pu := true) h hw (by omega)
  cases k1 : okB b with
  | false => simp [c374, k374, h1, k1, tkC]
  | true =>
    cases k2 : in1 m 0 4 with
    | false => simp [c374, k374, h1, k1, call353, k2, tkC]
    | true => simp [c374, k374, h1, k1, call353, k2, tkC]
theorem call375 {pu : Bool} {b : List (List Int)} {m : Nat} (hw : BkW b) (hn : b.length ≤ 40) (hm : m ≤ 4) {H : Heap} {x : Value} (h : Bk H x b) :
    Call tab pu 375 [x, .int .i64 (m : Int)] H = some (slc H.length 0 0 (b.length - 1) (b.length - 1), H ++ [⟨mvsC (trL b m (b.length - 1)), 2, 0, false⟩]) := by
  refine Call_wp t375 (.inr rfl) rfl ?_
  simp [c375, k375, fill, rep]
  refine WP_from 6 1 (max 1 b.length) _ rfl (fun i e G => e 0 = x ∧ e 1 = .int .i64 m ∧ ∃ g, e 5 = g ∧ Gr H G g 2 (i - 1) (mvsC (trL b m (i - 1)))) (by omega) (by omega) ?_ ?_ (by simp) ⟨by simp, by simp, _, by simp, Gr.new .refl⟩
  · rintro i e G h1i hi hii e4 h6 ⟨h0, h1, g, h5, hg⟩
    obtain ⟨k, rfl⟩ : ∃ k, i = k + 1 := ⟨i - 1, by omega⟩
    have hk : k + 1 < b.length := by omega
    rw [show k + 1 - 1 = k from rfl] at hg
    rw [show k + 1 + 1 - 1 = k + 1 from rfl]
    have hPG := hg.pre
    obtain ⟨q, off, ver, ha, hr⟩ := Bk.get (SlR.pre hPG h) hw (i := k) (by omega)
    obtain ⟨q2, off2, ver2, ha2, hr2⟩ := Bk.get (SlR.pre hPG h) hw hk
    have h372 := call372 (pu := true) (hw.fr (i := k) (by omega)) (hw.fr hk) hr hr2 hm
    have htr : trM b m k = (bsM (fr b k) (fr b (k + 1)) (farM m) ((farM m).length - 1)).1 := rfl
    rw [← htr] at h372
    have hf1 := fill_one (z := [.int .i8 0, .int .i8 0]) (v := agg (mvC (trM b m k))) (esz := 2) rfl rfl
    obtain ⟨g', G', hpush, hg'⟩ := hg.push (c := mvC (trM b m k)) (bytes := 2) rfl (room2 (by omega)) (wb := false)
    rw [trL_push] at hg'
    have e5 : IntKind.wrap .i64 ((k + 1 : Nat) - 1 : Int) = (k : Int) := by rw [wrap64 (by omega)]; omega
    have hlt : ((k + 1 : Nat) : Int) < b.length := by omega
    simp [b375_1, h6, h0, h1, h5, SlR.lenV h, hlt, e5, ha, ha2, h372, stM, ldM, mvC_len, hf1, hpush, wbOf, e4, -Int.natCast_add]
    exact hg'
  · rintro e G h6 ⟨h0, h1, g, h5, hg⟩
    have n1 : ¬ (((max 1 b.length : Nat) : Int) < b.length) := by omega
    have e1 : max 1 b.length - 1 = b.length - 1 := by omega
    rw [e1] at hg
    have hfin := hg.fin mvsC_flat
    simp [b375_1, h6, h0, h5, SlR.lenV h, n1, hfin]
def tinyM (a : Int × Int) : Bool := decide (-4 ≤ a.1 ∧ a.1 ≤ 4) && decide (-4 ≤ a.2 ∧ a.2 ≤ 4)
theorem tinyM_ok {a : Int × Int} (h : tinyM a = true) : (-4 ≤ a.1 ∧ a.1 ≤ 4) ∧ -4 ≤ a.2 ∧ a.2 ≤ 4 := by simpa [tinyM] using h
theorem farM_tiny : ∀ m : Nat, m < 5 → (farM m).all tinyM = true := by decide +kernel
theorem bsM_tiny {f g : List Int} {ms : ML} (h : ∀ i, i < ms.length → tinyM (mv ms i) = true) {k : Nat} (hk : k + 1 ≤ ms.length) : tinyM (bsM f g ms k).1 = true := by
  induction k with
  | zero => rw [bsM_zero]; rfl
  | succ k ih =>
    rw [bsM_succ]
    split
    · exact h _ (by omega)
    · exact ih (by omega)
theorem trM_tiny {b : List (List Int)} {m i : Nat} (hm : m ≤ 4) : tinyM (trM b m i) = true := by
  obtain ⟨_, h1, _, _⟩ := farM_ok hm
  exact bsM_tiny (fun i hi => List.all_eq_true.1 (farM_tiny m (by omega)) _ (at0_mem hi)) (by omega)
theorem trL_mv {b : List (List Int)} {m k i : Nat} (hi : i < k) : mv (trL b m k) i = trM b m i := by
  unfold mv at0 trL
  rw [List.getD_eq_getElem?_getD, List.getElem?_map, List.getElem?_range hi]; rfl
theorem mv_take {l : ML} {k i : Nat} (h : i < k) : mv (l.take k) i = mv l i := by
  unfold mv at0
  rw [List.getD_eq_getElem?_getD, List.getD_eq_getElem?_getD, List.getElem?_take, if_pos h]
theorem eastN_take {l : ML} {k : Nat} : ∀ i, i ≤ k → eastN (l.take k) i = eastN l i := by
  intro i
  induction i with
  | zero => intro _; simp [eastN, itN_zero]
  | succ i ih =>
    intro h
    rw [eastN, eastN, itN_succ, itN_succ, ← eastN, ← eastN, ih (by omega), mv_take (by omega)]
theorem southN_take {l : ML} {k : Nat} : ∀ i, i ≤ k → southN (l.take k) i = southN l i := by
  intro i
  induction i with
  | zero => intro _; simp [southN, itN_zero]
  | succ i ih =>
    intro h
    rw [southN, southN, itN_succ, itN_succ, ← southN, ← southN, ih (by omega), mv_take (by omega)]
theorem mvsC_take {l : ML} {k : Nat} : (mvsC l).take (k * 2) = mvsC (l.take k) := by
  induction l generalizing k with
  | nil => simp [mvsC, rowsC]
  | cons a r ih =>
    cases k with
    | zero => simp [mvsC, rowsC]
    | succ k =>
      have := ih (k := k)
      show (mvC a ++ mvsC r).take ((k + 1) * 2) = mvC a ++ mvsC (r.take k)
      rw [← this, show (k + 1) * 2 = (mvC a).length + k * 2 by rw [mvC_len]; omega, List.take_length_add_append]
theorem eastN_tiny {l : ML} (h : ∀ i, i < l.length → tinyM (mv l i) = true) {k : Nat} (hk : k ≤ l.length) : -4 * (k : Int) ≤ eastN l k ∧ eastN l k ≤ 4 * (k : Int) := by
  induction k with
  | zero => rw [eastN, itN_zero]; omega
  | succ k ih =>
    have h1 := ih (by omega)
    have h2 := (tinyM_ok (h k (by omega))).1
    rw [eastN, itN_succ, ← eastN]; omega
theorem southN_tiny {l : ML} (h : ∀ i, i < l.length → tinyM (mv l i) = true) {k : Nat} (hk : k ≤ l.length) : -4 * (k : Int) ≤ southN l k ∧ southN l k ≤ 4 * (k : Int) := by
  induction k with
  | zero => rw [southN, itN_zero]; omega
  | succ k ih =>
    have h1 := ih (by omega)
    have h2 := (tinyM_ok (h k (by omega))).2
    rw [southN, itN_succ, ← southN]; omega
def fbF (b : List (List Int)) (L : ML) (i : Nat) : List Int := shF (fr b i) (-eastN L i) (-southN L i)
def fbL (b : List (List Int)) (L : ML) (k : Nat) : List (List Int) := (List.range k).map (fbF b L)
theorem fbL_succ {b : List (List Int)} {L : ML} {k : Nat} : bkC (fbL b L (k + 1)) = bkC (fbL b L k) ++ cs .u16 (fbF b L k) := by
  unfold fbL
  rw [List.range_succ, List.map_append]
  show rowsC frC (_ ++ _) = _
  rw [rowsC_app]
  simp [bkC, rowsC, frC]
theorem fbL_len {b : List (List Int)} {L : ML} {k : Nat} : (fbL b L k).length = k := by simp [fbL]
theorem fbL_W {b : List (List Int)} {L : ML} {k : Nat} : ∀ f ∈ fbL b L k, f.length = 12 := by
  intro f hf
  unfold fbL at hf
  rw [List.mem_map] at hf
  obtain ⟨i, _, rfl⟩ := hf
  exact shF_length
def fwL (b : List (List Int)) (m : Int) : List (List Int) := if tkC b m = 0 then fbL b (tkL b m) b.length else []
theorem tk_ok {b : List (List Int)} {m : Int} (h : tkC b m = 0) : okB b = true ∧ ∃ n : Nat, m = n ∧ n ≤ 4 := by
  have k1 : okB b = true := by
    cases k : okB b with
    | true => rfl
    | false => simp [tkC, k] at h
  have k2 : in1 m 0 4 = true := by
    cases k : in1 m 0 4 with
    | true => rfl
    | false => simp [tkC, k1, k] at h
  exact ⟨k1, in1_nat k2⟩
theorem fwL_len {b : List (List Int)} {m : Int} : (fwL b m).length ≤ 40 := by
  unfold fwL
  split
  · rename_i h
    rw [fbL_len]; exact (okB_fs2 (tk_ok h).1).2
  · simp
theorem fwL_W {b : List (List Int)} {m : Int} : ∀ f ∈ fwL b m, f.length = 12 := by
  unfold fwL
  split
  · exact fbL_W
  · intro f hf; cases hf
theorem call155 {pu : Bool} {b : List (List Int)} {m : Int} (hw : BkW b) (hn : b.length ≤ 1000000) {H : Heap} {x : Value} (h : Bk H x b) :
    ∃ r G' β, Call tab pu 155 [x, .int .i64 m] H = some (tup [r, .int .i64 (tkC b m)], G') ∧ Pre H G' ∧ Own G' r β H.length 12 (fwL b m).length (bkC (fwL b m)) := by
  obtain ⟨r, G1, β, h1, p1, o1⟩ := call151 (pu := true) (m := m) hw hn h
  by_cases hc : tkC b m = 0
  · obtain ⟨k1, n, rfl, hm⟩ := tk_ok hc
    obtain ⟨hok, hl⟩ := okB_fs2 k1
    have hL : tkL b n = trL b n (b.length - 1) := by rw [tkL, if_pos hc, Int.toNat_natCast]
    have hLl : (tkL b n).length = b.length - 1 := by rw [hL, trL_len]
    have hti : ∀ i, i < (tkL b n).length → tinyM (mv (tkL b n) i) = true := fun i hi => by
      rw [hL, trL_mv (by omega)]; exact trM_tiny hm
    have hF : fwL b n = fbL b (tkL b n) b.length := by rw [fwL, if_pos hc]
    have hFl : (fwL b n).length = b.length := by rw [hF, fbL_len]
    have hcells : (bkC (fwL b n)).length = b.length * 12 := by
      rw [← hFl]
      exact rows_length (f := frC) (esz := 12) fun f hf => by
        have := fwL_W f hf
        simp [frC, this]
    generalize hLL : tkL b n = L at *
    refine ⟨slc H.length 0 0 b.length b.length, H ++ [⟨bkC (fwL b n), 12, 0, false⟩], some H.length, Call_wp t155 (.inr rfl) rfl ?_, Pre.one, by rw [hFl]; exact own_new hcells⟩
    obtain ⟨G2, hG2⟩ : ∃ G2, G2 = G1 ++ [(⟨[], 12, 0, false⟩ : Blk)] := ⟨_, rfl⟩
    have p2 : Pre G1 G2 := by rw [hG2]; exact Pre.one
    have hG1l := p1.len
    have gr : GrB H G2 G1.length (slc G1.length 0 0 0 0) 12 0 [] := ⟨0, rfl, by rw [hG2]; exact get_last, hG1l, rfl, p1.trans p2⟩
    simp [c155, k155, h1, hc, fill, rep, ← hG2, SlR.lenV h]
    have hβ : ∀ q, β = some q → q < G1.length := fun q hq => by subst hq; exact o1.lt.2
    refine WP_count 26 b.length _ rfl (fun i e G => e 6 = r ∧ e 24 = x ∧ e 25 = .int .i64 b.length ∧ Own G r β H.length 2 L.length (mvsC L) ∧ ∃ g, e 8 = g ∧ GrB H G G1.length g 12 i (bkC (fbL b L i))) (by omega) ?_ ?_ (by simp) ⟨by simp, by simp, by simp, o1.pre p2, _, by simp, gr⟩
    · rintro i e G _ hi hii e4 h26 ⟨h6, h24, h25, ho, g, h8, hg⟩
      have hPG : Pre H G := by obtain ⟨_, _, _, _, _, p⟩ := hg; exact p
      obtain ⟨q, off, ver, ha, hr⟩ := Bk.get (SlR.pre hPG h) hw hi
      obtain ⟨y, hy, hY⟩ := ho.sl.hi (hi := i) (k' := .i64) (by omega)
      rw [mvsC_take] at hY
      have hTl : (L.take i).length = i := by simp; omega
      have hY' : SlR G y 2 (L.take i).length (mvsC (L.take i)) := by rw [hTl]; exact hY
      have b1 := eastN_tiny hti (k := i) (by omega)
      have b2 := southN_tiny hti (k := i) (by omega)
      have h71 := call71 (pu := true) hY' (by omega) (fun j hj => by
        rw [mv_take (by omega)]
        have := tinyM_ok (hti j (by omega))
        exact ⟨by constructor <;> omega, by constructor <;> omega⟩)
      rw [sumR, hTl, eastN_take i (Nat.le_refl i), southN_take i (Nat.le_refl i)] at h71
      have w1 : IntKind.wrap .i64 (-eastN L i) = -eastN L i := wrap64 (by omega)
      have w2 : IntKind.wrap .i64 (-southN L i) = -southN L i := wrap64 (by omega)
      have h358 := call358 (pu := true) (H := G) (dx := -eastN L i) (dy := -southN L i) (hw.fr hi) (okFs_get hok hi) (by omega) (by omega)
      have hFd : shF (fr b i) (-eastN L i) (-southN L i) = fbF b L i := rfl
      rw [hFd] at h358
      have hFl2 : (fbF b L i).length = 12 := shF_length
      have hff := fillF hFl2
      obtain ⟨g', G', hpush, hg', hkeep⟩ := hg.push (c := cs .u16 (fbF b L i)) (bytes := 24) (by simp [hFl2]) (room24 (by omega)) (wb := false)
      rw [← fbL_succ] at hg'
      have ho' := ho.agree (G' := G') fun q hq => hkeep q (by have := hβ q hq; omega) (by subst hq; exact ho.lt.2)
      have hfl := (hw.fr hi).len
      simp [b155_1, h26, h6, h24, h25, h8, hii, ha, hr, zs_cs, agg_cs, hfl, stc_zr, hy, h71, w1, w2, h358, hff, hpush, wbOf, e4]
      exact ⟨ho', hg'⟩
    · rintro e G _ h26 ⟨h6, h24, h25, ho, g, h8, hg⟩
      rw [← hF] at hg
      have hfin := hg.gr.fin2 (c := 0) bkC_flat
      simp [b155_1, h26, h25, h8, hfin, hc]
  · have hb : (tkC b m != 0) = true := by simpa using hc
    refine ⟨.slice none 0 0, H, none, Call_wp t155 (.inr rfl) rfl ?_, .refl, by rw [fwL, if_neg hc]; exact own_nil⟩
    simp [c155, k155, h1, hb, finish_nil2, p1.take]
theorem call156 {pu : Bool} {b : List (List Int)} {m : Int} (hw : BkW b) (hn : b.length ≤ 1000000) {H : Heap} {x : Value} (h : Bk H x b) :
    ∃ r G' β, Call tab pu 156 [x, .int .i64 m] H = some (tup [r, .int .i64 (tkC b m)], G') ∧ Pre H G' ∧ Own G' r β H.length 12 (fwL b m).length (bkC (fwL b m)) := by
  have h1 := call374 (pu := true) (m := m) hw hn h
  by_cases hc : tkC b m = 0
  · obtain ⟨k1, n, rfl, hm⟩ := tk_ok hc
    obtain ⟨hok, hl⟩ := okB_fs2 k1
    have hL : tkL b n = trL b n (b.length - 1) := by rw [tkL, if_pos hc, Int.toNat_natCast]
    have hLl : (tkL b n).length = b.length - 1 := by rw [hL, trL_len]
    have hti : ∀ i, i < (tkL b n).length → tinyM (mv (tkL b n) i) = true := fun i hi => by
      rw [hL, trL_mv (by omega)]; exact trM_tiny hm
    have hF : fwL b n = fbL b (tkL b n) b.length := by rw [fwL, if_pos hc]
    have hFl : (fwL b n).length = b.length := by rw [hF, fbL_len]
    have hcells : (bkC (fwL b n)).length = b.length * 12 := by
      rw [← hFl]
      exact rows_length (f := frC) (esz := 12) fun f hf => by
        have := fwL_W f hf
        simp [frC, this]
    have h375 := call375 (pu := true) hw hl hm h
    rw [← hL] at h375
    obtain ⟨G1, hG1⟩ : ∃ G1, G1 = H ++ [(⟨mvsC (tkL b n), 2, 0, false⟩ : Blk)] := ⟨_, rfl⟩
    rw [← hG1] at h375
    have p1 : Pre H G1 := by rw [hG1]; exact Pre.one
    have hl1 : G1.length = H.length + 1 := by rw [hG1]; simp
    generalize hLL : tkL b n = L at *
    refine ⟨slc H.length 0 0 b.length b.length, H ++ [⟨bkC (fwL b n), 12, 0, false⟩], some H.length, Call_wp t156 (.inr rfl) rfl ?_, Pre.one, by rw [hFl]; exact own_new hcells⟩
    have g1 : G1[H.length]? = some ⟨mvsC L, 2, 0, false⟩ := by rw [hG1]; exact get_last
    obtain ⟨G2, hG2⟩ : ∃ G2, G2 = G1 ++ [(⟨[], 12, 0, false⟩ : Blk)] := ⟨_, rfl⟩
    have p2 : Pre G1 G2 := by rw [hG2]; exact Pre.one
    have g2 : G2[H.length]? = some ⟨mvsC L, 2, 0, false⟩ := by rw [p2.get (by omega)]; exact g1
    have gr : GrB H G2 G1.length (slc G1.length 0 0 0 0) 12 0 [] := ⟨0, rfl, by rw [hG2]; exact get_last, p1.len, rfl, p1.trans p2⟩
    simp [c156, k156, h1, hc, h375, fill, rep, ← hG2]
    refine WP_count 11 b.length _ rfl (fun i e G => e 0 = x ∧ e 7 = slc H.length 0 0 (b.length - 1) (b.length - 1) ∧ e 9 = .int .i64 (eastN L (i - 1)) ∧ e 10 = .int .i64 (southN L (i - 1)) ∧ G[H.length]? = some ⟨mvsC L, 2, 0, false⟩ ∧ ∃ g, e 8 = g ∧ GrB H G G1.length g 12 i (bkC (fbL b L i))) (by omega) ?_ ?_ (by simp) ⟨by simp, by simp, by simp [eastN, itN_zero], by simp [southN, itN_zero], g2, _, by simp, gr⟩
    · rintro i e G _ hi hii e4 h11 ⟨h0, h7, h9, h10, gm, g, h8, hg⟩
      have hPG : Pre H G := by obtain ⟨_, _, _, _, _, p⟩ := hg; exact p
      obtain ⟨q, off, ver, ha, hr⟩ := Bk.get (SlR.pre hPG h) hw hi
      have b1 := eastN_tiny hti (k := i) (by omega)
      have b2 := southN_tiny hti (k := i) (by omega)
      have w1 : IntKind.wrap .i64 (-eastN L i) = -eastN L i := wrap64 (by omega)
      have w2 : IntKind.wrap .i64 (-southN L i) = -southN L i := wrap64 (by omega)
      have h355 := call355 (pu := true) (H := G) (dx := -eastN L i) (dy := -southN L i) (hw.fr hi) hr (by omega) (by omega)
      have hFd : shF (fr b i) (-eastN L i) (-southN L i) = fbF b L i := rfl
      rw [hFd] at h355
      have hFl2 : (fbF b L i).length = 12 := shF_length
      have hff := fillF hFl2
      obtain ⟨g', G', hpush, hg', hkeep⟩ := hg.push (c := cs .u16 (fbF b L i)) (bytes := 24) (by simp [hFl2]) (room24 (by omega)) (wb := false)
      rw [← fbL_succ] at hg'
      have gm' : G'[H.length]? = some ⟨mvsC L, 2, 0, false⟩ := by rw [hkeep _ (by omega) (List.getElem?_eq_some_iff.1 gm).1]; exact gm
      by_cases hi0 : i = 0
      · subst hi0
        have z1 : eastN L 0 = 0 := by simp [eastN, itN_zero]
        have z2 : southN L 0 = 0 := by simp [southN, itN_zero]
        rw [show 0 - 1 = 0 from rfl] at h9 h10
        rw [z1] at h9 h355 w1
        rw [z2] at h10 h355 w2
        simp at h355 ha hii h11 e4 w1 w2
        simp [b156_1, h11, h0, h7, h9, h10, h8, SlR.lenV h, hii, ha, w1, w2, h355, zs_cs, agg_cs, hff, hpush, wbOf, e4, z1, z2]
        exact ⟨gm', hg'⟩
      · obtain ⟨k, rfl⟩ : ∃ k, i = k + 1 := ⟨i - 1, by omega⟩
        rw [show k + 1 - 1 = k from rfl] at h9 h10
        have hx : SlR G (slc H.length 0 0 (b.length - 1) (b.length - 1)) 2 (b.length - 1) (mvsC L) :=
          ⟨by rw [mvsC_length, hLl], .inr ⟨_, 0, 0, _, rfl, Nat.le_refl _, by rw [rd_at gm rfl (by simp only [mvsC_length]; omega)]; simp only [List.drop_zero]; rw [List.take_of_length_le (by simp [mvsC_length]; omega)], _, gm, rfl, rfl⟩⟩
        obtain ⟨q2, off2, ver2, ha2, hr2⟩ := hx.get1 (i := k) (by omega)
        rw [mvsC_elem (by omega)] at hr2
        have r0 := rd_part hr2 (o := 0) (m := 1) (by omega)
        have r1 := rd_part hr2 (o := 1) (m := 1) (by omega)
        simp [mvC] at r0 r1
        have t := tinyM_ok (hti k (by omega))
        have b3 := eastN_tiny hti (k := k) (by omega)
        have b4 := southN_tiny hti (k := k) (by omega)
        have e5 : IntKind.wrap .i64 (((k + 1 : Nat) : Int) - 1) = (k : Int) := by rw [wrap64 (by omega)]; omega
        have z1 : eastN L (k + 1) = eastN L k + (mv L k).1 := itN_succ
        have z2 : southN L (k + 1) = southN L k + (mv L k).2 := itN_succ
        have w3 : IntKind.wrap .i64 (eastN L k + (mv L k).1) = eastN L (k + 1) := by rw [wrap64 (by omega), z1]
        have w4 : IntKind.wrap .i64 (southN L k + (mv L k).2) = southN L (k + 1) := by rw [wrap64 (by omega), z2]
        have w5 : IntKind.wrap .i64 (mv L k).1 = (mv L k).1 := wrap64 (by omega)
        have w6 : IntKind.wrap .i64 (mv L k).2 = (mv L k).2 := wrap64 (by omega)
        have hpos : (0 : Int) < ((k + 1 : Nat) : Int) := by omega
        simp [b156_1, h11, h0, h7, h9, h10, h8, SlR.lenV h, hii, hpos, e5, ha, ha2, r0, r1, w5, w6, w3, w4, w1, w2, h355, zs_cs, agg_cs, hff, hpush, wbOf, e4, -idxAV_slc, -Int.natCast_add]
        exact ⟨gm', hg'⟩
    · rintro e G _ h11 ⟨h0, h7, h9, h10, gm, g, h8, hg⟩
      rw [← hF] at hg
      have hfin := hg.gr.fin2 (c := 0) bkC_flat
      simp [b156_1, h11, h0, h8, SlR.lenV h, hfin, hc]
  · have hb : (tkC b m != 0) = true := by simpa using hc
    have hfin := (Gr.new (H := H) (esz := 12) .refl).fin2 (c := tkC b m) (by intro v hv; simp at hv)
    refine ⟨slc H.length 0 0 0 0, H ++ [⟨[], 12, 0, false⟩], some H.length, Call_wp t156 (.inr rfl) rfl ?_, Pre.one, by rw [fwL, if_neg hc]; exact own_new (n := 0) rfl⟩
    simp [c156, k156, h1, hb, fill, rep, hfin]
theorem call51 {H : Heap} {x : Value} {b : List (List Int)} {m : Int} (hs : Bk H x b) (hw : BkW b) (hn : b.length ≤ 9223372036854775807) : ∃ H', Call tab false 51 [x, .int .i64 m] H = some (.bool true, H') := by
  refine ⟨H, Call_wp t51 (.inl rfl) rfl ?_⟩
  have hsz := sz_call s103 (pu := true) hs (left := 1000000) (by omega) (by omega) hn
  by_cases hbig : b.length ≤ 1000000
  · have hsz' : ¬ (1000000 - (b.length : Int) < 0) := by omega
    rw [if_neg hsz'] at hsz
    have hlen := fwL_len (b := b) (m := m)
    obtain ⟨x1, G1, rs, G1', x2, G2, ri, G2', x3, G3, G4, G5, x4, G6, r4, G7, q1, w1, q2, w2, e1, q3, i1, m2, e3, n5, d1, q4, w3, e4, d2, P7⟩ := lsx_book (sp := 156) (im := 155) (extra := [.int .i64 m]) hs hw hbig (fun G y h => call156 (pu := true) hw hbig h) (fun G y h => call155 (pu := true) hw hbig h) (eqBk fwL_W (by omega)) mark122 held123 (by omega)
    have hneg : ¬ ((101 : Int) + (((fwL b m).length * 12 : Nat) : Int) < 0) := by omega
    have hneg2 : ¬ ((101 : Int) + ((b.length * 12 : Nat) : Int) < 0) := by omega
    simp [c51, k51, hsz, hsz', wbOf, q1, w1, q2, w2, e1, q3, i1, m2, e3, n5, d1, q4, w3, e4, d2, hneg, hneg2, skip, P7.take, -Int.natCast_add, -Int.natCast_mul]
  · have hsz' : 1000000 - (b.length : Int) < 0 := by omega
    rw [if_pos hsz'] at hsz
    simp [c51, k51, hsz]
end Fb
